import PyProof.Rows.All
import Wide.All
import OpenK.AllK
import Wide.FinOn
import HandS.ForMost
import HandS.ForExc
import HandS.TupAny
import HandS.TupMul
import HandS.Wide
import HandS.ExcCtx
import HandS.Style
import HandS.Flow
import HandS.Zip
import HandS.CallSlots
import HandS.MethStar
import HandS.IsInst
import KE.SortData
import HandS.WordsDict
import HandS.SortInts
import HandS.Conv
import HandS.EndBits
import HandS.HotCalls
import HandS.ExcIs
import HandS.Deep
import HandS.More
import KE.DataMinMax
import PyProof.Rows.StrMeet
import HandS.Rev
import KE.GoesComp
import KE.GoesMore
import HandS.DictComp
import KE.KEqDict
import HandS.DictTup
import PyProof.DictMoreH
import HandS.Set
import PyProof.Rows.SetFrom
import PyProof.Rows.SortStr
import KE.DataEq
import PySem.Challenge.RW_plainpath_k10_routes_and_rules_refused
set_option Elab.async false
set_option linter.all false
set_option maxRecDepth 100000
set_option maxHeartbeats 4000000
set_option autoImplicit false
/-! DL1: data without a heap, a store of the things that change, and how both lie in the hand layer's abstract heap. -/
namespace DL
open PySem L2

/-- data: lists and tuples by value; what changes by its place in the store; a def by a number -/
inductive D where
  | non | bl (b : Bool) | int (i : Int) | str (s : Str) | tup (xs : List D) | lst (xs : List D) | loc (l : Nat) | fn (i : Nat) | scr (ns : List Int) | kt (ss : List Str)

/-- what changes -/
inductive Ob where
  | lst (xs : List D)
  | dk (z : Bool) (kvs : List (Key × D))
  | dt (z : Bool) (kvs : List (List Key × D))
  | ins (c : Nat) (fs : List D)

abbrev Sto := List Ob
abbrev En := List (Option D)

/-- the ghosts: the written part, where classes and defs lie -/
structure Gh where
  K : PySem.W.Frag
  cA : Nat → Addr
  fA : Nat → Addr
  fld : Nat → List Str
  M : List Addr
/-- one more list that is being made: nothing that is told stands there -/
abbrev Gh.push (g : Gh) (p : Addr) : Gh := { g with M := p :: g.M }
abbrev Gh.wm (g : Gh) (M : List Addr) : Gh := { g with M := M }

/-- a text that can stand in data: not too long, of code points -/
structure SOk (s : Str) : Prop where
  len : s.length ≤ sizeLine
  cps : ∀ c ∈ s.cps.toList, c < 0x110000

/-- a tuple of the written part -/
def KTup (K : PySem.W.Frag) (a : Addr) (xs : List V) : Prop :=
  ∃ (o : Obj) (its : Array Value) (n : Nat), K.lookup a = some o ∧ o.cls = .type "tuple" ∧ o.data = .seq its n ∧ its.size ≤ sizeLine ∧ Vals xs its.toList

/-- a list of the written part -/
def KLst (K : PySem.W.Frag) (a : Addr) (xs : List V) : Prop :=
  ∃ (o : Obj) (its : Array Value) (n : Nat), K.lookup a = some o ∧ o.cls = .type "list" ∧ o.dict = none ∧ o.data = .seq its n ∧ its.size ≤ sizeLine ∧ Vals xs its.toList
mutual
def Rep (g : Gh) (A : List Addr) (H : Hp) : D → V → Prop
  | .non, v => v = .non
  | .bl b, v => v = .bl b
  | .int i, v => v = .int i
  | .str s, v => v = .str s ∧ SOk s
  | .tup ds, v => ∃ a vs, v = .ref a ∧ H a = some (.tup vs) ∧ a ∉ A ∧ Reps g A H ds vs
  | .kt ss, v => ∃ a, v = .ref a ∧ KTup g.K a (ss.map V.str)
  | .lst ds, v => ∃ a vs, v = .ref a ∧ H a = some (.lst vs) ∧ (a ∉ A ∧ a ∉ g.M) ∧ Reps g A H ds vs
  | .loc l, v => ∃ a, v = .ref a ∧ A[l]? = some a
  | .fn i, v => v = .ref (g.fA i)
  | .scr ns, v => ∃ a, v = .ref a ∧ ((Rd H a (.lst (ns.map V.int)) ∧ a ∉ A ∧ a ∉ g.M) ∨ KLst g.K a (ns.map V.int))
def Reps (g : Gh) (A : List Addr) (H : Hp) : List D → List V → Prop
  | [], vs => vs = []
  | d :: ds, vs => ∃ v r, vs = v :: r ∧ Rep g A H d v ∧ Reps g A H ds r
end

/-- from one abstract heap to a later one: the store's places stay and grow, all else that was there is as it was -/
structure Ext0 (A : List Addr) (H : Hp) (A' : List Addr) (H' : Hp) : Prop where
  pre : ∃ B, A' = A ++ B
  keep : ∀ b o, b ∉ A → H b = some o → b ∉ A' ∧ H' b = some o
/-- .. and what is locked stays locked -/
structure Ext (A : List Addr) (H : Hp) (A' : List Addr) (H' : Hp) : Prop extends Ext0 A H A' H' where
  frz : ∀ b o u, H b = some (.frz o u) → H' b = some (.frz o u)
theorem Ext.refl (A : List Addr) (H : Hp) : Ext A H A H := ⟨⟨⟨[], by simp⟩, fun _ _ h e => ⟨h, e⟩⟩, fun _ _ _ e => e⟩
theorem Ext.trans {A A1 A2 : List Addr} {H H1 H2 : Hp} (a : Ext A H A1 H1) (b : Ext A1 H1 A2 H2) : Ext A H A2 H2 :=
  ⟨⟨by obtain ⟨B, e⟩ := a.pre; obtain ⟨B', e'⟩ := b.pre; exact ⟨B ++ B', by rw [e', e, List.append_assoc]⟩, fun c o h e => let ⟨h1, e1⟩ := a.keep c o h e; b.keep c o h1 e1⟩, fun c o u e => b.frz c o u (a.frz c o u e)⟩
theorem Ext0.at {A A' : List Addr} {H H' : Hp} (x : Ext0 A H A' H') {l : Nat} {a : Addr} (e : A[l]? = some a) : A'[l]? = some a := by
  obtain ⟨B, q⟩ := x.pre
  rw [q, List.getElem?_append_left (List.getElem?_eq_some_iff.mp e).1]
  exact e
theorem Ext.at {A A' : List Addr} {H H' : Hp} (x : Ext A H A' H') {l : Nat} {a : Addr} (e : A[l]? = some a) : A'[l]? = some a := x.toExt0.at e
theorem Ext0.rd {A A' : List Addr} {H H' : Hp} (x : Ext0 A H A' H') {a : Addr} {u : HO} (r : Rd H a u) (n : a ∉ A) : Rd H' a u ∧ a ∉ A' := by
  rcases r with r | ⟨o, r⟩
  · exact ⟨.inl (x.keep a _ n r).2, (x.keep a _ n r).1⟩
  · exact ⟨.inr ⟨o, (x.keep a _ n r).2⟩, (x.keep a _ n r).1⟩
theorem Ext.rd {A A' : List Addr} {H H' : Hp} (x : Ext A H A' H') {a : Addr} {u : HO} (r : Rd H a u) (n : a ∉ A) : Rd H' a u ∧ a ∉ A' := x.toExt0.rd r n

mutual
theorem Rep.ext0 {g : Gh} {A A' : List Addr} {H H' : Hp} (x : Ext0 A H A' H') : ∀ {d : D} {v : V}, Rep g A H d v → Rep g A' H' d v
  | .non, _, h => h
  | .bl _, _, h => h
  | .int _, _, h => h
  | .str _, _, h => h
  | .tup ds, v, h => by
    unfold Rep at h ⊢
    obtain ⟨a, vs, e, q, n, r⟩ := h
    exact ⟨a, vs, e, (x.keep a _ n q).2, (x.keep a _ n q).1, Reps.ext0 x r⟩
  | .kt ss, v, h => by
    unfold Rep at h ⊢
    exact h
  | .lst ds, v, h => by
    unfold Rep at h ⊢
    obtain ⟨a, vs, e, q, n, r⟩ := h
    exact ⟨a, vs, e, (x.keep a _ n.1 q).2, ⟨(x.keep a _ n.1 q).1, n.2⟩, Reps.ext0 x r⟩
  | .loc l, v, h => by
    unfold Rep at h ⊢
    obtain ⟨a, e, q⟩ := h
    exact ⟨a, e, x.at q⟩
  | .fn _, _, h => h
  | .scr ns, v, h => by
    unfold Rep at h ⊢
    obtain ⟨a, e, q⟩ := h
    refine ⟨a, e, ?_⟩
    rcases q with ⟨q, n, n2⟩ | q
    · exact .inl ⟨(x.rd q n).1, (x.rd q n).2, n2⟩
    · exact .inr q
theorem Reps.ext0 {g : Gh} {A A' : List Addr} {H H' : Hp} (x : Ext0 A H A' H') : ∀ {ds : List D} {vs : List V}, Reps g A H ds vs → Reps g A' H' ds vs
  | [], vs, h => h
  | d :: ds, vs, h => by
    unfold Reps at h ⊢
    obtain ⟨v, r, e, p, q⟩ := h
    exact ⟨v, r, e, Rep.ext0 x p, Reps.ext0 x q⟩
end

theorem Rep.ext {g : Gh} {A A' : List Addr} {H H' : Hp} {d : D} {v : V} (x : Ext A H A' H') (r : Rep g A H d v) : Rep g A' H' d v := Rep.ext0 x.toExt0 r
theorem Reps.ext {g : Gh} {A A' : List Addr} {H H' : Hp} {ds : List D} {vs : List V} (x : Ext A H A' H') (r : Reps g A H ds vs) : Reps g A' H' ds vs := Reps.ext0 x.toExt0 r

section
variable {g : Gh} {A A' : List Addr} {H H' : Hp}
theorem Reps.nil : Reps g A H [] [] := by unfold Reps; rfl
theorem Reps.cons {d : D} {v : V} {ds : List D} {vs : List V} (p : Rep g A H d v) (q : Reps g A H ds vs) : Reps g A H (d :: ds) (v :: vs) := by
  unfold Reps; exact ⟨v, vs, rfl, p, q⟩
theorem Reps.nil_inv {vs : List V} (h : Reps g A H [] vs) : vs = [] := by unfold Reps at h; exact h
theorem Reps.cons_inv {d : D} {ds : List D} {vs : List V} (h : Reps g A H (d :: ds) vs) : ∃ v r, vs = v :: r ∧ Rep g A H d v ∧ Reps g A H ds r := by unfold Reps at h; exact h
theorem Reps.len : ∀ {ds : List D} {vs : List V}, Reps g A H ds vs → ds.length = vs.length
  | [], vs, h => by rw [h.nil_inv]; rfl
  | d :: ds, vs, h => by
    obtain ⟨v, r, rfl, _, q⟩ := h.cons_inv
    rw [List.length_cons, List.length_cons, Reps.len q]
theorem Reps.get : ∀ {ds : List D} {vs : List V} {i : Nat} {d : D}, Reps g A H ds vs → ds[i]? = some d → ∃ v, vs[i]? = some v ∧ Rep g A H d v
  | [], _, _, _, _, e => by simp at e
  | d :: ds, vs, 0, _, h, e => by
    obtain ⟨v, r, rfl, p, _⟩ := h.cons_inv
    simp at e; subst e; exact ⟨v, rfl, p⟩
  | d :: ds, vs, i + 1, x, h, e => by
    obtain ⟨v, r, rfl, _, q⟩ := h.cons_inv
    exact Reps.get (i := i) q (by simpa using e)
theorem Reps.get' : ∀ {ds : List D} {vs : List V} {i : Nat} {v : V}, Reps g A H ds vs → vs[i]? = some v → ∃ d, ds[i]? = some d ∧ Rep g A H d v
  | [], vs, i, v, h, e => by rw [h.nil_inv] at e; simp at e
  | d :: ds, vs, 0, v, h, e => by
    obtain ⟨v', r, rfl, p, _⟩ := h.cons_inv
    simp at e; subst e; exact ⟨d, rfl, p⟩
  | d :: ds, vs, i + 1, v, h, e => by
    obtain ⟨v', r, rfl, _, q⟩ := h.cons_inv
    exact Reps.get' (i := i) q (by simpa using e)
theorem Reps.append : ∀ {ds es : List D} {vs ws : List V}, Reps g A H ds vs → Reps g A H es ws → Reps g A H (ds ++ es) (vs ++ ws)
  | [], es, vs, ws, h, q => by rw [h.nil_inv]; exact q
  | d :: ds, es, vs, ws, h, q => by
    obtain ⟨v, r, rfl, p, s⟩ := h.cons_inv
    exact .cons p (Reps.append s q)
theorem Reps.take : ∀ {ds : List D} {vs : List V} (n : Nat), Reps g A H ds vs → Reps g A H (ds.take n) (vs.take n)
  | [], vs, n, h => by rw [h.nil_inv]; simp; exact .nil
  | d :: ds, vs, 0, h => by simp; exact .nil
  | d :: ds, vs, n + 1, h => by
    obtain ⟨v, r, rfl, p, s⟩ := h.cons_inv
    exact .cons p (Reps.take n s)
theorem Reps.drop : ∀ {ds : List D} {vs : List V} (n : Nat), Reps g A H ds vs → Reps g A H (ds.drop n) (vs.drop n)
  | [], vs, n, h => by rw [h.nil_inv]; simp; exact .nil
  | d :: ds, vs, 0, h => h
  | d :: ds, vs, n + 1, h => by
    obtain ⟨v, r, rfl, p, s⟩ := h.cons_inv
    exact Reps.drop n s
theorem Reps.ints : ∀ {ns : List Int} {vs : List V}, Reps g A H (ns.map D.int) vs → vs = ns.map V.int
  | [], vs, h => h.nil_inv
  | n :: ns, vs, h => by
    obtain ⟨v, r, rfl, p, s⟩ := h.cons_inv
    unfold Rep at p
    rw [p, Reps.ints s]; rfl
theorem Reps.of_ints : ∀ (ns : List Int), Reps g A H (ns.map D.int) (ns.map V.int)
  | [] => .nil
  | n :: ns => .cons (by unfold Rep; rfl) (Reps.of_ints ns)
end

def KOk : Key → Prop
  | .inl _ => True
  | .inr s => SOk s
/-- a thing of the store -/
def ObR (g : Gh) (A : List Addr) (H : Hp) (a : Addr) : Ob → Prop
  | .lst ds => ∃ vs, H a = some (.lst vs) ∧ Reps g A H ds vs
  | .dk z kvs => ∃ kv', (if z = true then ∃ o, H a = some (.frz o (.dK kv')) else H a = some (.dK kv')) ∧ Paired (fun (p : Key × D) (q : Key × V) => p.1 = q.1 ∧ Rep g A H p.2 q.2) kvs kv' ∧ ∀ p ∈ kvs, KOk p.1
  | .dt z kvs => ∃ kv', (if z = true then ∃ o, H a = some (.frz o (.dT kv')) else H a = some (.dT kv')) ∧ Paired (fun (p : List Key × D) (q : List Key × V) => p.1 = q.1 ∧ Rep g A H p.2 q.2) kvs kv' ∧ ∀ p ∈ kvs, ∀ k ∈ p.1, KOk k
  | .ins c fs => ∃ dx vs, H a = some (.ins (g.cA c) dx ((g.fld c).zip vs)) ∧ vs.length ≤ (g.fld c).length ∧ Reps g A H fs vs

structure StOk (g : Gh) (A : List Addr) (st : Sto) (H : Hp) : Prop where
  len : A.length = st.length
  nd : A.Nodup
  obj : ∀ (l : Nat) (a : Addr) (o : Ob), A[l]? = some a → st[l]? = some o → ObR g A H a o
  res : ∀ m ∈ g.M, m ∉ A ∧ ∃ u, H m = some u

theorem prd_mono {α β : Type} {F G : α → β → Prop} : ∀ {l₁ : List α} {l₂ : List β}, Paired F l₁ l₂ → (∀ a b, F a b → G a b) → Paired G l₁ l₂
  | _, _, .nil, _ => .nil
  | _, _, .cons r t, f => .cons (f _ _ r) (prd_mono t f)

section
variable {g : Gh} {A A' : List Addr} {H H' : Hp} {st : Sto}
theorem ObR.ext0 (x : Ext0 A H A' H') {a : Addr} (k : H' a = H a) : ∀ {o : Ob}, ObR g A H a o → ObR g A' H' a o
  | .lst ds, ⟨vs, e, r⟩ => ⟨vs, k.trans e, Reps.ext0 x r⟩
  | .dk true kvs, ⟨kv', e, r, ko⟩ => ⟨kv', by simpa [k] using e, prd_mono r fun _ _ h => ⟨h.1, Rep.ext0 x h.2⟩, ko⟩
  | .dk false kvs, ⟨kv', e, r, ko⟩ => ⟨kv', by simpa [k] using e, prd_mono r fun _ _ h => ⟨h.1, Rep.ext0 x h.2⟩, ko⟩
  | .dt true kvs, ⟨kv', e, r, ko⟩ => ⟨kv', by simpa [k] using e, prd_mono r fun _ _ h => ⟨h.1, Rep.ext0 x h.2⟩, ko⟩
  | .dt false kvs, ⟨kv', e, r, ko⟩ => ⟨kv', by simpa [k] using e, prd_mono r fun _ _ h => ⟨h.1, Rep.ext0 x h.2⟩, ko⟩
  | .ins c fs, ⟨dx, vs, e, hl, r⟩ => ⟨dx, vs, k.trans e, hl, Reps.ext0 x r⟩
theorem ObR.ext (x : Ext A H A' H') {a : Addr} (k : H' a = H a) {o : Ob} (r : ObR g A H a o) : ObR g A' H' a o := ObR.ext0 x.toExt0 k r
theorem ObR.there {a : Addr} : ∀ {o : Ob}, ObR g A H a o → ∃ u, H a = some u
  | .lst ds, ⟨vs, e, r⟩ => ⟨_, e⟩
  | .dk true kvs, ⟨kv', e, r⟩ => by obtain ⟨o, e⟩ := (by simpa using e : ∃ o, H a = some (.frz o (.dK kv'))); exact ⟨_, e⟩
  | .dk false kvs, ⟨kv', e, r⟩ => ⟨_, by simpa using e⟩
  | .dt true kvs, ⟨kv', e, r⟩ => by obtain ⟨o, e⟩ := (by simpa using e : ∃ o, H a = some (.frz o (.dT kv'))); exact ⟨_, e⟩
  | .dt false kvs, ⟨kv', e, r⟩ => ⟨_, by simpa using e⟩
  | .ins c fs, ⟨dx, vs, e, _, r⟩ => ⟨_, e⟩
theorem StOk.there (s : StOk g A st H) {a : Addr} (h : a ∈ A) : ∃ u, H a = some u := by
  obtain ⟨l, hl, e⟩ := List.getElem_of_mem h
  have e1 : A[l]? = some a := List.getElem?_eq_some_iff.mpr ⟨hl, e⟩
  have hl2 : l < st.length := by rw [← s.len]; exact hl
  exact (s.obj l a st[l] e1 (List.getElem?_eq_getElem hl2)).there
theorem StOk.new_res (s : StOk g A st H) {p : Addr} (hp : H p = none) : p ∉ g.M := fun m => by
  obtain ⟨_, u, e⟩ := s.res p m
  rw [hp] at e; cases e
theorem StOk.new_notin (s : StOk g A st H) {p : Addr} (hp : H p = none) : p ∉ A := fun m => by
  obtain ⟨u, e⟩ := s.there m
  rw [hp] at e; cases e
/-- something beside the store is laid -/
theorem ext_val (s : StOk g A st H) {p : Addr} {o : HO} (hp : H p = none) : Ext A H A (upd H p o) :=
  ⟨⟨⟨[], by simp⟩, fun b u n e => ⟨n, by rw [upd_ne (ne_of_none e hp)]; exact e⟩⟩, fun b x u e => by rw [upd_ne (ne_of_none e hp)]; exact e⟩
theorem StOk.keep (s : StOk g A st H) (x : Ext A H A' H') (hA : A' = A) (k : ∀ a ∈ A, H' a = H a) : StOk g A st H' := by
  subst hA
  exact ⟨s.len, s.nd, fun l a o e1 e2 => (s.obj l a o e1 e2).ext x (k a (List.mem_of_getElem? e1)), fun m hm => let ⟨n, u, e⟩ := s.res m hm; ⟨n, u, (x.keep m u n e).2⟩⟩
theorem StOk.val (s : StOk g A st H) {p : Addr} {o : HO} (hp : H p = none) : StOk g A st (upd H p o) :=
  s.keep (ext_val s hp) rfl fun a ha => upd_ne fun z => s.new_notin hp (z ▸ ha)
/-- a new thing of the store -/
theorem ext_new (s : StOk g A st H) {p : Addr} {o : HO} (hp : H p = none) : Ext A H (A ++ [p]) (upd H p o) :=
  ⟨⟨⟨[p], rfl⟩, fun b u n e => ⟨by simp only [List.mem_append, List.mem_singleton, not_or]; exact ⟨n, ne_of_none e hp⟩, by rw [upd_ne (ne_of_none e hp)]; exact e⟩⟩, fun b x u e => by rw [upd_ne (ne_of_none e hp)]; exact e⟩
theorem nodup_snoc {α : Type} {l : List α} {a : α} (h : l.Nodup) (n : a ∉ l) : (l ++ [a]).Nodup := by
  rw [List.nodup_append]
  exact ⟨h, List.nodup_cons.mpr ⟨by simp, List.nodup_nil⟩, fun x hx y hy e => by
    have : y = a := by simpa using hy
    subst this; subst e; exact n hx⟩
theorem StOk.new (s : StOk g A st H) {p : Addr} {o : HO} {ob : Ob} (hp : H p = none) (r : ObR g (A ++ [p]) (upd H p o) p ob) : StOk g (A ++ [p]) (st ++ [ob]) (upd H p o) := by
  have np := s.new_notin hp
  refine ⟨by simp [s.len], nodup_snoc s.nd np, fun l a u e1 e2 => ?_, fun m hm => let ⟨n, u, e⟩ := s.res m hm; ⟨((ext_new (o := o) s hp).keep m u n e).1, u, ((ext_new (o := o) s hp).keep m u n e).2⟩⟩
  by_cases hl : l < A.length
  · rw [List.getElem?_append_left hl] at e1
    rw [List.getElem?_append_left (by rw [← s.len]; exact hl)] at e2
    exact (s.obj l a u e1 e2).ext (ext_new s hp) (upd_ne fun z => np (z ▸ List.mem_of_getElem? e1))
  · have hl' : l = A.length := by
      have := (List.getElem?_eq_some_iff.mp e1).1
      simp at this; omega
    subst hl'
    simp at e1
    rw [s.len] at e2
    simp at e2
    subst e1; subst e2; exact r
/-- a thing of the store is changed -/
theorem ext_set0 {l : Nat} {a : Addr} {o : HO} (e : A[l]? = some a) : Ext0 A H A (upd H a o) :=
  ⟨⟨[], by simp⟩, fun b u n q => ⟨n, by rw [upd_ne (fun z => n (by rw [z]; exact List.mem_of_getElem? e))]; exact q⟩⟩
theorem ext_set {l : Nat} {a : Addr} {o : HO} (e : A[l]? = some a) (nf : ∀ x u, H a ≠ some (.frz x u)) : Ext A H A (upd H a o) :=
  ⟨ext_set0 e, fun b x u q => by rw [upd_ne (fun z => nf x u (by rw [← z]; exact q))]; exact q⟩
theorem nd_at {A : List Addr} (nd : A.Nodup) {i j : Nat} {a : Addr} (e1 : A[i]? = some a) (e2 : A[j]? = some a) : i = j := by
  obtain ⟨h1, q1⟩ := List.getElem?_eq_some_iff.mp e1
  obtain ⟨h2, q2⟩ := List.getElem?_eq_some_iff.mp e2
  exact (List.getElem_inj nd).mp (q1.trans q2.symm)
theorem StOk.set (s : StOk g A st H) {l : Nat} {a : Addr} {o : HO} {ob : Ob} (e : A[l]? = some a) (r : ObR g A (upd H a o) a ob) : StOk g A (st.set l ob) (upd H a o) := by
  refine ⟨by simp [s.len], s.nd, fun j b u e1 e2 => ?_, fun m hm => let ⟨n, u, q⟩ := s.res m hm; ⟨n, u, ((ext_set0 (o := o) e).keep m u n q).2⟩⟩
  by_cases hj : l = j
  · subst hj
    rw [e] at e1; cases e1
    rw [List.getElem?_set_self (by rw [← s.len]; exact (List.getElem?_eq_some_iff.mp e).1)] at e2
    cases e2; exact r
  · rw [List.getElem?_set_ne hj] at e2
    refine (s.obj j b u e1 e2).ext0 (ext_set0 e) (upd_ne fun z => ?_)
    subst z
    exact hj (nd_at s.nd e e1)
end

/-! ### a list that is being made -/
mutual
theorem Rep.res {g : Gh} {A : List Addr} {H : Hp} {p : Addr} {o : HO} (hp : H p = none) : ∀ {d : D} {v : V}, Rep g A H d v → Rep (g.push p) A (upd H p o) d v
  | .non, _, h => h
  | .bl _, _, h => h
  | .int _, _, h => h
  | .str _, _, h => h
  | .tup ds, v, h => by
    unfold Rep at h ⊢
    obtain ⟨a, vs, e, q, n, r⟩ := h
    exact ⟨a, vs, e, by rw [upd_ne (ne_of_none q hp)]; exact q, n, Reps.res hp r⟩
  | .kt ss, v, h => by unfold Rep at h ⊢; exact h
  | .lst ds, v, h => by
    unfold Rep at h ⊢
    obtain ⟨a, vs, e, q, n, r⟩ := h
    exact ⟨a, vs, e, by rw [upd_ne (ne_of_none q hp)]; exact q, ⟨n.1, fun m => (List.mem_cons.mp m).elim (ne_of_none q hp) n.2⟩, Reps.res hp r⟩
  | .loc l, v, h => by unfold Rep at h ⊢; exact h
  | .fn _, _, h => h
  | .scr ns, v, h => by
    unfold Rep at h ⊢
    obtain ⟨a, e, q⟩ := h
    refine ⟨a, e, ?_⟩
    rcases q with ⟨q, n, n2⟩ | q
    · have ha : a ≠ p := by
        rcases q with q | ⟨_, q⟩
        · exact ne_of_none q hp
        · exact ne_of_none q hp
      refine .inl ⟨?_, n, fun m => (List.mem_cons.mp m).elim ha n2⟩
      rcases q with q | ⟨z, q⟩
      · exact .inl (by rw [upd_ne ha]; exact q)
      · exact .inr ⟨z, by rw [upd_ne ha]; exact q⟩
    · exact .inr q
theorem Reps.res {g : Gh} {A : List Addr} {H : Hp} {p : Addr} {o : HO} (hp : H p = none) : ∀ {ds : List D} {vs : List V}, Reps g A H ds vs → Reps (g.push p) A (upd H p o) ds vs
  | [], vs, h => h
  | d :: ds, vs, h => by
    unfold Reps at h ⊢
    obtain ⟨v, r, e, p', q⟩ := h
    exact ⟨v, r, e, Rep.res hp p', Reps.res hp q⟩
end
mutual
/-- other places kept free of data, none of which stood yet -/
theorem Rep.wm {g : Gh} {A : List Addr} {H : Hp} {M : List Addr} (hM : ∀ m ∈ M, m ∈ g.M ∨ H m = none) : ∀ {d : D} {v : V}, Rep g A H d v → Rep (g.wm M) A H d v
  | .non, _, h => h
  | .bl _, _, h => h
  | .int _, _, h => h
  | .str _, _, h => h
  | .tup ds, v, h => by
    unfold Rep at h ⊢
    obtain ⟨a, vs, e, q, n, r⟩ := h
    exact ⟨a, vs, e, q, n, Reps.wm hM r⟩
  | .kt ss, v, h => by unfold Rep at h ⊢; exact h
  | .lst ds, v, h => by
    unfold Rep at h ⊢
    obtain ⟨a, vs, e, q, n, r⟩ := h
    exact ⟨a, vs, e, q, ⟨n.1, fun m => (hM a m).elim n.2 fun z => by rw [z] at q; cases q⟩, Reps.wm hM r⟩
  | .loc l, v, h => by unfold Rep at h ⊢; exact h
  | .fn _, _, h => h
  | .scr ns, v, h => by
    unfold Rep at h ⊢
    obtain ⟨a, e, q⟩ := h
    refine ⟨a, e, ?_⟩
    rcases q with ⟨q, n, n2⟩ | q
    · refine .inl ⟨q, n, fun m => (hM a m).elim n2 fun z => ?_⟩
      rcases q with q | ⟨_, q⟩
      · rw [z] at q; cases q
      · rw [z] at q; cases q
    · exact .inr q
theorem Reps.wm {g : Gh} {A : List Addr} {H : Hp} {M : List Addr} (hM : ∀ m ∈ M, m ∈ g.M ∨ H m = none) : ∀ {ds : List D} {vs : List V}, Reps g A H ds vs → Reps (g.wm M) A H ds vs
  | [], vs, h => h
  | d :: ds, vs, h => by
    unfold Reps at h ⊢
    obtain ⟨v, r, e, p', q⟩ := h
    exact ⟨v, r, e, Rep.wm hM p', Reps.wm hM q⟩
end
mutual
theorem Rep.unres {g : Gh} {A : List Addr} {H : Hp} {p : Addr} : ∀ {d : D} {v : V}, Rep (g.push p) A H d v → Rep g A H d v
  | .non, _, h => h
  | .bl _, _, h => h
  | .int _, _, h => h
  | .str _, _, h => h
  | .tup ds, v, h => by
    unfold Rep at h ⊢
    obtain ⟨a, vs, e, q, n, r⟩ := h
    exact ⟨a, vs, e, q, n, Reps.unres r⟩
  | .kt ss, v, h => by unfold Rep at h ⊢; exact h
  | .lst ds, v, h => by
    unfold Rep at h ⊢
    obtain ⟨a, vs, e, q, n, r⟩ := h
    exact ⟨a, vs, e, q, ⟨n.1, fun m => n.2 (List.mem_cons_of_mem _ m)⟩, Reps.unres r⟩
  | .loc l, v, h => by unfold Rep at h ⊢; exact h
  | .fn _, _, h => h
  | .scr ns, v, h => by
    unfold Rep at h ⊢
    obtain ⟨a, e, q⟩ := h
    refine ⟨a, e, ?_⟩
    rcases q with ⟨q, n, n2⟩ | q
    · exact .inl ⟨q, n, fun m => n2 (List.mem_cons_of_mem _ m)⟩
    · exact .inr q
theorem Reps.unres {g : Gh} {A : List Addr} {H : Hp} {p : Addr} : ∀ {ds : List D} {vs : List V}, Reps (g.push p) A H ds vs → Reps g A H ds vs
  | [], vs, h => h
  | d :: ds, vs, h => by
    unfold Reps at h ⊢
    obtain ⟨v, r, e, p', q⟩ := h
    exact ⟨v, r, e, Rep.unres p', Reps.unres q⟩
end
mutual
theorem Rep.more {g : Gh} {A : List Addr} {H : Hp} {p : Addr} {xs ys : List V} (hp : H p = some (.lst xs)) (hm : p ∈ g.M) : ∀ {d : D} {v : V}, Rep g A H d v → Rep g A (upd H p (.lst ys)) d v
  | .non, _, h => h
  | .bl _, _, h => h
  | .int _, _, h => h
  | .str _, _, h => h
  | .tup ds, v, h => by
    unfold Rep at h ⊢
    obtain ⟨a, vs, e, q, n, r⟩ := h
    exact ⟨a, vs, e, by rw [upd_ne (ne_of q hp (by intro z; cases z))]; exact q, n, Reps.more hp hm r⟩
  | .kt ss, v, h => by unfold Rep at h ⊢; exact h
  | .lst ds, v, h => by
    unfold Rep at h ⊢
    obtain ⟨a, vs, e, q, n, r⟩ := h
    have ha : a ≠ p := fun z => n.2 (by rw [z]; exact hm)
    exact ⟨a, vs, e, by rw [upd_ne ha]; exact q, n, Reps.more hp hm r⟩
  | .loc l, v, h => by unfold Rep at h ⊢; exact h
  | .fn _, _, h => h
  | .scr ns, v, h => by
    unfold Rep at h ⊢
    obtain ⟨a, e, q⟩ := h
    refine ⟨a, e, ?_⟩
    rcases q with ⟨q, n, n2⟩ | q
    · have ha : a ≠ p := fun z => n2 (by rw [z]; exact hm)
      refine .inl ⟨?_, n, n2⟩
      rcases q with q | ⟨z, q⟩
      · exact .inl (by rw [upd_ne ha]; exact q)
      · exact .inr ⟨z, by rw [upd_ne ha]; exact q⟩
    · exact .inr q
theorem Reps.more {g : Gh} {A : List Addr} {H : Hp} {p : Addr} {xs ys : List V} (hp : H p = some (.lst xs)) (hm : p ∈ g.M) : ∀ {ds : List D} {vs : List V}, Reps g A H ds vs → Reps g A (upd H p (.lst ys)) ds vs
  | [], vs, h => h
  | d :: ds, vs, h => by
    unfold Reps at h ⊢
    obtain ⟨v, r, e, p', q⟩ := h
    exact ⟨v, r, e, Rep.more hp hm p', Reps.more hp hm q⟩
end
theorem ObR.map {g g' : Gh} {A A' : List Addr} {H H' : Hp} {a : Addr} (hc : g'.cA = g.cA) (hf : g'.fld = g.fld) (k : H' a = H a) (f : ∀ d v, Rep g A H d v → Rep g' A' H' d v) (fs : ∀ d v, Reps g A H d v → Reps g' A' H' d v) : ∀ {o : Ob}, ObR g A H a o → ObR g' A' H' a o
  | .lst ds, ⟨vs, e, r⟩ => ⟨vs, k.trans e, fs _ _ r⟩
  | .dk true kvs, ⟨kv', e, r, ko⟩ => ⟨kv', by simpa [k] using e, prd_mono r fun _ _ h => ⟨h.1, f _ _ h.2⟩, ko⟩
  | .dk false kvs, ⟨kv', e, r, ko⟩ => ⟨kv', by simpa [k] using e, prd_mono r fun _ _ h => ⟨h.1, f _ _ h.2⟩, ko⟩
  | .dt true kvs, ⟨kv', e, r, ko⟩ => ⟨kv', by simpa [k] using e, prd_mono r fun _ _ h => ⟨h.1, f _ _ h.2⟩, ko⟩
  | .dt false kvs, ⟨kv', e, r, ko⟩ => ⟨kv', by simpa [k] using e, prd_mono r fun _ _ h => ⟨h.1, f _ _ h.2⟩, ko⟩
  | .ins c fs', ⟨dx, fs2, e, hl, r⟩ => ⟨dx, fs2, by rw [hc, hf]; exact k.trans e, by rw [hf]; exact hl, fs _ _ r⟩
section
variable {g : Gh} {A : List Addr} {H : Hp} {st : Sto} {p : Addr}
theorem StOk.push (s : StOk g A st H) {o : HO} (hp : H p = none) : StOk (g.push p) A st (upd H p o) := by
  have np := s.new_notin hp
  refine ⟨s.len, s.nd, fun l a u e1 e2 => ObR.map (g := g) (g' := g.push p) rfl rfl (upd_ne fun z => np (by rw [← z]; exact List.mem_of_getElem? e1)) (fun _ _ h => h.res hp) (fun _ _ h => h.res hp) (s.obj l a u e1 e2), fun m hm => ?_⟩
  rcases List.mem_cons.mp hm with e | hm
  · subst e; exact ⟨np, o, upd_same⟩
  · obtain ⟨n, u, q⟩ := s.res m hm
    exact ⟨n, u, by rw [upd_ne (ne_of_none q hp)]; exact q⟩
theorem StOk.pop (s : StOk (g.push p) A st H) : StOk g A st H :=
  ⟨s.len, s.nd, fun l a u e1 e2 => ObR.map (g := g.push p) (g' := g) rfl rfl rfl (fun _ _ h => h.unres) (fun _ _ h => h.unres) (s.obj l a u e1 e2), fun m hm => s.res m (List.mem_cons_of_mem _ hm)⟩
theorem StOk.more (s : StOk g A st H) {xs ys : List V} (hp : H p = some (.lst xs)) (hm : p ∈ g.M) : StOk g A st (upd H p (.lst ys)) := by
  have np := (s.res p hm).1
  refine ⟨s.len, s.nd, fun l a u e1 e2 => ObR.map (g := g) (g' := g) rfl rfl (upd_ne fun z => np (by rw [← z]; exact List.mem_of_getElem? e1)) (fun _ _ h => h.more hp hm) (fun _ _ h => h.more hp hm) (s.obj l a u e1 e2), fun m hm' => ?_⟩
  obtain ⟨n, u, q⟩ := s.res m hm'
  by_cases e : m = p
  · subst e; exact ⟨n, _, upd_same⟩
  · exact ⟨n, u, by rw [upd_ne e]; exact q⟩
end

/-! ### results -/
/-- a proof that is no rfl in simp's eyes: the kernel then need not unfold -/
theorem nrfl {α : Sort _} {a b : α} (h : a = b) : a = b := h
inductive Rs (α : Type) where
  | ok (a : α) (st : Sto) | exc (c : Nat) (st : Sto) | bad
def Rs.bind {α β : Type} (r : Rs α) (k : α → Sto → Rs β) : Rs β := match r with
  | .ok a st => k a st
  | .exc c st => .exc c st
  | .bad => .bad
@[simp] theorem Rs.bind_ok {α β : Type} (a : α) (st : Sto) (k : α → Sto → Rs β) : (Rs.ok a st).bind k = k a st := nrfl rfl
@[simp] theorem Rs.bind_exc {α β : Type} (c : Nat) (st : Sto) (k : α → Sto → Rs β) : (Rs.exc c st : Rs α).bind k = .exc c st := nrfl rfl
@[simp] theorem Rs.bind_bad {α β : Type} (k : α → Sto → Rs β) : (Rs.bad : Rs α).bind k = .bad := nrfl rfl
abbrev DE := En → Sto → Rs D
abbrev DT := En → Sto → Rs Bool
abbrev DA := En → Sto → Rs (List D)
inductive SR where
  | nx (e : En) (st : Sto) | rt (d : D) (st : Sto) | bk (e : En) (st : Sto) | ct (e : En) (st : Sto) | exc (c : Nat) (e : En) (st : Sto) | bad
abbrev DS := En → Sto → SR

/-- the frame's names -/
structure EnOk (g : Gh) (A : List Addr) (env : En) (σ : L2.St) (H : Hp) : Prop where
  len : env.length = σ.length
  slot : ∀ (i : Nat) (d : D), env[i]? = some (some d) → ∃ v, σ[i]? = some (some v) ∧ Rep g A H d v
structure Mt (g : Gh) (A : List Addr) (env : En) (st : Sto) (σ : L2.St) (H : Hp) : Prop where
  env : EnOk g A env σ H
  sto : StOk g A st H
theorem EnOk.ext {g : Gh} {A A' : List Addr} {env : En} {σ : L2.St} {H H' : Hp} (x : Ext A H A' H') (e : EnOk g A env σ H) : EnOk g A' env σ H' :=
  ⟨e.len, fun i d h => let ⟨v, a, b⟩ := e.slot i d h; ⟨v, a, b.ext x⟩⟩
theorem EnOk.set {g : Gh} {A : List Addr} {env : En} {σ : L2.St} {H : Hp} (e : EnOk g A env σ H) {d : D} {v : V} (i : Nat) (r : Rep g A H d v) : EnOk g A (env.set i (some d)) (σ.set i (some v)) H := by
  refine ⟨by simp [e.len], fun j x h => ?_⟩
  by_cases hj : i = j
  · subst hj
    have hi : i < env.length := by
      have := (List.getElem?_eq_some_iff.mp h).1
      simpa using this
    rw [List.getElem?_set_self hi] at h
    cases h
    exact ⟨v, List.getElem?_set_self (by rw [← e.len]; exact hi), r⟩
  · rw [List.getElem?_set_ne hj] at h
    obtain ⟨w, a, b⟩ := e.slot j x h
    exact ⟨w, by rw [List.getElem?_set_ne hj]; exact a, b⟩

/-- what is wanted of a result: rel says how the value lies -/
def RP {α β : Type} (g : Gh) (W : WX) (rel : List Addr → Hp → α → β → Prop) (A : List Addr) (σ : L2.St) (H : Hp) (r : Rs α) (Q : β → Hp → Prop) : Prop := match r with
  | .ok d st => ∀ A' v H', Ext A H A' H' → StOk g A' st H' → rel A' H' d v → Q v H'
  | .exc c st => ∀ A' H' (dx : Unit), Ext A H A' H' → StOk g A' st H' → W (.ref (g.cA c)) none σ H'
  | .bad => False
abbrev relB : List Addr → Hp → Bool → Bool → Prop := fun _ _ a b => a = b
def tR {α β : Type} (g : Gh) (W : WX) (rel : List Addr → Hp → α → β → Prop) (f : En → Sto → Rs α) : L2.St → Hp → (β → Hp → Prop) → Prop := fun σ H Q =>
  ∃ A env st, Mt g A env st σ H ∧ RP g W rel A σ H (f env st) Q
abbrev tD (g : Gh) (W : WX) (f : DE) : TE := tR g W (Rep g) f
abbrev tT (g : Gh) (W : WX) (f : DT) : TT := tR g W relB f
abbrev tL (g : Gh) (W : WX) (f : DA) : TA := tR g W (Reps g) f
section
variable {α β γ δ : Type} {g : Gh} {W : WX} {rel : List Addr → Hp → α → β → Prop} {rel' : List Addr → Hp → γ → δ → Prop} {A A' : List Addr} {σ : L2.St} {H H' : Hp} {env : En} {st : Sto}
theorem RP.ext {r : Rs α} {Q : β → Hp → Prop} (x : Ext A H A' H') (h : RP g W rel A σ H r Q) : RP g W rel A' σ H' r Q := by
  cases r with
  | ok d st => exact fun A2 v H2 x2 s q => h A2 v H2 (x.trans x2) s q
  | exc c st => exact fun A2 H2 dx x2 s => h A2 H2 dx (x.trans x2) s
  | bad => exact h
theorem RP.mono {r : Rs α} {Q Q' : β → Hp → Prop} (h : RP g W rel A σ H r Q) (k : ∀ v H, Q v H → Q' v H) : RP g W rel A σ H r Q' := by
  cases r with
  | ok d st => exact fun A2 v H2 x2 s q => k _ _ (h A2 v H2 x2 s q)
  | exc c st => exact fun A2 H2 dx x2 s => h A2 H2 dx x2 s
  | bad => exact h
theorem tR.mono {f : En → Sto → Rs α} {Q Q' : β → Hp → Prop} (h : tR g W rel f σ H Q) (k : ∀ v H, Q v H → Q' v H) : tR g W rel f σ H Q' := by
  obtain ⟨A, env, st, M, r⟩ := h
  exact ⟨A, env, st, M, r.mono k⟩
/-- a first part's reading, what remains carried -/
theorem tR.bind {f : En → Sto → Rs α} {k : α → Sto → Rs γ} {Q : δ → Hp → Prop} (M : Mt g A env st σ H) (h : RP g W rel' A σ H ((f env st).bind k) Q) :
    tR g W rel f σ H fun v H1 => ∃ A1 d st1, Ext A H A1 H1 ∧ StOk g A1 st1 H1 ∧ rel A1 H1 d v ∧ Mt g A1 env st1 σ H1 ∧ RP g W rel' A1 σ H1 (k d st1) Q := by
  refine ⟨A, env, st, M, ?_⟩
  cases e : f env st with
  | ok d st1 =>
    rw [e] at h
    exact fun A1 v H1 x s r => ⟨A1, d, st1, x, s, r, ⟨M.env.ext x, s⟩, RP.ext x h⟩
  | exc c st1 =>
    rw [e] at h
    exact h
  | bad =>
    rw [e] at h
    exact h
end
/-- what is wanted behind a statement -/
def SPd (g : Gh) (W : WX) (D : Ends) (A : List Addr) (H : Hp) (r : SR) : Prop := match r with
  | .nx e st => ∀ A' σ' H', Ext A H A' H' → Mt g A' e st σ' H' → D.nx σ' H'
  | .rt d st => ∀ A' v H', Ext A H A' H' → StOk g A' st H' → Rep g A' H' d v → D.rt v H'
  | .bk e st => ∀ A' σ' H', Ext A H A' H' → Mt g A' e st σ' H' → D.bk σ' H'
  | .ct e st => ∀ A' σ' H', Ext A H A' H' → Mt g A' e st σ' H' → D.ct σ' H'
  | .exc c e st => ∀ A' σ' H' (dx : Unit), Ext A H A' H' → Mt g A' e st σ' H' → W (.ref (g.cA c)) none σ' H'
  | .bad => False
def tS (g : Gh) (W : WX) (f : DS) : TS := fun D σ H => ∃ A env st, Mt g A env st σ H ∧ SPd g W D A H (f env st)
theorem SPd.ext {g : Gh} {W : WX} {D : Ends} {A A' : List Addr} {H H' : Hp} {r : SR} (x : Ext A H A' H') (h : SPd g W D A H r) : SPd g W D A' H' r := by
  cases r with
  | nx e st => exact fun A2 v H2 x2 s => h A2 v H2 (x.trans x2) s
  | rt d st => exact fun A2 v H2 x2 s q => h A2 v H2 (x.trans x2) s q
  | bk e st => exact fun A2 v H2 x2 s => h A2 v H2 (x.trans x2) s
  | ct e st => exact fun A2 v H2 x2 s => h A2 v H2 (x.trans x2) s
  | exc c e st => exact fun A2 v H2 dx x2 s => h A2 v H2 dx (x.trans x2) s
  | bad => exact h

/-- weaker readings -/
theorem pe_imp {X : Cx} {e : Expr} {t t' : TE} (h : PE X e t) (k : ∀ σ H Q, t' σ H Q → t σ H Q) : PE X e t' := ⟨fun pins s σ H Q I q => h.run pins s σ H Q I (k σ H Q q)⟩
theorem pt_imp {X : Cx} {e : Expr} {t t' : TT} (h : PT X e t) (k : ∀ σ H Q, t' σ H Q → t σ H Q) : PT X e t' := ⟨fun pins s σ H Q I q => h.run pins s σ H Q I (k σ H Q q)⟩
theorem pa_imp {X : Cx} {e : List Expr} {t t' : TA} (h : PA X e t) (k : ∀ σ H Q, t' σ H Q → t σ H Q) : PA X e t' := ⟨fun pos pins s σ H Q I q => h.run pos pins s σ H Q I (k σ H Q q)⟩
theorem pw_imp {X : Cx} {e : Expr} {t t' : TT} (h : PW X e t) (k : ∀ σ H Q, t' σ H Q → t σ H Q) : PW X e t' := ⟨fun wh pins s σ H Q I q => h.run wh pins s σ H Q I (k σ H Q q)⟩
theorem ps_imp {X : Cx} {e : Stmt} {t t' : TS} (h : PS X e t) (k : ∀ D σ H, t' D σ H → t D σ H) : PS X e t' := ⟨fun pins s σ H D I q => h.run pins s σ H D I (k D σ H q)⟩
theorem pss_imp {X : Cx} {e : List Stmt} {t t' : TS} (h : PSs X e t) (k : ∀ D σ H, t' D σ H → t D σ H) : PSs X e t' := ⟨fun pins s σ H D I q => h.run pins s σ H D I (k D σ H q)⟩
end DL

/-! DL2: expressions over data. -/
namespace DL
open PySem L2

theorem rep_non {g : Gh} {A : List Addr} {H : Hp} : Rep g A H .non .non := by unfold Rep; rfl
theorem rep_bl {g : Gh} {A : List Addr} {H : Hp} (b : Bool) : Rep g A H (.bl b) (.bl b) := by unfold Rep; rfl
theorem rep_int {g : Gh} {A : List Addr} {H : Hp} (i : Int) : Rep g A H (.int i) (.int i) := by unfold Rep; rfl
theorem rep_str {g : Gh} {A : List Addr} {H : Hp} {s : Str} (h : SOk s) : Rep g A H (.str s) (.str s) := by unfold Rep; exact ⟨rfl, h⟩
theorem rep_bl_inv {g : Gh} {A : List Addr} {H : Hp} {b : Bool} {v : V} (r : Rep g A H (.bl b) v) : v = .bl b := by unfold Rep at r; exact r
theorem rep_int_inv {g : Gh} {A : List Addr} {H : Hp} {b : Int} {v : V} (r : Rep g A H (.int b) v) : v = .int b := by unfold Rep at r; exact r
theorem rep_non_inv {g : Gh} {A : List Addr} {H : Hp} {v : V} (r : Rep g A H .non v) : v = .non := by unfold Rep at r; exact r
theorem rep_str_inv {g : Gh} {A : List Addr} {H : Hp} {s : Str} {v : V} (r : Rep g A H (.str s) v) : v = .str s ∧ SOk s := by unfold Rep at r; exact r
theorem rep_tup_inv {g : Gh} {A : List Addr} {H : Hp} {ds : List D} {v : V} (r : Rep g A H (.tup ds) v) : ∃ a vs, v = .ref a ∧ H a = some (.tup vs) ∧ Reps g A H ds vs := by
  unfold Rep at r
  obtain ⟨a, vs, e, q, _, r⟩ := r
  exact ⟨a, vs, e, q, r⟩
theorem rep_kt_inv {g : Gh} {A : List Addr} {H : Hp} {ss : List Str} {v : V} (r : Rep g A H (.kt ss) v) : ∃ a, v = .ref a ∧ SqT g.K H a (ss.map V.str) := by
  unfold Rep at r
  obtain ⟨a, e, q⟩ := r
  exact ⟨a, e, .inr q⟩
theorem rep_lst_inv {g : Gh} {A : List Addr} {H : Hp} {ds : List D} {v : V} (r : Rep g A H (.lst ds) v) : ∃ a vs, v = .ref a ∧ H a = some (.lst vs) ∧ (a ∉ A ∧ a ∉ g.M) ∧ Reps g A H ds vs := by
  unfold Rep at r; exact r
theorem rep_scr_inv {g : Gh} {A : List Addr} {H : Hp} {ns : List Int} {v : V} (r : Rep g A H (.scr ns) v) : ∃ a, v = .ref a ∧ SqL g.K H a (ns.map V.int) := by
  unfold Rep at r
  obtain ⟨a, e, q⟩ := r
  refine ⟨a, e, ?_⟩
  rcases q with ⟨q, _⟩ | q
  · exact .inl q
  · exact .inr q
theorem rep_loc_inv {g : Gh} {A : List Addr} {H : Hp} {l : Nat} {v : V} (r : Rep g A H (.loc l) v) : ∃ a, v = .ref a ∧ A[l]? = some a := by
  unfold Rep at r; exact r
theorem rep_tup_new {g : Gh} {A : List Addr} {st : Sto} {H : Hp} {ds : List D} {vs : List V} {p : Addr} (s : StOk g A st H) (r : Reps g A H ds vs) (hp : H p = none) : Rep g A (upd H p (.tup vs)) (.tup ds) (.ref p) := by
  unfold Rep
  exact ⟨p, vs, rfl, upd_same, s.new_notin hp, r.ext (ext_val s hp)⟩
theorem rep_lst_new {g : Gh} {A : List Addr} {st : Sto} {H : Hp} {ds : List D} {vs : List V} {p : Addr} (s : StOk g A st H) (r : Reps g A H ds vs) (hp : H p = none) : Rep g A (upd H p (.lst vs)) (.lst ds) (.ref p) := by
  unfold Rep
  exact ⟨p, vs, rfl, upd_same, ⟨s.new_notin hp, s.new_res hp⟩, r.ext (ext_val s hp)⟩

/-! ### names, constants -/
def dV (i : Nat) : DE := fun env st => match env[i]? with | some (some d) => .ok d st | _ => .bad
def dC (d : D) : DE := fun _ st => .ok d st
section
variable {X : Cx} {g : Gh} {W : WX}
theorem de_var {x : Str} {pos : Pos} (i : Nat) (hN : X.N[i]? = some x) (hv : Vis X.env.scope x) (hd : (x == ("__debug__" : Str)) = false) (hcd : (x == ("__classdict__" : Str)) = false) : PE X (.Name x pos) (tD g W (dV i)) :=
  pe_imp (pe_var hN hv hd hcd) fun σ H Q h => by
    obtain ⟨A, env, st, M, r⟩ := h
    unfold dV at r
    split at r
    · rename_i d e
      obtain ⟨v, e1, rr⟩ := M.env.slot i d e
      exact ⟨v, e1, r A v H (.refl _ _) M.sto rr⟩
    · exact r.elim
/-- a constant, given its hand rule -/
theorem de_const {e : Expr} {d : D} {v : V} (h : PE X e (tC v)) (r : ∀ A H, Rep g A H d v) : PE X e (tD g W (dC d)) :=
  pe_imp h fun σ H Q q => by
    obtain ⟨A, env, st, M, q⟩ := q
    exact q A v H (.refl _ _) M.sto (r A H)
theorem de_int {i : Int} {j : Nat} {pos : Pos} : PE X (.Constant (.int i) j pos) (tD g W (dC (.int i))) := de_const pe_int fun _ _ => rep_int i
theorem de_bl {b : Bool} {j : Nat} {pos : Pos} : PE X (.Constant (.bool b) j pos) (tD g W (dC (.bl b))) := de_const pe_bl fun _ _ => rep_bl b
theorem de_non {j : Nat} {pos : Pos} : PE X (.Constant .none j pos) (tD g W (dC .non)) := de_const pe_non fun _ _ => rep_non
def sOkB (s : Str) : Bool := decide (s.length ≤ 16777216) && s.cps.toList.all fun c => decide (c < 0x110000)
theorem sOk_of {s : Str} (h : sOkB s = true) : SOk s := by
  unfold sOkB at h
  rw [Bool.and_eq_true] at h
  refine ⟨by rw [sizeLine_eq]; exact of_decide_eq_true h.1, fun c hc => ?_⟩
  have := List.all_eq_true.mp h.2 c hc
  exact of_decide_eq_true this
theorem de_str {s : Str} {j : Nat} {pos : Pos} (h : sOkB s = true) : PE X (.Constant (.str s) j pos) (tD g W (dC (.str s))) := de_const pe_str fun _ _ => rep_str (sOk_of h)

/-! ### lists of expressions -/
def runL : List DE → En → Sto → Rs (List D)
  | [], _, st => .ok [] st
  | f :: fs, env, st => (f env st).bind fun d st => (runL fs env st).bind fun ds st => .ok (d :: ds) st
theorem da_nil : PA X [] (tL g W (runL [])) := pa_imp pa_nil fun σ H Q h => by
  obtain ⟨A, env, st, M, q⟩ := h
  exact q A [] H (.refl _ _) M.sto .nil
theorem da_cons {e : Expr} {es : List Expr} {f : DE} {fs : List DE} (ha : PE X e (tD g W f)) (hr : PA X es (tL g W (runL fs))) (hs : starEach (e :: es) X.env = (false, eval e X.env) :: starEach es X.env := by rfl) : PA X (e :: es) (tL g W (runL (f :: fs))) :=
  pa_imp (pa_cons ha hr hs) fun σ H Q h => by
    obtain ⟨A, env, st, M, q⟩ := h
    refine (tR.bind (rel := Rep g) M q).mono fun v H1 ⟨A1, d, st1, x, s, r, M1, q1⟩ => ?_
    refine (tR.bind (rel := Reps g) M1 q1).mono fun vs H2 ⟨A2, ds, st2, x2, s2, r2, M2, q2⟩ => ?_
    exact q2 A2 (v :: vs) H2 (.refl _ _) s2 (.cons (r.ext x2) r2)
theorem runL_len : ∀ {fs : List DE} {env : En} {st st' : Sto} {ds : List D}, runL fs env st = .ok ds st' → ds.length = fs.length
  | [], env, st, st', ds, h => by cases h; rfl
  | f :: fs, env, st, st', ds, h => by
    unfold runL at h
    cases e : f env st with
    | ok d st1 =>
      rw [e] at h
      simp only [Rs.bind_ok] at h
      cases e2 : runL fs env st1 with
      | ok ds2 st2 =>
        rw [e2] at h
        cases h
        rw [List.length_cons, List.length_cons, runL_len e2]
      | exc c st => rw [e2] at h; cases h
      | bad => rw [e2] at h; cases h
    | exc c st => rw [e] at h; cases h
    | bad => rw [e] at h; cases h
/-- a tuple, a list by value -/
def dTup (fs : List DE) : DE := fun env st => (runL fs env st).bind fun ds st => .ok (.tup ds) st
def dLst (fs : List DE) : DE := fun env st => (runL fs env st).bind fun ds st => .ok (.lst ds) st
theorem tR.bindE {α β γ δ : Type} {g : Gh} {W : WX} {rel : List Addr → Hp → α → β → Prop} {rel' : List Addr → Hp → γ → δ → Prop} {A : List Addr} {σ : L2.St} {H : Hp} {env : En} {st : Sto} {f : En → Sto → Rs α} {k : α → Sto → Rs γ} {Q : δ → Hp → Prop} (M : Mt g A env st σ H) (h : RP g W rel' A σ H ((f env st).bind k) Q) :
    tR g W rel f σ H fun v H1 => ∃ A1 d st1, f env st = .ok d st1 ∧ Ext A H A1 H1 ∧ StOk g A1 st1 H1 ∧ rel A1 H1 d v ∧ Mt g A1 env st1 σ H1 ∧ RP g W rel' A1 σ H1 (k d st1) Q := by
  refine ⟨A, env, st, M, ?_⟩
  cases e : f env st with
  | ok d st1 =>
    rw [e] at h
    exact fun A1 v H1 x s r => ⟨A1, d, st1, rfl, x, s, r, ⟨M.env.ext x, s⟩, RP.ext x h⟩
  | exc c st1 => rw [e] at h; exact h
  | bad => rw [e] at h; exact h
theorem de_tup {es : List Expr} {fs : List DE} {k : Nat} {pos : Pos} (h : PA X es (tL g W (runL fs))) (hn : fs.length ≤ 1000 := by decide) : PE X (.Tuple es k pos) (tD g W (dTup fs)) :=
  pe_imp (pe_tup h) fun σ H Q q => by
    obtain ⟨A, env, st, M, q⟩ := q
    refine (tR.bindE (rel := Reps g) M q).mono fun vs H1 ⟨A1, ds, st1, e, x, s, r, M1, q1⟩ => ?_
    refine ⟨by rw [← r.len, runL_len e, sizeLine_eq]; omega, fun p hp => ?_⟩
    exact q1 A1 _ _ (ext_val s hp) (s.val hp) (rep_tup_new s r hp)
theorem de_lst {es : List Expr} {fs : List DE} {pos : Pos} (h : PA X es (tL g W (runL fs))) (hn : fs.length ≤ 1000 := by decide) : PE X (.List es pos) (tD g W (dLst fs)) :=
  pe_imp (pe_lst h) fun σ H Q q => by
    obtain ⟨A, env, st, M, q⟩ := q
    refine (tR.bindE (rel := Reps g) M q).mono fun vs H1 ⟨A1, ds, st1, e, x, s, r, M1, q1⟩ => ?_
    refine ⟨by rw [← r.len, runL_len e, sizeLine_eq]; omega, fun p hp => ?_⟩
    exact q1 A1 _ _ (ext_val s hp) (s.val hp) (rep_lst_new s r hp)
/-- a list of the store -/
def dLstM (fs : List DE) : DE := fun env st => (runL fs env st).bind fun ds st => .ok (.loc st.length) (st ++ [.lst ds])
theorem de_lstM {es : List Expr} {fs : List DE} {pos : Pos} (h : PA X es (tL g W (runL fs))) (hn : fs.length ≤ 1000 := by decide) : PE X (.List es pos) (tD g W (dLstM fs)) :=
  pe_imp (pe_lst h) fun σ H Q q => by
    obtain ⟨A, env, st, M, q⟩ := q
    refine (tR.bindE (rel := Reps g) M q).mono fun vs H1 ⟨A1, ds, st1, e, x, s, r, M1, q1⟩ => ?_
    refine ⟨by rw [← r.len, runL_len e, sizeLine_eq]; omega, fun p hp => ?_⟩
    refine q1 _ (.ref p) _ (ext_new s hp) (s.new (ob := .lst ds) hp ⟨vs, upd_same, r.ext (ext_new s hp)⟩) ?_
    unfold Rep
    exact ⟨p, rfl, by rw [← s.len]; simp⟩

/-! ### two-place operations by values -/
def dB (h : D → D → Sto → Rs D) (f k : DE) : DE := fun env st => (f env st).bind fun x st => (k env st).bind fun y st => h x y st
/-- an operation on data is what the hand rule r tells of it -/
def OpD (g : Gh) (r : R2) (h : D → D → Sto → Rs D) : Prop := ∀ (W : WX) (A : List Addr) (st : Sto) (σ : L2.St) (H : Hp) (x y : D) (v u : V) (Q : VK), StOk g A st H → Rep g A H x v → Rep g A H y u → RP g W (Rep g) A σ H (h x y st) Q → r v u H Q
theorem bin_imp {r : R2} {h : D → D → Sto → Rs D} (o : OpD g r h) {f k : DE} {σ : L2.St} {H : Hp} {Q : VK} (q : tD g W (dB h f k) σ H Q) : tOp r (tD g W f) (tD g W k) σ H Q := by
  obtain ⟨A, env, st, M, q⟩ := q
  refine (tR.bind (rel := Rep g) M q).mono fun v H1 ⟨A1, d, st1, x, s, rr, M1, q1⟩ => ?_
  refine (tR.bind (rel := Rep g) M1 q1).mono fun u H2 ⟨A2, d2, st2, x2, s2, r2, M2, q2⟩ => ?_
  exact o W A2 st2 σ H2 d d2 v u Q s2 (rr.ext x2) r2 q2
theorem de_bin {op : Operator} {a b : Expr} {pos : Pos} {r : R2} {h : D → D → Sto → Rs D} {f k : DE} (ho : OpR X (binaryOp op) r) (o : OpD g r h) (ha : PE X a (tD g W f)) (hb : PE X b (tD g W k)) : PE X (.BinOp a op b pos) (tD g W (dB h f k)) :=
  pe_imp (pe_op ho ha hb) fun σ H Q q => bin_imp o q
/-- two rules for one operation -/
theorem OpD.or {r r' : R2} {h h' : D → D → Sto → Rs D} (hh : D → D → Sto → Rs D) (o : OpD g r h) (o' : OpD g r' h') (c : ∀ x y, (∀ st, hh x y st = h x y st) ∨ (∀ st, hh x y st = h' x y st)) : OpD g (fun x y H Q => r x y H Q ∨ r' x y H Q) hh := by
  intro W A st σ H x y v u Q s r1 r2 q
  rcases c x y with e | e
  · rw [e] at q; exact .inl (o W A st σ H x y v u Q s r1 r2 q)
  · rw [e] at q; exact .inr (o' W A st σ H x y v u Q s r1 r2 q)

/-- one-place -/
def dU (h : D → Sto → Rs D) (f : DE) : DE := fun env st => (f env st).bind h

/-! ### arithmetic -/
def addI : D → D → Sto → Rs D
  | .int i, .int j, st => .ok (.int (i + j)) st
  | _, _, _ => .bad
theorem addI_ok : OpD g (rI0 fun i j => .int (i + j)) addI := by
  intro W A st σ H x y v u Q s r1 r2 q
  unfold addI at q
  split at q
  · exact ⟨_, _, rep_int_inv r1, rep_int_inv r2, q A _ H (.refl _ _) s (rep_int _)⟩
  · exact q.elim
def subI : D → D → Sto → Rs D
  | .int i, .int j, st => .ok (.int (i - j)) st
  | _, _, _ => .bad
theorem subI_ok : OpD g (rI0 fun i j => .int (i - j)) subI := by
  intro W A st σ H x y v u Q s r1 r2 q
  unfold subI at q
  split at q
  · exact ⟨_, _, rep_int_inv r1, rep_int_inv r2, q A _ H (.refl _ _) s (rep_int _)⟩
  · exact q.elim
/-- products of together less than a hundred million bits -/
def CMulX (i j : Int) : Prop := i.natAbs.log2 + j.natAbs.log2 < 100000000
theorem intBits_le (x : Int) : Builtin.Int.intBits x ≤ x.natAbs.log2 + 1 := by
  unfold Builtin.Int.intBits
  split <;> omega
theorem CMulX.ok {i j : Int} (h : CMulX i j) : IntMulOk i j := by
  unfold IntMulOk
  intro z
  rw [Bool.and_eq_true] at z
  have z2 := z.2
  unfold Builtin.Int.intTooBig at z2
  have z3 := of_decide_eq_true z2
  rw [show bitsLine = 134217728 by decide] at z3
  have a := intBits_le i
  have b := intBits_le j
  have c : i.natAbs.log2 + j.natAbs.log2 < 100000000 := h
  omega
open PySem.Spec PyProof.Rows in
theorem op_mulX : OpR X (binaryOp .Mult) (rI CMulX fun i j => .int (i * j)) := opI fun _ _ _ _ _ _ _ hc q => mul_int q hc.ok
def mulI : D → D → Sto → Rs D
  | .int i, .int j, st => if i.natAbs.log2 + j.natAbs.log2 < 100000000 then .ok (.int (i * j)) st else .bad
  | _, _, _ => .bad
theorem mulI_ok : OpD g (rI CMulX fun i j => .int (i * j)) mulI := by
  intro W A st σ H x y v u Q s r1 r2 q
  unfold mulI at q
  split at q
  · split at q
    · rename_i hc
      exact ⟨_, _, rep_int_inv r1, rep_int_inv r2, hc, q A _ H (.refl _ _) s (rep_int _)⟩
    · exact q.elim
  · exact q.elim
def divI : D → D → Sto → Rs D
  | .int i, .int j, st => if 0 < j ∧ j.natAbs.log2 < 9000 then .ok (.int (i / j)) st else .bad
  | _, _, _ => .bad
theorem divI_ok : OpD g (rI CDivW fun i j => .int (i / j)) divI := by
  intro W A st σ H x y v u Q s r1 r2 q
  unfold divI at q
  split at q
  · split at q
    · rename_i hc
      exact ⟨_, _, rep_int_inv r1, rep_int_inv r2, hc, q A _ H (.refl _ _) s (rep_int _)⟩
    · exact q.elim
  · exact q.elim
def modI : D → D → Sto → Rs D
  | .int i, .int j, st => if 0 < j then .ok (.int (i % j)) st else .bad
  | _, _, _ => .bad
theorem modI_ok : OpD g (rI (fun _ j => 0 < j) fun i j => .int (i % j)) modI := by
  intro W A st σ H x y v u Q s r1 r2 q
  unfold modI at q
  split at q
  · split at q
    · rename_i hc
      exact ⟨_, _, rep_int_inv r1, rep_int_inv r2, hc, q A _ H (.refl _ _) s (rep_int _)⟩
    · exact q.elim
  · exact q.elim
def powI : D → D → Sto → Rs D
  | .int i, .int j, st => if 0 ≤ j ∧ j ≤ 1000000 ∧ i.natAbs < 2 ^ 64 then .ok (.int (i ^ j.toNat)) st else .bad
  | _, _, _ => .bad
theorem powI_ok : OpD g (rI CPow fun i j => .int (i ^ j.toNat)) powI := by
  intro W A st σ H x y v u Q s r1 r2 q
  unfold powI at q
  split at q
  · split at q
    · rename_i hc
      exact ⟨_, _, rep_int_inv r1, rep_int_inv r2, hc, q A _ H (.refl _ _) s (rep_int _)⟩
    · exact q.elim
  · exact q.elim
def shlI : D → D → Sto → Rs D
  | .int i, .int j, st => if 0 ≤ j ∧ j ≤ 1000000 ∧ i.natAbs < 2 ^ 64 then .ok (.int (i * 2 ^ j.toNat)) st else .bad
  | _, _, _ => .bad
theorem shlI_ok : OpD g (rI CPow fun i j => .int (i * 2 ^ j.toNat)) shlI := by
  intro W A st σ H x y v u Q s r1 r2 q
  unfold shlI at q
  split at q
  · split at q
    · rename_i hc
      exact ⟨_, _, rep_int_inv r1, rep_int_inv r2, hc, q A _ H (.refl _ _) s (rep_int _)⟩
    · exact q.elim
  · exact q.elim
/-- texts -/
def addS : D → D → Sto → Rs D
  | .str a, .str b, st => if a.length + b.length ≤ 16777216 then .ok (.str (a ++ b)) st else .bad
  | _, _, _ => .bad
theorem str_app_cps (a b : Str) : (a ++ b).cps = a.cps ++ b.cps := rfl
theorem str_app_len (a b : Str) : (a ++ b).length = a.length + b.length := by
  show (a ++ b).cps.size = a.cps.size + b.cps.size
  rw [str_app_cps, Array.size_append]
theorem SOk.app {a b : Str} (ha : SOk a) (hb : SOk b) (h : a.length + b.length ≤ 16777216) : SOk (a ++ b) := by
  refine ⟨by rw [str_app_len, sizeLine_eq]; exact h, fun c hc => ?_⟩
  rw [str_app_cps, Array.toList_append, List.mem_append] at hc
  rcases hc with hc | hc
  · exact ha.cps c hc
  · exact hb.cps c hc
theorem addS_ok : OpD g (fun x y H Q => ∃ i j, x = .str i ∧ y = .str j ∧ i.length + j.length ≤ sizeLine ∧ Q (.str (i ++ j)) H) addS := by
  intro W A st σ H x y v u Q s r1 r2 q
  unfold addS at q
  split at q
  · split at q
    · rename_i hc
      exact ⟨_, _, (rep_str_inv r1).1, (rep_str_inv r2).1, by rw [sizeLine_eq]; exact hc, q A _ H (.refl _ _) s (rep_str ((rep_str_inv r1).2.app (rep_str_inv r2).2 hc))⟩
    · exact q.elim
  · exact q.elim
/-- tuples -/
def addT : D → D → Sto → Rs D
  | .tup a, .tup b, st => if a.length + b.length ≤ 16777216 then .ok (.tup (a ++ b)) st else .bad
  | _, _, _ => .bad
theorem addT_ok : OpD g (rCatA g.K) addT := by
  intro W A st σ H x y v u Q s r1 r2 q
  unfold addT at q
  split at q
  · split at q
    · rename_i ds es hc
      have r1' := r1
      have r2' := r2
      obtain ⟨a, vs, rfl, h1, q1⟩ := rep_tup_inv r1
      obtain ⟨b, ws, rfl, h2, q2⟩ := rep_tup_inv r2
      refine ⟨a, b, vs, ws, rfl, rfl, SqT.of h1, SqT.of h2, by rw [← q1.len, ← q2.len, sizeLine_eq]; exact hc, fun e => ?_, fun e e2 => ?_, fun _ _ p hp => ?_⟩
      · subst e
        have : ds = [] := List.eq_nil_of_length_eq_zero (by rw [q1.len]; rfl)
        subst this
        exact q A _ H (.refl _ _) s r2'
      · subst e2
        have : es = [] := List.eq_nil_of_length_eq_zero (by rw [q2.len]; rfl)
        subst this
        rw [List.append_nil] at q
        exact q A _ H (.refl _ _) s r1'
      · exact q A _ _ (ext_val s hp) (s.val hp) (rep_tup_new s (q1.append q2) hp)
    · exact q.elim
  · exact q.elim
/-- lists -/
def addL : D → D → Sto → Rs D
  | .lst a, .lst b, st => if a.length + b.length ≤ 16777216 then .ok (.lst (a ++ b)) st else .bad
  | _, _, _ => .bad
theorem addL_ok : OpD g rCat addL := by
  intro W A st σ H x y v u Q s r1 r2 q
  unfold addL at q
  split at q
  · split at q
    · rename_i ds es hc
      obtain ⟨a, vs, rfl, h1, _, q1⟩ := rep_lst_inv r1
      obtain ⟨b, ws, rfl, h2, _, q2⟩ := rep_lst_inv r2
      refine ⟨a, b, vs, ws, rfl, rfl, h1, h2, by rw [← q1.len, ← q2.len, sizeLine_eq]; exact hc, fun p hp => ?_⟩
      exact q A _ _ (ext_val s hp) (s.val hp) (rep_lst_new s (q1.append q2) hp)
    · exact q.elim
  · exact q.elim
def addD : D → D → Sto → Rs D
  | .int i, .int j, st => .ok (.int (i + j)) st
  | .str a, .str b, st => addS (.str a) (.str b) st
  | .tup a, .tup b, st => addT (.tup a) (.tup b) st
  | .lst a, .lst b, st => addL (.lst a) (.lst b) st
  | _, _, _ => .bad
def rAddD (K : PySem.W.Frag) : R2 := fun x y H Q => (rI0 fun i j => .int (i + j)) x y H Q ∨ ((fun x y H Q => ∃ i j, x = .str i ∧ y = .str j ∧ i.length + j.length ≤ sizeLine ∧ Q (.str (i ++ j)) H) x y H Q ∨ (rCatA K x y H Q ∨ rCat x y H Q))
theorem op_addD : OpR X (binaryOp .Add) (rAddD X.K) := op_add.or (op_add_str.or (op_catA.or op_cat))
theorem addD_ok : OpD g (rAddD g.K) addD := by
  intro W A st σ H x y v u Q s r1 r2 q
  unfold addD at q
  split at q
  · exact .inl (addI_ok W A st σ H _ _ v u Q s r1 r2 q)
  · exact .inr (.inl (addS_ok W A st σ H _ _ v u Q s r1 r2 q))
  · exact .inr (.inr (.inl (addT_ok W A st σ H _ _ v u Q s r1 r2 q)))
  · exact .inr (.inr (.inr (addL_ok W A st σ H _ _ v u Q s r1 r2 q)))
  · exact q.elim
theorem de_add {a b : Expr} {pos : Pos} {f k : DE} (hK : g.K = X.K) (ha : PE X a (tD g W f)) (hb : PE X b (tD g W k)) : PE X (.BinOp a .Add b pos) (tD g W (dB addD f k)) := de_bin (hK ▸ op_addD) addD_ok ha hb
theorem de_sub {a b : Expr} {pos : Pos} {f k : DE} (ha : PE X a (tD g W f)) (hb : PE X b (tD g W k)) : PE X (.BinOp a .Sub b pos) (tD g W (dB subI f k)) := de_bin op_sub subI_ok ha hb
theorem de_div {a b : Expr} {pos : Pos} {f k : DE} (ha : PE X a (tD g W f)) (hb : PE X b (tD g W k)) : PE X (.BinOp a .FloorDiv b pos) (tD g W (dB divI f k)) := de_bin op_fdivW divI_ok ha hb
theorem de_mod {a b : Expr} {pos : Pos} {f k : DE} (ha : PE X a (tD g W f)) (hb : PE X b (tD g W k)) : PE X (.BinOp a .Mod b pos) (tD g W (dB modI f k)) := de_bin op_mod modI_ok ha hb
theorem de_pow {a b : Expr} {pos : Pos} {f k : DE} (ha : PE X a (tD g W f)) (hb : PE X b (tD g W k)) : PE X (.BinOp a .Pow b pos) (tD g W (dB powI f k)) := de_bin op_pow powI_ok ha hb
theorem de_shl {a b : Expr} {pos : Pos} {f k : DE} (ha : PE X a (tD g W f)) (hb : PE X b (tD g W k)) : PE X (.BinOp a .LShift b pos) (tD g W (dB shlI f k)) := de_bin op_shl shlI_ok ha hb
end
end DL

/-! DL3: products of texts, lists, tuples. -/
namespace DL
open PySem L2

/-! ### t * 1 is t -/
theorem tuple_mul1 (l : Addr) (items : Array Value) (n : Nat) (dd : Option Addr) (sl : Array (Option Value)) (u : Tok) :
    Meets (Builtin.«tuple.__mul__» ⟨[.ref l, .int 1 u], []⟩) (fun _ R s => s.heap.get? l = some { cls := .type "tuple", dict := dd, data := .seq items n, slots := sl } ∧ R (.ok (.ret (Value.ref l))) s) :=
  .of_wp fun prog w A R s h => by
    obtain ⟨hp, g, d, tk, os⟩ := s
    obtain ⟨hl, h⟩ := h
    have f1 := AutoSeq1.idx_int
    have c0 : (decide ((1 : Int) < -(2 ^ 63)) || decide ((1 : Int) ≥ 2 ^ 63)) = false := by decide
    have c1 : (items.isEmpty || (1 : Int) == 1) = true := by simp
    wp_walk using wpAny_loadPart' hl
    repeat (first
      | (refine wpAny_ite_false (decide_eq_false (by rw [c0]; exact Bool.false_ne_true)) ?_; wp_walk using wpAny_loadPart' hl)
      | (refine wpAny_ite_true (decide_eq_true (by rw [c1])) ?_; wp_walk using wpAny_loadPart' hl)
      | (refine wpAny_ite_true c1 ?_; wp_walk using wpAny_loadPart' hl))
    exact ⟨_, rfl, h⟩
def rRepT1 (K : PySem.W.Frag) : R2 := fun x y H Q => ∃ l xs, x = .ref l ∧ y = .int 1 ∧ SqT K H l xs ∧ Q (.ref l) H
section
variable {X : Cx}
theorem op_repT1 : OpR X (binaryOp .Mult) (rRepT1 X.K) := by
  intro pins s σ H x y v u Q I rx ry h
  obtain ⟨l, xs, rfl, rfl, hT, q⟩ := h
  cases rx
  obtain ⟨t, rfl⟩ := ry
  obtain ⟨its, r, ⟨⟨cls, dd, data, sl⟩, ho, hc, n, hd⟩, hs⟩ := I.tuple hT
  simp only at hc hd
  subst hc hd
  exact wpAny_binaryOp_repeat_ref (T := "tuple") (U := "int") (by decide) ⟨_, ho, rfl⟩ (fun s' => typeIs_int s' 1 t) L2.noFill_tuple_mul F.fills_int_mul F.slot_int_rmul L2.repeat_tuple F.slot_int_index.lookup
    (call_meets F.slot_int_rmul (typeIs_int s 1 t) F.entry_int_rmul (F.args_int_rmul_2 _ _) (L2.int_rmul_tuple 1 t l its.toArray n dd sl)
      ⟨ho, rfl, ⟨_, ho, rfl⟩, call_meets F.slot_tuple_mul ⟨_, ho, rfl⟩ F.entry_tuple_mul (F.args_tuple_mul_2 _ _) (tuple_mul1 l its.toArray n dd sl t) ⟨ho, .ref l, H, I, rfl, q⟩⟩)

/-! ### text * int -/
def strRep (s : Str) (k : Int) : Str := ⟨(List.replicate k.toNat s.cps.toList).flatten.toArray⟩
def rRepS : R2 := fun x y H Q => ∃ z k, x = .str z ∧ y = .int k ∧ -1000 ≤ k ∧ k ≤ 1000 ∧ z.length ≤ 1000 ∧ Q (.str (strRep z k)) H
theorem flat_len {α : Type} (l : List α) : ∀ k : Nat, (List.replicate k l).flatten.length = k * l.length
  | 0 => by simp
  | k + 1 => by rw [List.replicate_succ, List.flatten_cons, List.length_append, flat_len l k, Nat.succ_mul]; omega
theorem strRep_len (s : Str) (k : Int) : (strRep s k).length = k.toNat * s.length := by
  show (List.replicate k.toNat s.cps.toList).flatten.toArray.size = _
  rw [List.size_toArray, flat_len]
  simp [Str.length]
theorem foldl_flat (c : Array Nat) : ∀ (k : Nat) (acc : Array Nat), (List.replicate k c).foldl (· ++ ·) acc = acc ++ (List.replicate k c.toList).flatten.toArray
  | 0, acc => by simp
  | k + 1, acc => by
    rw [List.replicate_succ, List.foldl_cons, foldl_flat c k, List.replicate_succ, List.flatten_cons]
    apply Array.toList_inj.mp
    simp
theorem op_repS : OpR X (binaryOp .Mult) rRepS := by
  intro pins s σ H x y v u Q I rx ry h
  obtain ⟨z, k, rfl, rfl, h1, h2, hz, q⟩ := h
  obtain ⟨t, rfl⟩ := rx
  obtain ⟨t', rfl⟩ := ry
  have hlen : z.length * k.toNat ≤ 1000 * 1000 := Nat.mul_le_mul hz (by omega)
  have fin : ∀ (x : Str) (tk : Nat), x = strRep z k → ∀ t, EP X pins σ Q (.str x t) { s with toks := tk } := fun x tk e t => ⟨.str (strRep z k), H, I.tok _, ⟨t, by rw [e]⟩, q⟩
  refine PySem.P.mul_str (by rw [decide_eq_false (by omega), decide_eq_false (by omega)]; rfl) (fun a b => ?_) (fun a b => ?_) ?_
  · have : (z.length : Int) * k ≤ 1000000 := by
      have e : (k.toNat : Int) = k := Int.toNat_of_nonneg (by omega)
      rw [← e, ← Int.natCast_mul]; omega
    intro hgt
    have h3 : (2 ^ 63 - 1) / k < (z.length : Int) := hgt
    have hk : 0 < k := by omega
    have h4 := Int.lt_mul_of_ediv_lt hk h3
    omega
  · unfold Builtin.Str.tooLong
    exact decide_eq_false (by rw [sizeLine_eq]; omega)
  · by_cases c1 : k < 1
    · rw [if_pos c1]
      have e0 : strRep z k = Str.empty := by
        unfold strRep
        rw [show k.toNat = 0 by omega]
        rfl
      exact ⟨by decide, fin Str.empty _ e0.symm _⟩
    · rw [if_neg c1]
      by_cases c2 : (k == 1 || z.length == 0) = true
      · rw [if_pos c2]
        rw [Bool.or_eq_true, beq_iff_eq, beq_iff_eq] at c2
        have e0 : strRep z k = z := by
          unfold strRep
          rcases c2 with c | c
          · rw [c]; simp
          · have : z.cps = #[] := Array.eq_empty_of_size_eq_zero c
            obtain ⟨cp⟩ := z
            subst this
            simp
        have := fin z s.toks e0.symm t
        exact this
      · rw [if_neg c2]
        have e0 : (⟨(List.replicate k.toNat z.cps).foldl (· ++ ·) #[]⟩ : Str) = strRep z k := by
          rw [foldl_flat]
          unfold strRep
          simp
        refine ⟨?_, fin _ _ e0 _⟩
        rw [e0, strRep_len, sizeLine_eq, Nat.mul_comm]
        omega
end

/-! ### * -/
section
variable {X : Cx} {g : Gh} {W : WX}
theorem Reps.rep {A : List Addr} {H : Hp} {ds : List D} {vs : List V} (h : Reps g A H ds vs) : ∀ k : Nat, Reps g A H (List.replicate k ds).flatten (List.replicate k vs).flatten
  | 0 => .nil
  | k + 1 => by
    rw [List.replicate_succ, List.flatten_cons, List.replicate_succ, List.flatten_cons]
    exact h.append (Reps.rep h k)
theorem SOk.rep {s : Str} (h : SOk s) {k : Int} (h2 : k ≤ 1000) (hz : s.length ≤ 1000) : SOk (strRep s k) := by
  refine ⟨?_, fun c hc => ?_⟩
  · rw [strRep_len, sizeLine_eq]
    have : k.toNat * s.length ≤ 1000 * 1000 := Nat.mul_le_mul (by omega) hz
    omega
  · have hc' : c ∈ (List.replicate k.toNat s.cps.toList).flatten := by simpa [strRep] using hc
    obtain ⟨l, hl, hcl⟩ := List.mem_flatten.mp hc'
    rw [List.eq_of_mem_replicate hl] at hcl
    exact h.cps c hcl
def mulD : D → D → Sto → Rs D
  | .int i, .int j, st => if i.natAbs.log2 + j.natAbs.log2 < 100000000 then .ok (.int (i * j)) st else .bad
  | .lst xs, .int k, st => if -1000 ≤ k ∧ k ≤ 1000 ∧ xs.length ≤ 1000 then .ok (.lst (List.replicate k.toNat xs).flatten) st else .bad
  | .tup xs, .int k, st => if 1 ≤ k ∧ k ≤ 1000 ∧ xs.isEmpty = false ∧ xs.length ≤ 1000 then .ok (.tup (List.replicate k.toNat xs).flatten) st else .bad
  | .str s, .int k, st => if -1000 ≤ k ∧ k ≤ 1000 ∧ s.length ≤ 1000 then .ok (.str (strRep s k)) st else .bad
  | _, _, _ => .bad
def rMulD (K : PySem.W.Frag) : R2 := fun x y H Q => (rI CMulX fun i j => .int (i * j)) x y H Q ∨ (rRep x y H Q ∨ (rRepT K x y H Q ∨ (rRepT1 K x y H Q ∨ rRepS x y H Q)))
theorem op_mulD : OpR X (binaryOp .Mult) (rMulD X.K) := op_mulX.or (op_rep.or (op_repT.or (op_repT1.or op_repS)))
theorem mulD_ok : OpD g (rMulD g.K) mulD := by
  intro W A st σ H x y v u Q s r1 r2 q
  unfold mulD at q
  split at q
  · exact .inl (mulI_ok W A st σ H _ _ v u Q s r1 r2 q)
  · split at q
    · rename_i ds k hc
      obtain ⟨a, vs, rfl, h1, _, q1⟩ := rep_lst_inv r1
      obtain ⟨c1, c2, c3⟩ := hc
      refine .inr (.inl ⟨a, k, vs, rfl, rep_int_inv r2, h1, by omega, by omega, ?_, fun p hp => ?_⟩)
      · rw [← q1.len, sizeLine_eq]
        have : ds.length * k.toNat ≤ 1000 * 1000 := Nat.mul_le_mul c3 (by omega)
        omega
      · exact q A _ _ (ext_val s hp) (s.val hp) (rep_lst_new s (q1.rep _) hp)
    · exact q.elim
  · split at q
    · rename_i ds k hc
      obtain ⟨c1, c2, c3, c4⟩ := hc
      have r1' := r1
      obtain ⟨a, vs, rfl, h1, q1⟩ := rep_tup_inv r1
      have hne : vs ≠ [] := fun e => by
        subst e
        have : ds = [] := List.eq_nil_of_length_eq_zero (by rw [q1.len]; rfl)
        subst this
        simp at c3
      by_cases hk : k = 1
      · subst hk
        have e : (List.replicate (1 : Int).toNat ds).flatten = ds := by simp
        rw [e] at q
        exact .inr (.inr (.inr (.inl ⟨a, vs, rfl, rep_int_inv r2, SqT.of h1, q A _ H (.refl _ _) s r1'⟩)))
      · refine .inr (.inr (.inl ⟨a, k, vs, rfl, rep_int_inv r2, SqT.of h1, hne, by omega, c2, by rw [← q1.len]; exact c4, fun p hp => ?_⟩))
        exact q A _ _ (ext_val s hp) (s.val hp) (rep_tup_new s (q1.rep _) hp)
    · exact q.elim
  · split at q
    · rename_i z k hc
      obtain ⟨c1, c2, c3⟩ := hc
      obtain ⟨e1, ok1⟩ := rep_str_inv r1
      exact .inr (.inr (.inr (.inr ⟨z, k, e1, rep_int_inv r2, c1, c2, c3, q A _ H (.refl _ _) s (rep_str (ok1.rep c2 c3))⟩)))
    · exact q.elim
  · exact q.elim
theorem de_mul {a b : Expr} {pos : Pos} {f k : DE} (hK : g.K = X.K) (ha : PE X a (tD g W f)) (hb : PE X b (tD g W k)) : PE X (.BinOp a .Mult b pos) (tD g W (dB mulD f k)) := de_bin (hK ▸ op_mulD) mulD_ok ha hb
end
end DL

/-! DL4: comparisons, tests, places, slices. -/
namespace DL
open PySem L2

/-! ### data as the model's data, for == -/
mutual
def toP : D → PyData
  | .non => .none
  | .bl b => .bool b
  | .int i => .int i
  | .str s => .str s
  | .tup ds => .tuple (toPs ds)
  | .lst ds => .list (toPs ds)
  | .loc _ => .none
  | .fn _ => .none
  | .scr ns => .list (ns.map PyData.int)
  | .kt ss => .tuple (ss.map PyData.str)
def toPs : List D → List PyData
  | [] => []
  | d :: ds => toP d :: toPs ds
end
/-- no place, no def in it; at most so deep -/
def good : Nat → D → Bool
  | _, .non => true
  | _, .bl _ => true
  | _, .int _ => true
  | _, .str _ => true
  | n, .scr _ => decide (0 < n)
  | _, .loc _ => false
  | _, .fn _ => false
  | _, .kt _ => false
  | 0, .tup _ => false
  | 0, .lst _ => false
  | n + 1, .tup ds => ds.all (good n)
  | n + 1, .lst ds => ds.all (good n)
theorem toPs_map (ds : List D) : toPs ds = ds.map toP := by
  induction ds with
  | nil => simp only [toPs]; rfl
  | cons d ds ih => simp only [toPs, ih]; rfl
theorem shaped_of {p : PyData} {n : Nat} (h1 : p.canLay0 = true) (h2 : p.depth ≤ n) (h3 : n ≤ 64) : SeqAt.shaped p = true := by
  unfold SeqAt.shaped
  rw [h1, Bool.true_and]
  exact decide_eq_true (by omega)
theorem strOk_of {s : Str} (h : SOk s) : PyData.strOk s = true := by
  unfold PyData.strOk
  rw [← Array.all_toList]
  exact List.all_eq_true.mpr fun c hc => decide_eq_true (h.cps c hc)
theorem ints_lay (ns : List Int) : PyData.canLayAll0 (ns.map PyData.int) = true ∧ PyData.depthAll (ns.map PyData.int) = 0 := by
  induction ns with
  | nil => exact ⟨by simp [PyData.canLayAll0], by simp [PyData.depthAll]⟩
  | cons n ns ih => exact ⟨by simp [PyData.canLayAll0, PyData.canLay0, ih.1], by simp [PyData.depthAll, PyData.depth, ih.2]⟩
theorem ints_dp {K : PySem.W.Frag} {H : Hp} (ns : List Int) : DpAll K H (ns.map V.int) (ns.map PyData.int) := by
  induction ns with
  | nil => exact .nil
  | cons n ns ih => exact .cons (.int n) ih
/-- what == needs of data -/
structure Lays (K : PySem.W.Frag) (H : Hp) (n : Nat) (v : V) (p : PyData) : Prop where
  dp : Dp K H v p
  lay : p.canLay0 = true
  deep : p.depth ≤ n
structure LaysAll (K : PySem.W.Frag) (H : Hp) (n : Nat) (v : List V) (p : List PyData) : Prop where
  dp : DpAll K H v p
  lay : PyData.canLayAll0 p = true
  deep : PyData.depthAll p ≤ n
section
variable {g : Gh} {A : List Addr} {H : Hp}
theorem lays_all {n : Nat} (ih : ∀ (d : D) (v : V), good n d = true → Rep g A H d v → Lays g.K H n v (toP d)) : ∀ (ds : List D) (vs : List V), ds.all (good n) = true → Reps g A H ds vs → LaysAll g.K H n vs (toPs ds)
  | [], vs, _, r => by
    rw [r.nil_inv]
    simp only [toPs]
    exact ⟨.nil, by simp [PyData.canLayAll0], by simp [PyData.depthAll]⟩
  | d :: ds, vs, h, r => by
    obtain ⟨v, ws, rfl, r1, r2⟩ := r.cons_inv
    rw [List.all_cons, Bool.and_eq_true] at h
    have a := ih d v h.1 r1
    have b := lays_all ih ds ws h.2 r2
    simp only [toPs]
    exact ⟨.cons a.dp b.dp, by simp [PyData.canLayAll0, a.lay, b.lay], by simp only [PyData.depthAll]; exact Nat.max_le.mpr ⟨a.deep, b.deep⟩⟩
theorem lays_of : ∀ (n : Nat) (d : D) (v : V), good n d = true → Rep g A H d v → Lays g.K H n v (toP d) := by
  have flat : ∀ (n : Nat) (d : D) (v : V), (∀ ds, d ≠ .tup ds) → (∀ ds, d ≠ .lst ds) → (n = 0 → ∀ ns, d ≠ .scr ns) → good n d = true → Rep g A H d v → Lays g.K H n v (toP d) := fun n d v h1 h2 h3 hg r => by
    cases d with
    | non => rw [rep_non_inv r]; simp only [toP]; exact ⟨.non, by simp [PyData.canLay0], by simp [PyData.depth]⟩
    | bl b => rw [rep_bl_inv r]; simp only [toP]; exact ⟨.bl b, by simp [PyData.canLay0], by simp [PyData.depth]⟩
    | int i => rw [rep_int_inv r]; simp only [toP]; exact ⟨.int i, by simp [PyData.canLay0], by simp [PyData.depth]⟩
    | str s =>
      obtain ⟨e, k⟩ := rep_str_inv r
      rw [e]; simp only [toP]
      exact ⟨.str s, by simp only [PyData.canLay0]; exact strOk_of k, by simp [PyData.depth]⟩
    | tup ds => exact absurd rfl (h1 ds)
    | lst ds => exact absurd rfl (h2 ds)
    | loc l => cases n <;> cases hg
    | fn l => cases n <;> cases hg
    | kt l => cases n <;> cases hg
    | scr ns =>
      obtain ⟨a, rfl, q⟩ := rep_scr_inv r
      simp only [toP]
      have hn : n ≠ 0 := fun e => absurd rfl (h3 e ns)
      refine ⟨.lst q (ints_dp ns), by simp only [PyData.canLay0]; exact (ints_lay ns).1, ?_⟩
      simp only [PyData.depth, (ints_lay ns).2]
      omega
  intro n
  induction n with
  | zero =>
    intro d v hg r
    cases d with
    | tup ds => cases hg
    | lst ds => cases hg
    | scr ns => cases hg
    | non => exact flat 0 _ v (fun _ z => nomatch z) (fun _ z => nomatch z) (fun _ _ z => nomatch z) hg r
    | bl b => exact flat 0 _ v (fun _ z => nomatch z) (fun _ z => nomatch z) (fun _ _ z => nomatch z) hg r
    | int b => exact flat 0 _ v (fun _ z => nomatch z) (fun _ z => nomatch z) (fun _ _ z => nomatch z) hg r
    | str b => exact flat 0 _ v (fun _ z => nomatch z) (fun _ z => nomatch z) (fun _ _ z => nomatch z) hg r
    | loc b => exact flat 0 _ v (fun _ z => nomatch z) (fun _ z => nomatch z) (fun _ _ z => nomatch z) hg r
    | fn b => exact flat 0 _ v (fun _ z => nomatch z) (fun _ z => nomatch z) (fun _ _ z => nomatch z) hg r
    | kt b => exact flat 0 _ v (fun _ z => nomatch z) (fun _ z => nomatch z) (fun _ _ z => nomatch z) hg r
  | succ n ih =>
    intro d v hg r
    cases d with
    | tup ds =>
      obtain ⟨a, vs, rfl, h, rr⟩ := rep_tup_inv r
      have b := lays_all ih ds vs hg rr
      simp only [toP]
      exact ⟨.tup (SqT.of h) b.dp, by simp only [PyData.canLay0]; exact b.lay, by simp only [PyData.depth]; have := b.deep; omega⟩
    | lst ds =>
      obtain ⟨a, vs, rfl, h, _, rr⟩ := rep_lst_inv r
      have b := lays_all ih ds vs hg rr
      simp only [toP]
      exact ⟨.lst (SqL.of h) b.dp, by simp only [PyData.canLay0]; exact b.lay, by simp only [PyData.depth]; have := b.deep; omega⟩
    | scr ns => exact flat (n + 1) _ v (fun _ z => nomatch z) (fun _ z => nomatch z) (fun z => absurd z (Nat.succ_ne_zero n)) hg r
    | non => exact flat _ _ v (fun _ z => nomatch z) (fun _ z => nomatch z) (fun _ _ z => nomatch z) hg r
    | bl b => exact flat _ _ v (fun _ z => nomatch z) (fun _ z => nomatch z) (fun _ _ z => nomatch z) hg r
    | int b => exact flat _ _ v (fun _ z => nomatch z) (fun _ z => nomatch z) (fun _ _ z => nomatch z) hg r
    | str b => exact flat _ _ v (fun _ z => nomatch z) (fun _ z => nomatch z) (fun _ _ z => nomatch z) hg r
    | loc b => exact flat _ _ v (fun _ z => nomatch z) (fun _ z => nomatch z) (fun _ _ z => nomatch z) hg r
    | fn b => exact flat _ _ v (fun _ z => nomatch z) (fun _ z => nomatch z) (fun _ _ z => nomatch z) hg r
    | kt b => exact flat _ _ v (fun _ z => nomatch z) (fun _ z => nomatch z) (fun _ _ z => nomatch z) hg r
end
end DL

/-! DL5: comparisons by values, tests, places, slices. -/
namespace DL
open PySem L2

/-- a list of the store by its value -/
def der (st : Sto) : D → D
  | .loc l => match st[l]? with
    | some (.lst ds) => .lst ds
    | _ => .loc l
  | d => d
section
variable {X : Cx} {g : Gh} {W : WX}
theorem lays_der {A : List Addr} {st : Sto} {H : Hp} {n : Nat} {d : D} {v : V} (s : StOk g A st H) (hg : good n (der st d) = true) (r : Rep g A H d v) : Lays g.K H n v (toP (der st d)) := by
  cases d with
  | loc l =>
    cases e : st[l]? with
    | none =>
      have e2 : der st (.loc l) = .loc l := by simp only [der, e]
      rw [e2] at hg
      cases n <;> cases hg
    | some o =>
      cases o with
      | lst ds =>
        have e2 : der st (.loc l) = .lst ds := by simp only [der, e]
        rw [e2] at hg ⊢
        obtain ⟨a, rfl, ea⟩ := rep_loc_inv r
        obtain ⟨vs, ha, rr⟩ := s.obj l a _ ea e
        cases n with
        | zero => cases hg
        | succ n =>
          have b := lays_all (lays_of n) ds vs hg rr
          simp only [toP]
          exact ⟨.lst (SqL.of ha) b.dp, by simp only [PyData.canLay0]; exact b.lay, by simp only [PyData.depth]; have := b.deep; omega⟩
      | _ =>
        have e2 : der st (.loc l) = .loc l := by simp only [der, e]
        rw [e2] at hg
        cases n <;> cases hg
  | _ => exact lays_of n _ v hg r
def eqD (x y : D) (st : Sto) : Rs D :=
  if good 40 (der st x) = true ∧ good 40 (der st y) = true then .ok (.bl (PyData.eqv (toP (der st x)) (toP (der st y)))) st else .bad
def neD (x y : D) (st : Sto) : Rs D :=
  if good 40 (der st x) = true ∧ good 40 (der st y) = true then .ok (.bl (!PyData.eqv (toP (der st x)) (toP (der st y)))) st else .bad
theorem eqD_ok : OpD g (rEqD g.K) eqD := by
  intro W A st σ H x y v u Q s r1 r2 q
  unfold eqD at q
  split at q
  · rename_i hc
    have a := lays_der s hc.1 r1
    have b := lays_der s hc.2 r2
    exact ⟨_, _, a.dp, b.dp, shaped_of a.lay a.deep (by omega), shaped_of b.lay b.deep (by omega), q A _ H (.refl _ _) s (rep_bl _)⟩
  · exact q.elim
theorem neD_ok : OpD g (rNeD g.K) neD := by
  intro W A st σ H x y v u Q s r1 r2 q
  unfold neD at q
  split at q
  · rename_i hc
    have a := lays_der s hc.1 r1
    have b := lays_der s hc.2 r2
    exact ⟨_, _, a.dp, b.dp, shaped_of a.lay a.deep (by omega), shaped_of b.lay b.deep (by omega), q A _ H (.refl _ _) s (rep_bl _)⟩
  · exact q.elim
/-! ### order -/
def ints? : List D → Option (List Int)
  | [] => some []
  | .int i :: ds => (ints? ds).map (i :: ·)
  | _ :: _ => none
theorem ints?_rep {A : List Addr} {H : Hp} : ∀ {ds : List D} {ns : List Int} {vs : List V}, ints? ds = some ns → Reps g A H ds vs → vs = ns.map V.int
  | [], ns, vs, h, r => by cases h; exact r.nil_inv
  | d :: ds, ns, vs, h, r => by
    cases d with
    | int i =>
      unfold ints? at h
      obtain ⟨ms, e1, e2⟩ := Option.map_eq_some_iff.mp h
      obtain ⟨v, ws, rfl, r1, r2⟩ := r.cons_inv
      rw [rep_int_inv r1, ints?_rep e1 r2, ← e2]; rfl
    | _ => cases h
theorem ints?_map (ns : List Int) : ints? (ns.map D.int) = some ns := by
  induction ns with
  | nil => rfl
  | cons n ns ih => show (ints? (ns.map D.int)).map _ = _; rw [ih]; rfl
def ltD : D → D → Sto → Rs D
  | .int i, .int j, st => .ok (.bl (decide (i < j))) st
  | .tup a, .tup b, st => match ints? a, ints? b with
    | some ns, some ms => .ok (.bl (HT.lexLt ns ms)) st
    | _, _ => .bad
  | _, _, _ => .bad
def rLtD (K : PySem.W.Frag) : R2 := fun x y H Q => (rI0 fun i j => .bl (decide (i < j))) x y H Q ∨ rLtT K x y H Q
theorem op_ltD (hu : X.A.units < cLine) : OpR X (compareOp .Lt) (rLtD X.K) := op_lt.or (op_ltT hu)
theorem ltD_ok : OpD g (rLtD g.K) ltD := by
  intro W A st σ H x y v u Q s r1 r2 q
  unfold ltD at q
  split at q
  · exact .inl ⟨_, _, rep_int_inv r1, rep_int_inv r2, q A _ H (.refl _ _) s (rep_bl _)⟩
  · split at q
    · rename_i a b ns ms e1 e2
      obtain ⟨p, vs, rfl, h1, q1⟩ := rep_tup_inv r1
      obtain ⟨p2, ws, rfl, h2, q2⟩ := rep_tup_inv r2
      rw [ints?_rep e1 q1] at h1
      rw [ints?_rep e2 q2] at h2
      exact .inr ⟨p, p2, ns, ms, rfl, rfl, SqT.of h1, SqT.of h2, q A _ H (.refl _ _) s (rep_bl _)⟩
    · exact q.elim
  · exact q.elim
def leD : D → D → Sto → Rs D
  | .int i, .int j, st => .ok (.bl (decide (i ≤ j))) st
  | _, _, _ => .bad
theorem leD_ok : OpD g (rI0 fun i j => .bl (decide (i ≤ j))) leD := by
  intro W A st σ H x y v u Q s r1 r2 q
  unfold leD at q
  split at q
  · exact ⟨_, _, rep_int_inv r1, rep_int_inv r2, q A _ H (.refl _ _) s (rep_bl _)⟩
  · exact q.elim
def gtD : D → D → Sto → Rs D
  | .int i, .int j, st => .ok (.bl (decide (j < i))) st
  | _, _, _ => .bad
theorem gtD_ok : OpD g (rI0 fun i j => .bl (decide (j < i))) gtD := by
  intro W A st σ H x y v u Q s r1 r2 q
  unfold gtD at q
  split at q
  · exact ⟨_, _, rep_int_inv r1, rep_int_inv r2, q A _ H (.refl _ _) s (rep_bl _)⟩
  · exact q.elim
def geD : D → D → Sto → Rs D
  | .int i, .int j, st => .ok (.bl (decide (j ≤ i))) st
  | _, _, _ => .bad
theorem geD_ok : OpD g (rI0 fun i j => .bl (decide (j ≤ i))) geD := by
  intro W A st σ H x y v u Q s r1 r2 q
  unfold geD at q
  split at q
  · exact ⟨_, _, rep_int_inv r1, rep_int_inv r2, q A _ H (.refl _ _) s (rep_bl _)⟩
  · exact q.elim
/-! ### is -/
def isD : D → D → Sto → Rs D
  | .bl a, .bl b, st => .ok (.bl (decide (a = b))) st
  | .bl _, .non, st => .ok (.bl false) st
  | .non, .non, st => .ok (.bl true) st
  | .int _, .non, st => .ok (.bl false) st
  | .str _, .non, st => .ok (.bl false) st
  | .tup _, .non, st => .ok (.bl false) st
  | .lst _, .non, st => .ok (.bl false) st
  | .loc _, .non, st => .ok (.bl false) st
  | _, _, _ => .bad
def notB : D → Sto → Rs D
  | .bl b, st => .ok (.bl (!b)) st
  | _, _ => .bad
def isnD (x y : D) (st : Sto) : Rs D := (isD x y st).bind notB
def rIsD : R2 := fun x y H Q => rIsB x y H Q ∨ (y = .non ∧ Q (.bl (decide (x = .non))) H)
def rIsnD : R2 := fun x y H Q => rNotB x y H Q ∨ (y = .non ∧ Q (.bl (!decide (x = .non))) H)
theorem op_isD : OpR X (compareOp .Is) rIsD := op_isBl.or op_isN
theorem op_isnD : OpR X (compareOp .IsNot) rIsnD := op_notBl.or op_notN
theorem isD_cases {A : List Addr} {H : Hp} {x y : D} {v u : V} {st st' : Sto} {c : D} (r1 : Rep g A H x v) (r2 : Rep g A H y u) (h : isD x y st = .ok c st') :
    ∃ b, c = .bl b ∧ st' = st ∧ ((∃ p q, v = .bl p ∧ u = .bl q ∧ b = decide (p = q)) ∨ (u = .non ∧ b = decide (v = .non))) := by
  unfold isD at h
  split at h
  all_goals first | (cases h; done) | skip
  · cases h; exact ⟨_, rfl, rfl, .inl ⟨_, _, rep_bl_inv r1, rep_bl_inv r2, rfl⟩⟩
  · cases h; exact ⟨_, rfl, rfl, .inr ⟨rep_non_inv r2, by rw [rep_bl_inv r1]; rfl⟩⟩
  · cases h; exact ⟨_, rfl, rfl, .inr ⟨rep_non_inv r2, by rw [rep_non_inv r1]; rfl⟩⟩
  · cases h; exact ⟨_, rfl, rfl, .inr ⟨rep_non_inv r2, by rw [rep_int_inv r1]; rfl⟩⟩
  · cases h; exact ⟨_, rfl, rfl, .inr ⟨rep_non_inv r2, by rw [(rep_str_inv r1).1]; rfl⟩⟩
  · cases h; obtain ⟨a, _, e, _⟩ := rep_tup_inv r1; exact ⟨_, rfl, rfl, .inr ⟨rep_non_inv r2, by rw [e]; rfl⟩⟩
  · cases h; obtain ⟨a, _, e, _⟩ := rep_lst_inv r1; exact ⟨_, rfl, rfl, .inr ⟨rep_non_inv r2, by rw [e]; rfl⟩⟩
  · cases h; obtain ⟨a, e, _⟩ := rep_loc_inv r1; exact ⟨_, rfl, rfl, .inr ⟨rep_non_inv r2, by rw [e]; rfl⟩⟩
theorem isD_only {x y : D} {st : Sto} : isD x y st = .bad ∨ ∃ c, isD x y st = .ok c st := by
  unfold isD
  split <;> first | exact .inl rfl | exact .inr ⟨_, rfl⟩
theorem isD_ok : OpD g rIsD isD := by
  intro W A st σ H x y v u Q s r1 r2 q
  rcases isD_only (x := x) (y := y) (st := st) with e | ⟨c, e⟩
  · rw [e] at q; exact q.elim
  · rw [e] at q
    obtain ⟨b, rfl, _, hh⟩ := isD_cases r1 r2 e
    have q' := q A _ H (.refl _ _) s (rep_bl b)
    rcases hh with ⟨p, p', e1, e2, rfl⟩ | ⟨e1, rfl⟩
    · exact .inl ⟨p, p', e1, e2, q'⟩
    · exact .inr ⟨e1, q'⟩
theorem isnD_ok : OpD g rIsnD isnD := by
  intro W A st σ H x y v u Q s r1 r2 q
  unfold isnD at q
  rcases isD_only (x := x) (y := y) (st := st) with e | ⟨c, e⟩
  · rw [e] at q; exact q.elim
  · rw [e] at q
    obtain ⟨b, rfl, _, hh⟩ := isD_cases r1 r2 e
    have q' := q A _ H (.refl _ _) s (rep_bl (!b))
    rcases hh with ⟨p, p', e1, e2, rfl⟩ | ⟨e1, rfl⟩
    · exact .inl ⟨p, p', e1, e2, q'⟩
    · exact .inr ⟨e1, q'⟩
/-! ### in -/
def keyOf : D → Option Key
  | .int i => some (.inl i)
  | .str s => some (.inr s)
  | _ => none
def keysOf : List D → Option (List Key)
  | [] => some []
  | d :: ds => (keyOf d).bind fun k => (keysOf ds).map (k :: ·)
/-- the first with a key -/
def look {κ : Type} [DecidableEq κ] : List (κ × D) → κ → Option D
  | [], _ => none
  | (j, d) :: r, k => if j = k then some d else look r k
theorem keyOf_rep {A : List Addr} {H : Hp} {d : D} {k : Key} {v : V} (h : keyOf d = some k) (r : Rep g A H d v) : v = kV k := by
  cases d <;> cases h
  · exact rep_int_inv r
  · exact (rep_str_inv r).1
theorem keysOf_rep {A : List Addr} {H : Hp} : ∀ {ds : List D} {ks : List Key} {vs : List V}, keysOf ds = some ks → Reps g A H ds vs → vs = ks.map kV
  | [], ks, vs, h, r => by cases h; exact r.nil_inv
  | d :: ds, ks, vs, h, r => by
    unfold keysOf at h
    obtain ⟨k, e1, e2⟩ := Option.bind_eq_some_iff.mp h
    obtain ⟨ls, e3, e4⟩ := Option.map_eq_some_iff.mp e2
    obtain ⟨v, ws, rfl, r1, r2⟩ := r.cons_inv
    rw [keyOf_rep e1 r1, keysOf_rep e3 r2, ← e4]; rfl
theorem look_rep {A : List Addr} {H : Hp} {κ : Type} [DecidableEq κ] (k : κ) : ∀ {kvs : List (κ × D)} {kv' : List (κ × V)}, Paired (fun (p : κ × D) (q : κ × V) => p.1 = q.1 ∧ Rep g A H p.2 q.2) kvs kv' →
    match look kvs k with
    | some d => ∃ v, valV kv' k = some v ∧ Rep g A H d v
    | none => valV kv' k = none
  | [], _, .nil => rfl
  | (j, d) :: r, (j', v) :: r', .cons h t => by
    obtain ⟨e, rr⟩ := h
    have e' : j = j' := e
    subst e'
    unfold look
    by_cases hk : j = k
    · rw [if_pos hk, valV_pos hk]
      exact ⟨v, rfl, rr⟩
    · rw [if_neg hk, valV_neg hk]
      exact look_rep k t
def flatD : D → Bool
  | .non => true
  | .bl _ => true
  | .int _ => true
  | .str _ => true
  | _ => false
def eqFlat : D → D → Bool
  | .non, .non => true
  | .bl a, .bl b => a == b
  | .bl a, .int b => (if a then 1 else 0) == b
  | .int a, .bl b => a == (if b then 1 else 0)
  | .int a, .int b => a == b
  | .str a, .str b => a == b
  | _, _ => false
theorem flat_rep {A : List Addr} {H : Hp} {d : D} {v : V} (h : flatD d = true) (r : Rep g A H d v) : flatV v = true := by
  cases d <;> first | cases h | skip
  · rw [rep_non_inv r]; rfl
  · rw [rep_bl_inv r]; rfl
  · rw [rep_int_inv r]; rfl
  · rw [(rep_str_inv r).1]; rfl
theorem eqFlat_rep {A : List Addr} {H : Hp} {d e : D} {v u : V} (hd : flatD d = true) (he : flatD e = true) (r : Rep g A H d v) (q : Rep g A H e u) : eqV v u = eqFlat d e := by
  cases d <;> first | cases hd | skip
  all_goals cases e <;> first | cases he | skip
  all_goals
    first | rw [rep_non_inv r] | rw [rep_bl_inv r] | rw [rep_int_inv r] | rw [(rep_str_inv r).1]
    first | rw [rep_non_inv q] | rw [rep_bl_inv q] | rw [rep_int_inv q] | rw [(rep_str_inv q).1]
    rfl
theorem any_rep {A : List Addr} {H : Hp} {e : D} {u : V} (he : flatD e = true) (q : Rep g A H e u) : ∀ {ds : List D} {vs : List V}, ds.all flatD = true → Reps g A H ds vs → vs.all flatV = true ∧ inV u vs = ds.any fun d => eqFlat d e
  | [], vs, _, r => by rw [r.nil_inv]; exact ⟨rfl, rfl⟩
  | d :: ds, vs, h, r => by
    obtain ⟨v, ws, rfl, r1, r2⟩ := r.cons_inv
    rw [List.all_cons, Bool.and_eq_true] at h
    obtain ⟨a, b⟩ := any_rep he q h.2 r2
    refine ⟨by rw [List.all_cons, flat_rep h.1 r1, a]; rfl, ?_⟩
    show (eqV v u || inV u ws) = _
    rw [List.any_cons, eqFlat_rep h.1 he r1 q, b]
def strIn (i j : Str) : Bool := !(Builtin.Str.occurrences j i 0 j.length 1).isEmpty
/-- x in y -/
def inB (x y : D) (st : Sto) : Option Bool := match y with
  | .lst ds => if flatD x = true ∧ ds.all flatD = true then some (ds.any fun d => eqFlat d x) else none
  | .tup ds => if flatD x = true ∧ ds.all flatD = true then some (ds.any fun d => eqFlat d x) else none
  | .kt ss => match x with
    | .str s => some (ss.any fun z => z == s)
    | _ => none
  | .str j => match x with
    | .str i => some (strIn i j)
    | _ => none
  | .loc l => match st[l]? with
    | some (.lst ds) => if flatD x = true ∧ ds.all flatD = true then some (ds.any fun d => eqFlat d x) else none
    | some (.dk _ kvs) => (keyOf x).map fun k => (look kvs k).isSome
    | some (.dt _ kvs) => match x with
      | .tup ds => (keysOf ds).map fun k => (look kvs k).isSome
      | _ => none
    | _ => none
  | _ => none
def inD (x y : D) (st : Sto) : Rs D := match inB x y st with
  | some b => .ok (.bl b) st
  | none => .bad
def notInD (x y : D) (st : Sto) : Rs D := match inB x y st with
  | some b => .ok (.bl (!b)) st
  | none => .bad
def rDIn (neg : Bool) : R2 := fun y x H Q => ∃ a o, x = .ref a ∧ DGet H a y o ∧ Q (.bl (if neg = true then !o.isSome else o.isSome)) H
theorem op_dIn (hu : X.A.units + 1 < cLine) : OpR X (compareOp .In) (rDIn false) := by
  intro pins s σ H x y v u Q I rx ry h
  obtain ⟨a, o, rfl, gg, q⟩ := h
  obtain rfl : u = Value.ref a := ry
  exact d_in hu I gg rx fun s3 I3 => ⟨.bl o.isSome, H, I3, rfl, q⟩
theorem op_dNotIn (hu : X.A.units + 1 < cLine) : OpR X (compareOp .NotIn) (rDIn true) := by
  intro pins s σ H x y v u Q I rx ry h
  obtain ⟨a, o, rfl, gg, q⟩ := h
  obtain rfl : u = Value.ref a := ry
  exact d_notIn hu I gg rx fun s3 I3 => ⟨.bl (!o.isSome), H, I3, rfl, q⟩
def rInS (neg : Bool) : R2 := fun x y H Q => ∃ i j, x = .str i ∧ y = .str j ∧ Q (.bl (if neg = true then !strIn i j else strIn i j)) H
theorem op_inS : OpR X (compareOp .In) (rInS false) := op_in_str
theorem op_notInS : OpR X (compareOp .NotIn) (rInS true) := op_notIn_str
def rInD (K : PySem.W.Frag) (neg : Bool) : R2 := fun x y H Q => rIn K neg x y H Q ∨ (rInS neg x y H Q ∨ rDIn neg x y H Q)
theorem op_inD (hu : X.A.units + 1 < cLine) : OpR X (compareOp .In) (rInD X.K false) := op_in_seq.or (op_inS.or (op_dIn hu))
theorem op_notInD (hu : X.A.units + 1 < cLine) : OpR X (compareOp .NotIn) (rInD X.K true) := op_notIn_seq.or (op_notInS.or (op_dNotIn hu))
theorem dget_rep {A : List Addr} {st : Sto} {H : Hp} {z : Bool} {kvs : List (Key × D)} {l : Nat} {a : Addr} {k : Key} (s : StOk g A st H) (ea : A[l]? = some a) (e : st[l]? = some (.dk z kvs)) :
    match look kvs k with
    | some d => ∃ v, DGet H a (kV k) (some v) ∧ Rep g A H d v
    | none => DGet H a (kV k) none := by
  obtain ⟨kv', h, p, _⟩ := s.obj l a _ ea e
  have rd : Rd H a (.dK kv') := by
    cases z with
    | true => exact .inr (by simpa using h)
    | false => exact .inl (by simpa using h)
  have q := look_rep k p
  cases hl : look kvs k with
  | some d =>
    rw [hl] at q
    obtain ⟨v, e1, r⟩ := q
    exact ⟨v, .inl ⟨kv', k, rd, rfl, e1.symm⟩, r⟩
  | none =>
    rw [hl] at q
    exact .inl ⟨kv', k, rd, rfl, q.symm⟩
theorem dtget_rep {A : List Addr} {st : Sto} {H : Hp} {z : Bool} {kvs : List (List Key × D)} {l : Nat} {a b : Addr} {k : List Key} (s : StOk g A st H) (ea : A[l]? = some a) (e : st[l]? = some (.dt z kvs)) (hb : H b = some (.tup (k.map kV))) :
    match look kvs k with
    | some d => ∃ v, DGet H a (.ref b) (some v) ∧ Rep g A H d v
    | none => DGet H a (.ref b) none := by
  obtain ⟨kv', h, p, _⟩ := s.obj l a _ ea e
  have rd : Rd H a (.dT kv') := by
    cases z with
    | true => exact .inr (by simpa using h)
    | false => exact .inl (by simpa using h)
  have q := look_rep k p
  cases hl : look kvs k with
  | some d =>
    rw [hl] at q
    obtain ⟨v, e1, r⟩ := q
    exact ⟨v, .inr ⟨kv', k, b, rd, rfl, hb, e1.symm⟩, r⟩
  | none =>
    rw [hl] at q
    exact .inr ⟨kv', k, b, rd, rfl, hb, q.symm⟩
theorem inB_rep {A : List Addr} {st : Sto} {H : Hp} {x y : D} {v u : V} {b : Bool} (neg : Bool) {Q : VK} (s : StOk g A st H) (r1 : Rep g A H x v) (r2 : Rep g A H y u) (h : inB x y st = some b) (q : Q (.bl (if neg = true then !b else b)) H) : rInD g.K neg v u H Q := by
  unfold inB at h
  split at h
  · split at h
    · rename_i ds hc
      cases h
      obtain ⟨p, vs, rfl, h1, _, q1⟩ := rep_lst_inv r2
      obtain ⟨a1, a2⟩ := any_rep hc.1 r1 hc.2 q1
      exact .inl ⟨p, vs, rfl, .inl (SqL.of h1), flat_rep hc.1 r1, a1, by rw [a2]; exact q⟩
    · cases h
  · split at h
    · rename_i ds hc
      cases h
      obtain ⟨p, vs, rfl, h1, q1⟩ := rep_tup_inv r2
      obtain ⟨a1, a2⟩ := any_rep hc.1 r1 hc.2 q1
      exact .inl ⟨p, vs, rfl, .inr (SqT.of h1), flat_rep hc.1 r1, a1, by rw [a2]; exact q⟩
    · cases h
  · split at h
    · rename_i ss _ s'
      cases h
      obtain ⟨p, rfl, h1⟩ := rep_kt_inv r2
      obtain ⟨e1, _⟩ := rep_str_inv r1
      subst e1
      refine .inl ⟨p, _, rfl, .inr h1, rfl, ?_, ?_⟩
      · rw [List.all_map]; exact List.all_eq_true.mpr fun _ _ => rfl
      · have e : inV (.str s') (ss.map V.str) = ss.any fun z => z == s' := by
          unfold inV; rw [List.any_map]; rfl
        rw [e]; exact q
    · cases h
  · split at h
    · rename_i j _ i
      cases h
      exact .inr (.inl ⟨i, j, (rep_str_inv r1).1, (rep_str_inv r2).1, q⟩)
    · cases h
  · rename_i l
    obtain ⟨a, rfl, ea⟩ := rep_loc_inv r2
    split at h
    · rename_i ds e
      split at h
      · rename_i hc
        cases h
        obtain ⟨vs, h1, q1⟩ := s.obj l a _ ea e
        obtain ⟨a1, a2⟩ := any_rep hc.1 r1 hc.2 q1
        exact .inl ⟨a, vs, rfl, .inl (SqL.of h1), flat_rep hc.1 r1, a1, by rw [a2]; exact q⟩
      · cases h
    · rename_i z kvs e
      obtain ⟨k, e1, e2⟩ := Option.map_eq_some_iff.mp h
      have ek := keyOf_rep e1 r1
      subst ek
      have gg := dget_rep (k := k) s ea e
      cases hl : look kvs k with
      | some d =>
        rw [hl] at gg e2
        obtain ⟨w, g1, _⟩ := gg
        have e3 : b = true := e2.symm
        subst e3
        exact .inr (.inr ⟨a, some w, rfl, g1, q⟩)
      | none =>
        rw [hl] at gg e2
        have e3 : b = false := e2.symm
        subst e3
        exact .inr (.inr ⟨a, none, rfl, gg, q⟩)
    · rename_i z kvs e
      split at h
      · rename_i ds
        obtain ⟨k, e1, e2⟩ := Option.map_eq_some_iff.mp h
        obtain ⟨p, vs, rfl, h1, q1⟩ := rep_tup_inv r1
        rw [keysOf_rep e1 q1] at h1
        have gg := dtget_rep (k := k) s ea e h1
        cases hl : look kvs k with
        | some d =>
          rw [hl] at gg e2
          obtain ⟨w, g1, _⟩ := gg
          have e3 : b = true := e2.symm
          subst e3
          exact .inr (.inr ⟨a, some w, rfl, g1, q⟩)
        | none =>
          rw [hl] at gg e2
          have e3 : b = false := e2.symm
          subst e3
          exact .inr (.inr ⟨a, none, rfl, gg, q⟩)
      · cases h
    · cases h
  · cases h
theorem inD_ok : OpD g (rInD g.K false) inD := by
  intro W A st σ H x y v u Q s r1 r2 q
  unfold inD at q
  split at q
  · rename_i b e
    exact inB_rep false s r1 r2 e (q A _ H (.refl _ _) s (rep_bl _))
  · exact q.elim
theorem notInD_ok : OpD g (rInD g.K true) notInD := by
  intro W A st σ H x y v u Q s r1 r2 q
  unfold notInD at q
  split at q
  · rename_i b e
    exact inB_rep true s r1 r2 e (q A _ H (.refl _ _) s (rep_bl _))
  · exact q.elim

/-! ### comparisons as values, as tests -/
variable {a b : Expr} {pos : Pos} {f k : DE}
theorem de_cmp {op : CmpOp} {r : R2} {h : D → D → Sto → Rs D} (ho : OpR X (compareOp op) r) (o : OpD g r h) (ha : PE X a (tD g W f)) (hb : PE X b (tD g W k)) (hm : behindInMarks op b = false) : PE X (.Compare a [op] [b] pos) (tD g W (dB h f k)) :=
  pe_imp (pe_cmpR ho ha hb hm) fun σ H Q q => bin_imp o q
def asB : D → Sto → Rs Bool
  | .bl b, st => .ok b st
  | _, _ => .bad
/-- a value as a test -/
def dTest (f : DE) : DT := fun env st => (f env st).bind asB
theorem test_imp {t : TE} {σ : L2.St} {H : Hp} {Q : Bool → Hp → Prop} (k : ∀ Q, tD g W f σ H Q → t σ H Q) (q : tT g W (dTest f) σ H Q) : t σ H fun x H' => ∃ c, x = .bl c ∧ Q c H' := by
  obtain ⟨A, env, st, M, q⟩ := q
  refine k _ ((tR.bind (rel := Rep g) M q).mono fun v H1 ⟨A1, d, st1, x, s, r, M1, q1⟩ => ?_)
  unfold asB at q1
  split at q1
  · exact ⟨_, rep_bl_inv r, q1 A1 _ H1 (.refl _ _) s rfl⟩
  · exact q1.elim
theorem dt_cmp {op : CmpOp} {r : R2} {h : D → D → Sto → Rs D} (ho : OpR X (compareOp op) r) (o : OpD g r h) (ha : PE X a (tD g W f)) (hb : PE X b (tD g W k)) (hm : behindInMarks op b = false) : PT X (.Compare a [op] [b] pos) (tT g W (dTest (dB h f k))) :=
  pt_imp (pt_cmpR ho ha hb hm) fun σ H Q q => test_imp (fun Q q => bin_imp o q) q
theorem dt_val (ha : PE X a (tD g W f)) (he : ∀ whole, isTrue a X.env whole = (do let v ← whole; standAt a.pos; holding [v] (truthy v))) : PT X a (tT g W (dTest f)) :=
  pt_imp (pt_val ha he) fun σ H Q q => test_imp (fun Q q => q) q
/-- a < b < c -/
def dChain (h h' : D → D → Sto → Rs D) (f k m : DE) : DE := fun env st => (f env st).bind fun x st => (k env st).bind fun y st => (h x y st).bind fun z st => match z with
  | .bl true => (m env st).bind fun w st => h' y w st
  | .bl false => .ok (.bl false) st
  | _ => .bad
theorem chain_imp {r r' : R2} {h h' : D → D → Sto → Rs D} (o : OpD g r h) (o' : OpD g r' h') {m : DE} {σ : L2.St} {H : Hp} {Q : VK} (q : tD g W (dChain h h' f k m) σ H Q) : tChain r r' (tD g W f) (tD g W k) (tD g W m) σ H Q := by
  obtain ⟨A, env, st, M, q⟩ := q
  refine (tR.bind (rel := Rep g) M q).mono fun v H1 ⟨A1, d, st1, x, s, rr, M1, q1⟩ => ?_
  refine (tR.bind (rel := Rep g) M1 q1).mono fun u H2 ⟨A2, d2, st2, x2, s2, r2, M2, q2⟩ => ?_
  refine o W A2 st2 σ H2 d d2 v u _ s2 (rr.ext x2) r2 ?_
  cases e : h d d2 st2 with
  | ok c st3 =>
    rw [e, Rs.bind_ok] at q2
    refine fun A3 z H3 x3 s3 r3 => ?_
    have q3 := RP.ext x3 q2
    split at q3
    · refine ⟨true, rep_bl_inv r3, ?_⟩
      rw [if_pos rfl]
      refine (tR.bind (rel := Rep g) ⟨M2.env.ext x3, s3⟩ q3).mono fun w H4 ⟨A4, d4, st4, x4, s4, r4, M4, q4⟩ => ?_
      exact o' W A4 st4 σ H4 d2 d4 u w Q s4 (r2.ext (x3.trans x4)) r4 q4
    · refine ⟨false, rep_bl_inv r3, ?_⟩
      rw [if_neg Bool.false_ne_true]
      exact q3 A3 _ H3 (.refl _ _) s3 (rep_bl _)
    · exact q3.elim
  | exc c st3 => rw [e] at q2; exact q2
  | bad => rw [e] at q2; exact q2
theorem de_chain {c : Expr} {op op' : CmpOp} {r r' : R2} {h h' : D → D → Sto → Rs D} {m : DE} (ho : OpR X (compareOp op) r) (o : OpD g r h) (ho' : OpR X (compareOp op') r') (o' : OpD g r' h') (ha : PE X a (tD g W f)) (hb : PE X b (tD g W k)) (hc : PE X c (tD g W m)) (hm : lastMarks [op, op'] [b, c] = false) :
    PE X (.Compare a [op, op'] [b, c] pos) (tD g W (dChain h h' f k m)) := pe_imp (pe_chain ho ho' ha hb hc hm) fun σ H Q q => chain_imp o o' q
theorem dt_chain {c : Expr} {op op' : CmpOp} {r r' : R2} {h h' : D → D → Sto → Rs D} {m : DE} (ho : OpR X (compareOp op) r) (o : OpD g r h) (ho' : OpR X (compareOp op') r') (o' : OpD g r' h') (ha : PE X a (tD g W f)) (hb : PE X b (tD g W k)) (hc : PE X c (tD g W m)) (hm : lastMarks [op, op'] [b, c] = false) :
    PT X (.Compare a [op, op'] [b, c] pos) (tT g W (dTest (dChain h h' f k m))) := pt_imp (pt_chain ho ho' ha hb hc hm) fun σ H Q q => test_imp (fun Q q => chain_imp o o' q) q

/-! ### and, or, not -/
def dAnd (t u : DT) : DT := fun env st => (t env st).bind fun c st => if c = true then u env st else .ok false st
def dOr (t u : DT) : DT := fun env st => (t env st).bind fun c st => if c = true then .ok true st else u env st
def dNot (t : DT) : DT := fun env st => (t env st).bind fun c st => .ok (!c) st
variable {t u : DT} {rest : List Expr}
theorem dw_and1 (ha : PT X a (tT g W t)) : PW X (.BoolOp .And [a] pos) (tT g W t) := pw_and1 ha
theorem dw_or1 (ha : PT X a (tT g W t)) : PW X (.BoolOp .Or [a] pos) (tT g W t) := pw_or1 ha
theorem dw_and (ha : PT X a (tT g W t)) (hb : PW X (.BoolOp .And (b :: rest) pos) (tT g W u)) : PW X (.BoolOp .And (a :: b :: rest) pos) (tT g W (dAnd t u)) :=
  pw_imp (pw_and ha hb) fun σ H Q q => by
    obtain ⟨A, env, st, M, q⟩ := q
    refine (tR.bind (rel := relB) M q).mono fun v H1 ⟨A1, d, st1, x, s, r, M1, q1⟩ => ?_
    have r' : d = v := r
    subst r'
    cases d with
    | true => rw [if_pos rfl] at q1 ⊢; exact ⟨A1, env, st1, M1, q1⟩
    | false => rw [if_neg Bool.false_ne_true] at q1 ⊢; exact q1 A1 _ H1 (.refl _ _) s rfl
theorem dw_or (ha : PT X a (tT g W t)) (hb : PW X (.BoolOp .Or (b :: rest) pos) (tT g W u)) : PW X (.BoolOp .Or (a :: b :: rest) pos) (tT g W (dOr t u)) :=
  pw_imp (pw_or ha hb) fun σ H Q q => by
    obtain ⟨A, env, st, M, q⟩ := q
    refine (tR.bind (rel := relB) M q).mono fun v H1 ⟨A1, d, st1, x, s, r, M1, q1⟩ => ?_
    have r' : d = v := r
    subst r'
    cases d with
    | true => rw [if_pos rfl] at q1 ⊢; exact q1 A1 _ H1 (.refl _ _) s rfl
    | false => rw [if_neg Bool.false_ne_true] at q1 ⊢; exact ⟨A1, env, st1, M1, q1⟩
theorem dt_not (ha : PT X a (tT g W t)) : PT X (.UnaryOp .Not a pos) (tT g W (dNot t)) :=
  pt_imp (pt_not ha) fun σ H Q q => by
    obtain ⟨A, env, st, M, q⟩ := q
    refine (tR.bind (rel := relB) M q).mono fun v H1 ⟨A1, d, st1, x, s, r, M1, q1⟩ => ?_
    have r' : d = v := r
    subst r'
    exact q1 A1 _ H1 (.refl _ _) s rfl
def dAndV (f k : DE) : DE := fun env st => (f env st).bind fun c st => match c with
  | .bl true => k env st
  | .bl false => .ok (.bl false) st
  | _ => .bad
def dOrV (f k : DE) : DE := fun env st => (f env st).bind fun c st => match c with
  | .bl true => .ok (.bl true) st
  | .bl false => k env st
  | _ => .bad
theorem de_one {op : BoolOp} (h : PE X a (tD g W f)) : PE X (.BoolOp op [a] pos) (tD g W f) := pe_one h
theorem de_and (ha : PE X a (tD g W f)) (hb : PE X (.BoolOp .And (b :: rest) pos) (tD g W k)) : PE X (.BoolOp .And (a :: b :: rest) pos) (tD g W (dAndV f k)) :=
  pe_imp (pe_and ha hb) fun σ H Q q => by
    obtain ⟨A, env, st, M, q⟩ := q
    refine (tR.bind (rel := Rep g) M q).mono fun v H1 ⟨A1, d, st1, x, s, r, M1, q1⟩ => ?_
    split at q1
    · refine ⟨true, rep_bl_inv r, ?_⟩
      rw [if_pos rfl]; exact ⟨A1, env, st1, M1, q1⟩
    · refine ⟨false, rep_bl_inv r, ?_⟩
      rw [if_neg Bool.false_ne_true]; exact q1 A1 _ H1 (.refl _ _) s (rep_bl _)
    · exact q1.elim
theorem de_or (ha : PE X a (tD g W f)) (hb : PE X (.BoolOp .Or (b :: rest) pos) (tD g W k)) : PE X (.BoolOp .Or (a :: b :: rest) pos) (tD g W (dOrV f k)) :=
  pe_imp (pe_or ha hb) fun σ H Q q => by
    obtain ⟨A, env, st, M, q⟩ := q
    refine (tR.bind (rel := Rep g) M q).mono fun v H1 ⟨A1, d, st1, x, s, r, M1, q1⟩ => ?_
    split at q1
    · refine ⟨true, rep_bl_inv r, ?_⟩
      rw [if_pos rfl]; exact q1 A1 _ H1 (.refl _ _) s (rep_bl _)
    · refine ⟨false, rep_bl_inv r, ?_⟩
      rw [if_neg Bool.false_ne_true]; exact ⟨A1, env, st1, M1, q1⟩
    · exact q1.elim
def dNotV (f : DE) : DE := fun env st => (f env st).bind notB
theorem de_not (ha : PE X a (tD g W f)) : PE X (.UnaryOp .Not a pos) (tD g W (dNotV f)) :=
  pe_imp (pe_not ha) fun σ H Q q => by
    obtain ⟨A, env, st, M, q⟩ := q
    refine (tR.bind (rel := Rep g) M q).mono fun v H1 ⟨A1, d, st1, x, s, r, M1, q1⟩ => ?_
    unfold notB at q1
    split at q1
    · exact ⟨_, rep_bl_inv r, q1 A1 _ H1 (.refl _ _) s (rep_bl _)⟩
    · exact q1.elim
def dIf (t : DT) (f k : DE) : DE := fun env st => (t env st).bind fun c st => if c = true then f env st else k env st
theorem de_if {c : Expr} (hc : PT X c (tT g W t)) (ha : PE X a (tD g W f)) (hb : PE X b (tD g W k)) : PE X (.IfExp c a b pos) (tD g W (dIf t f k)) :=
  pe_imp (pe_ifExp hc ha hb) fun σ H Q q => by
    obtain ⟨A, env, st, M, q⟩ := q
    refine (tR.bind (rel := relB) M q).mono fun v H1 ⟨A1, d, st1, x, s, r, M1, q1⟩ => ?_
    have r' : d = v := r
    subst r'
    cases d with
    | true => rw [if_pos rfl] at q1 ⊢; exact ⟨A1, env, st1, M1, q1⟩
    | false => rw [if_neg Bool.false_ne_true] at q1 ⊢; exact ⟨A1, env, st1, M1, q1⟩
end
end DL

/-! DL6: statements, loops, comprehensions. -/
namespace DL
open PySem L2

def Rs.thn {α : Type} (r : Rs α) (env : En) (k : α → Sto → SR) : SR := match r with
  | .ok a st => k a st
  | .exc c st => .exc c env st
  | .bad => .bad
@[simp] theorem Rs.thn_ok {α : Type} (a : α) (st : Sto) (env : En) (k : α → Sto → SR) : (Rs.ok a st).thn env k = k a st := nrfl rfl
@[simp] theorem Rs.thn_exc {α : Type} (c : Nat) (st : Sto) (env : En) (k : α → Sto → SR) : (Rs.exc c st : Rs α).thn env k = .exc c env st := nrfl rfl
@[simp] theorem Rs.thn_bad {α : Type} (env : En) (k : α → Sto → SR) : (Rs.bad : Rs α).thn env k = .bad := nrfl rfl

section
variable {X : Cx} {g : Gh} {W : WX}
theorem tS.bind {α β : Type} {rel : List Addr → Hp → α → β → Prop} {D : Ends} {A : List Addr} {σ : L2.St} {H : Hp} {env : En} {st : Sto} {f : En → Sto → Rs α} {k : α → Sto → SR} (M : Mt g A env st σ H) (h : SPd g W D A H ((f env st).thn env k)) :
    tR g W rel f σ H fun v H1 => ∃ A1 d st1, f env st = .ok d st1 ∧ Ext A H A1 H1 ∧ StOk g A1 st1 H1 ∧ rel A1 H1 d v ∧ Mt g A1 env st1 σ H1 ∧ SPd g W D A1 H1 (k d st1) := by
  refine ⟨A, env, st, M, ?_⟩
  cases e : f env st with
  | ok d st1 =>
    rw [e] at h
    exact fun A1 v H1 x s r => ⟨A1, d, st1, rfl, x, s, r, ⟨M.env.ext x, s⟩, SPd.ext x h⟩
  | exc c st1 =>
    rw [e] at h
    exact fun A1 H1 dx x s => h A1 σ H1 dx x ⟨M.env.ext x, s⟩
  | bad => rw [e] at h; exact h

def dNext : DS := fun env st => .nx env st
def dSeq (f k : DS) : DS := fun env st => match f env st with
  | .nx e st => k e st
  | .rt d st => .rt d st
  | .bk e st => .bk e st
  | .ct e st => .ct e st
  | .exc c e st => .exc c e st
  | .bad => .bad
theorem dss_nil : PSs X [] (tS g W dNext) := pss_imp pss_nil fun D σ H q => by
  obtain ⟨A, env, st, M, q⟩ := q
  exact q A σ H (.refl _ _) M
theorem dss_cons {s : Stmt} {r : List Stmt} {f k : DS} (h1 : PS X s (tS g W f)) (h2 : PSs X r (tS g W k)) : PSs X (s :: r) (tS g W (dSeq f k)) :=
  pss_imp (pss_cons h1 h2) fun D σ H q => by
    obtain ⟨A, env, st, M, q⟩ := q
    refine ⟨A, env, st, M, ?_⟩
    unfold dSeq at q
    cases e : f env st with
    | nx e' st' =>
      rw [e] at q
      exact fun A' σ' H' x M' => ⟨A', e', st', M', SPd.ext x q⟩
    | rt d st' => rw [e] at q; exact q
    | bk e' st' => rw [e] at q; exact q
    | ct e' st' => rw [e] at q; exact q
    | exc c e' st' => rw [e] at q; exact q
    | bad => rw [e] at q; exact q
theorem dss_one {s : Stmt} {f : DS} (h1 : PS X s (tS g W f)) : PSs X [s] (tS g W f) := pss_one h1
theorem ds_pass {pos : Pos} : PS X (.Pass pos) (tS g W dNext) := ps_imp ps_pass fun D σ H q => by
  obtain ⟨A, env, st, M, q⟩ := q
  exact q A σ H (.refl _ _) M
def dBreak : DS := fun env st => .bk env st
def dCont : DS := fun env st => .ct env st
theorem ds_break {pos : Pos} : PS X (.Break pos) (tS g W dBreak) := ps_imp ps_break fun D σ H q => by
  obtain ⟨A, env, st, M, q⟩ := q
  exact q A σ H (.refl _ _) M
theorem ds_cont {pos : Pos} : PS X (.Continue pos) (tS g W dCont) := ps_imp ps_continue fun D σ H q => by
  obtain ⟨A, env, st, M, q⟩ := q
  exact q A σ H (.refl _ _) M
def dExpr (f : DE) : DS := fun env st => (f env st).thn env fun _ st => .nx env st
theorem ds_expr {e : Expr} {pos : Pos} {f : DE} (he : PE X e (tD g W f)) (hs : swapsWith e none pos.line X.env = pure false) : PS X (.Expr e pos) (tS g W (dExpr f)) :=
  ps_imp (ps_expr he hs) fun D σ H q => by
    obtain ⟨A, env, st, M, q⟩ := q
    exact (tS.bind (rel := Rep g) M q).mono fun v H1 ⟨A1, d, st1, _, x, s, r, M1, q1⟩ => q1 A1 σ H1 (.refl _ _) M1
def dRet (f : DE) : DS := fun env st => (f env st).thn env fun d st => .rt d st
theorem ds_ret {e : Expr} {pos : Pos} {f : DE} (he : PE X e (tD g W f)) : PS X (.Return (some e) pos) (tS g W (dRet f)) :=
  ps_imp (ps_ret he) fun D σ H q => by
    obtain ⟨A, env, st, M, q⟩ := q
    exact (tS.bind (rel := Rep g) M q).mono fun v H1 ⟨A1, d, st1, _, x, s, r, M1, q1⟩ => q1 A1 v H1 (.refl _ _) s r
def dRetN : DS := fun _ st => .rt .non st
theorem ds_retN {pos : Pos} : PS X (.Return none pos) (tS g W dRetN) := ps_imp ps_retN fun D σ H q => by
  obtain ⟨A, env, st, M, q⟩ := q
  exact q A .non H (.refl _ _) M.sto rep_non
def dIfS (t : DT) (f k : DS) : DS := fun env st => (t env st).thn env fun c st => if c = true then f env st else k env st
theorem ds_if {c : Expr} {a b : List Stmt} {pos : Pos} {t : DT} {f k : DS} (hc : PT X c (tT g W t)) (ha : PSs X a (tS g W f)) (hb : PSs X b (tS g W k)) : PS X (.If c a b pos) (tS g W (dIfS t f k)) :=
  ps_imp (ps_if hc ha hb) fun D σ H q => by
    obtain ⟨A, env, st, M, q⟩ := q
    refine (tS.bind (rel := relB) M q).mono fun v H1 ⟨A1, d, st1, _, x, s, r, M1, q1⟩ => ?_
    have r' : d = v := r
    subst r'
    cases d with
    | true => rw [if_pos rfl] at q1 ⊢; exact ⟨A1, env, st1, M1, q1⟩
    | false => rw [if_neg Bool.false_ne_true] at q1 ⊢; exact ⟨A1, env, st1, M1, q1⟩

/-! ### targets -/
abbrev Tg := D → En → Option En
/-- a target stores data -/
def TgOk (g : Gh) (K : PySem.W.Frag) (t : TG) (tg : Tg) : Prop := ∀ (A : List Addr) (st : Sto) (σ : L2.St) (H : Hp) (env env' : En) (d : D) (v : V) (Q : L2.St → Hp → Prop), Mt g A env st σ H → Rep g A H d v → tg d env = some env' →
  (∀ σ', Mt g A env' st σ' H → Q σ' H) → t v σ H Q
def tgN (i : Nat) : Tg := fun d env => some (env.set i (some d))
theorem tgN_ok {K : PySem.W.Frag} (i : Nat) : TgOk g K (gName i) (tgN i) := fun A st σ H env env' d v Q M r e k => by
  cases e
  exact k _ ⟨M.env.set i r, M.sto⟩
def tgNs : List Nat → List D → En → Option En
  | [], [], env => some env
  | i :: is, d :: ds, env => tgNs is ds (env.set i (some d))
  | _, _, _ => none
def tgT (is : List Nat) : Tg := fun d env => match d with
  | .tup ds => tgNs is ds env
  | _ => none
def gNames : List Nat → TGs
  | [] => gNil
  | i :: is => gCons (gName i) (gNames is)
theorem tgNs_ok {A : List Addr} {st : Sto} {H : Hp} : ∀ {is : List Nat} {ds : List D} {vs : List V} {σ : L2.St} {env env' : En} {Q : L2.St → Hp → Prop}, Mt g A env st σ H → Reps g A H ds vs → tgNs is ds env = some env' → (∀ σ', Mt g A env' st σ' H → Q σ' H) → gNames is vs σ H Q
  | [], [], vs, σ, env, env', Q, M, r, e, k => by
    cases e
    exact ⟨r.nil_inv, k σ M⟩
  | [], d :: ds, vs, σ, env, env', Q, M, r, e, k => by cases e
  | i :: is, [], vs, σ, env, env', Q, M, r, e, k => by cases e
  | i :: is, d :: ds, vs, σ, env, env', Q, M, r, e, k => by
    obtain ⟨v, ws, rfl, r1, r2⟩ := r.cons_inv
    exact ⟨v, ws, rfl, tgNs_ok ⟨M.env.set i r1, M.sto⟩ r2 e k⟩
theorem tgNs_len : ∀ {is : List Nat} {ds : List D} {env env' : En}, tgNs is ds env = some env' → ds.length = is.length
  | [], [], _, _, _ => rfl
  | [], _ :: _, _, _, e => by cases e
  | _ :: _, [], _, _, e => by cases e
  | i :: is, d :: ds, env, env', e => by
    have := tgNs_len (is := is) (ds := ds) e
    simp [this]
theorem tgT_ok {K : PySem.W.Frag} (is : List Nat) : TgOk g K (gTup K is.length (gNames is)) (tgT is) := fun A st σ H env env' d v Q M r e k => by
  unfold tgT at e
  split at e
  · rename_i ds
    obtain ⟨a, vs, rfl, h, rr⟩ := rep_tup_inv r
    exact ⟨a, vs, rfl, SqT.of h, by rw [← rr.len]; exact tgNs_len e, tgNs_ok M rr e k⟩
  · cases e

/-! ### x = e -/
def dSet (tg : Tg) (f : DE) : DS := fun env st => (f env st).thn env fun d st => match tg d env with
  | some env' => .nx env' st
  | none => .bad
theorem set_imp {t : TG} {tg : Tg} {K : PySem.W.Frag} (ht : TgOk g K t tg) {f : DE} {D : Ends} {σ : L2.St} {H : Hp} (q : tS g W (dSet tg f) D σ H) : tAsg (tD g W f) t D σ H := by
  obtain ⟨A, env, st, M, q⟩ := q
  refine (tS.bind (rel := Rep g) M q).mono fun v H1 ⟨A1, d, st1, _, x, s, r, M1, q1⟩ => ?_
  split at q1
  · rename_i env' e
    exact ht A1 st1 σ H1 env env' d v D.nx M1 r e fun σ' M' => q1 A1 σ' H1 (.refl _ _) M'
  · exact q1.elim
theorem ds_set {x : Str} {e : Expr} {pos pos' : Pos} {f : DE} (i : Nat) (hN : X.N.Nodup) (hi : X.N[i]? = some x) (hx : Loc X.env.scope x) (he : PE X e (tD g W f)) (hs : swapsWith e (some (.Name x pos')) pos.line X.env = pure false) (hf : X.fn x = true ∨ X.env.scope.names.lookup x = some .local) :
    PS X (.Assign [.Name x pos'] e pos) (tS g W (dSet (tgN i) f)) := ps_imp (ps_set hN hi hx he hs hf) fun D σ H q => set_imp (K := X.K) (tgN_ok i) q
/-- a, b = e -/
theorem ds_asg {tg e : Expr} {pos : Pos} {f : DE} {t : TG} {tgd : Tg} (ht : TgOk g X.K t tgd) (he : PE X e (tD g W f)) (hg : PG X tg t) (hs : swapsWithSole [tg] e pos.line X.env = pure false) (hw : swappedStores [tg] e X.env = pure none)
    (h1 : (assignEach [tg] X.env).map (·.2) = [assign tg X.env]) : PS X (.Assign [tg] e pos) (tS g W (dSet tgd f)) := ps_imp (ps_asg he hg hs hw h1) fun D σ H q => set_imp ht q

/-! ### what is walked -/
/-- J yields the data ds -/
def Yields (g : Gh) (J : It) (A : List Addr) (H : Hp) (ds : List D) : Prop := ∀ (i : Nat) (M A2 : List Addr) (H2 : Hp) (st : Sto), Ext A H A2 H2 → (∀ m ∈ M, m ∈ g.M ∨ H m = none) → StOk (g.wm M) A2 st H2 →
  (i < ds.length → J.go i H2 ∧ ∀ x H', J.yld i H2 x H' → ∃ d, ds[i]? = some d ∧ Ext A2 H2 A2 H' ∧ StOk (g.wm M) A2 st H' ∧ Rep (g.wm M) A2 H' d x) ∧ (ds.length ≤ i → J.stop i H2)
def tY (g : Gh) (W : WX) (src : DA) : TI := fun σ H R => ∃ A env st, Mt g A env st σ H ∧ match src env st with
  | .ok ds st1 => ∀ A1 H1 J, Ext A H A1 H1 → StOk g A1 st1 H1 → Yields g J A1 H1 ds → R J H1
  | .exc c st1 => ∀ A' H' (dx : Unit), Ext A H A' H' → StOk g A' st1 H' → W (.ref (g.cA c)) none σ H'
  | .bad => False
theorem pi_imp {tg e : Expr} {w w' : TI} (h : PI X tg e w) (k : ∀ σ H R, w' σ H R → w σ H R) : PI X tg e w' := ⟨fun pins s σ H R I q => h.run pins s σ H R I (k σ H R q)⟩
theorem tY.of {α : Type} {rel : List Addr → Hp → α → V → Prop} {src : DA} {f : En → Sto → Rs α} {h : α → Sto → Rs (List D)} (e : ∀ env st, src env st = (f env st).bind h) {σ : L2.St} {H : Hp} {R : It → Hp → Prop} {Q : V → Hp → Prop}
    (k : ∀ A d st1 v H1 , StOk g A st1 H1 → rel A H1 d v → (∀ ds st2, h d st1 = .ok ds st2 → st2 = st1) ∧ (∀ ds, h d st1 = .ok ds st1 → (∀ J, Yields g J A H1 ds → R J H1) → Q v H1) ∧ (∀ c st2, h d st1 ≠ .exc c st2))
    (q : tY g W src σ H R) : tR g W rel f σ H Q := by
  obtain ⟨A, env, st, M, q⟩ := q
  rw [e] at q
  refine ⟨A, env, st, M, ?_⟩
  cases ef : f env st with
  | ok d st1 =>
    rw [ef, Rs.bind_ok] at q
    intro A1 v H1 x s r
    obtain ⟨k1, k2, k3⟩ := k A1 d st1 v H1 s r
    cases eh : h d st1 with
    | ok ds st2 =>
      have := k1 ds st2 eh
      subst this
      rw [eh] at q
      exact k2 ds eh fun J y => q A1 H1 J x s y
    | exc c st2 => exact absurd eh (k3 c st2)
    | bad => rw [eh] at q; exact q.elim
  | exc c st1 => rw [ef] at q; exact q
  | bad => rw [ef] at q; exact q
/-- a list, a tuple by value -/
def asL : D → Sto → Rs (List D)
  | .lst ds, st => .ok ds st
  | _, _ => .bad
def asT : D → Sto → Rs (List D)
  | .tup ds, st => .ok ds st
  | _, _ => .bad
def dIterL (f : DE) : DA := fun env st => (f env st).bind asL
def dIterT (f : DE) : DA := fun env st => (f env st).bind asT
theorem yields_lst {A : List Addr} {H : Hp} {ds : List D} {vs : List V} {a : Addr} (h : H a = some (.lst vs)) (na : a ∉ A ∧ a ∉ g.M) (r : Reps g A H ds vs) : Yields g (Itl g.K a) A H ds := fun i M A2 H2 st x hM s => by
  have h2 := (x.keep a _ na.1 h).2
  have hl := r.len
  refine ⟨fun hi => ⟨⟨vs, vs[i]'(by omega), SqL.of h2, by simp⟩, fun v H' y => ?_⟩, fun hi => ⟨vs, SqL.of h2, by omega⟩⟩
  obtain ⟨e, y⟩ := y
  subst e
  obtain ⟨d, e1, e2⟩ := ((r.wm hM).ext x).get' (y vs (SqL.of h2))
  exact ⟨d, e1, .refl _ _, s, e2⟩
theorem yields_tup {A : List Addr} {H : Hp} {ds : List D} {vs : List V} {a : Addr} (h : H a = some (.tup vs)) (na : a ∉ A) (r : Reps g A H ds vs) : Yields g (Itt g.K a) A H ds := fun i M A2 H2 st x hM s => by
  have h2 := (x.keep a _ na h).2
  have hl := r.len
  refine ⟨fun hi => ⟨⟨vs, vs[i]'(by omega), SqT.of h2, by simp⟩, fun v H' y => ?_⟩, fun hi => ⟨vs, SqT.of h2, by omega⟩⟩
  obtain ⟨e, y⟩ := y
  subst e
  obtain ⟨d, e1, e2⟩ := ((r.wm hM).ext x).get' (y vs (SqT.of h2))
  exact ⟨d, e1, .refl _ _, s, e2⟩
theorem rep_tup_inv' {A : List Addr} {H : Hp} {ds : List D} {v : V} (r : Rep g A H (.tup ds) v) : ∃ a vs, v = .ref a ∧ H a = some (.tup vs) ∧ a ∉ A ∧ Reps g A H ds vs := by
  unfold Rep at r; exact r
theorem di_list {tg e : Expr} {f : DE} (hK : g.K = X.K) (he : PE X e (tD g W f)) : PI X tg e (tY g W (dIterL f)) :=
  pi_imp (pi_list he) fun σ H R q => tY.of (rel := Rep g) (fun _ _ => rfl) (fun A d st1 v H1 s r => by
    unfold asL
    cases d with
    | lst ds =>
      refine ⟨fun _ _ e => by cases e; rfl, fun ds' e k => ?_, fun _ _ e => (nomatch e)⟩
      cases e
      obtain ⟨a, vs, rfl, h, na, rr⟩ := rep_lst_inv r
      exact ⟨a, rfl, ⟨vs, SqL.of h⟩, k _ (hK ▸ yields_lst h na rr)⟩
    | _ => exact ⟨fun _ _ e => (nomatch e), fun _ e => (nomatch e), fun _ _ e => (nomatch e)⟩) q
theorem di_tup {tg e : Expr} {f : DE} (hK : g.K = X.K) (he : PE X e (tD g W f)) : PI X tg e (tY g W (dIterT f)) :=
  pi_imp (pi_tup he) fun σ H R q => tY.of (rel := Rep g) (fun _ _ => rfl) (fun A d st1 v H1 s r => by
    unfold asT
    cases d with
    | tup ds =>
      refine ⟨fun _ _ e => by cases e; rfl, fun ds' e k => ?_, fun _ _ e => (nomatch e)⟩
      cases e
      obtain ⟨a, vs, rfl, h, na, rr⟩ := rep_tup_inv' r
      exact ⟨a, rfl, ⟨vs, SqT.of h⟩, k _ (hK ▸ yields_tup h na rr)⟩
    | _ => exact ⟨fun _ _ e => (nomatch e), fun _ e => (nomatch e), fun _ _ e => (nomatch e)⟩) q
/-- the signs of a text -/
def signs (s : Str) : List D := s.cps.toList.map fun c => .str ⟨#[c]⟩
def asS : D → Sto → Rs (List D)
  | .str s, st => .ok (signs s) st
  | _, _ => .bad
def dIterS (f : DE) : DA := fun env st => (f env st).bind asS
theorem SOk.sign {s : Str} (h : SOk s) {c : Nat} (hc : c ∈ s.cps.toList) : SOk ⟨#[c]⟩ :=
  ⟨by show 1 ≤ sizeLine; rw [sizeLine_eq]; omega, fun d hd => by
    have : d = c := by simpa using hd
    rw [this]; exact h.cps c hc⟩
theorem yields_str {A : List Addr} {H : Hp} {z : Str} (ok : SOk z) : Yields g (Its z) A H (signs z) := fun i M A2 H2 st x hM s => by
  unfold signs
  refine ⟨fun hi => ?_, fun hi => ?_⟩
  · have hi' : i < z.cps.size := by simpa using hi
    refine ⟨hi', fun v H' y => ?_⟩
    obtain ⟨e, c, hc, hv⟩ := y
    subst e
    subst hv
    refine ⟨_, by simp [hc], .refl _ _, s, rep_str (ok.sign ?_)⟩
    rw [← Array.getElem?_toList] at hc
    exact List.mem_of_getElem? hc
  · show z.cps.size ≤ i
    simpa using hi
theorem di_str {tg e : Expr} {f : DE} (he : PE X e (tD g W f)) : PI X tg e (tY g W (dIterS f)) :=
  pi_imp (pi_str he) fun σ H R q => tY.of (rel := Rep g) (fun _ _ => rfl) (fun A d st1 v H1 s r => by
    unfold asS
    cases d with
    | str z =>
      refine ⟨fun _ _ e => by cases e; rfl, fun ds' e k => ?_, fun _ _ e => (nomatch e)⟩
      cases e
      obtain ⟨rfl, ok⟩ := rep_str_inv r
      exact ⟨z, rfl, k _ (yields_str ok)⟩
    | _ => exact ⟨fun _ _ e => (nomatch e), fun _ e => (nomatch e), fun _ _ e => (nomatch e)⟩) q
/-- range(n) -/
def rngD (n : Nat) : List D := (List.range n).map fun (i : Nat) => .int (i : Int)
def asR : D → Sto → Rs (List D)
  | .int j, st => if j < 2 ^ 62 ∧ -(2 ^ 62) ≤ j then .ok (rngD j.toNat) st else .bad
  | _, _ => .bad
def dIterR (f : DE) : DA := fun env st => (f env st).bind asR
theorem yields_rng {A : List Addr} {H : Hp} {n : Nat} : Yields g (Itr 0 n) A H (rngD n) := fun i M A2 H2 st x hM s => by
  unfold rngD
  refine ⟨fun hi => ?_, fun hi => ?_⟩
  · have hi' : i < n := by simpa using hi
    refine ⟨hi', fun v H' y => ?_⟩
    obtain ⟨e, hv⟩ := y
    subst e
    subst hv
    refine ⟨.int (i : Int), by simp [hi'], .refl _ _, s, ?_⟩
    rw [Int.zero_add]
    exact rep_int _
  · show n ≤ i
    simpa using hi
theorem di_range {tg e : Expr} {f : DE} {p pos : Pos} (hg : Gl X "range") (hm : X.mg "range" = none) (he : PE X e (tD g W f)) (hs : starEach [e] X.env = [(false, eval e X.env)]) : PI X tg (.Call (.Name "range" p) [e] [] pos) (tY g W (dIterR f)) :=
  pi_imp (pi_range1 hg hm (pa_cons he pa_nil (hs.trans rfl)) hs) fun σ H R q => by
    refine (tY.of (rel := Rep g) (f := f) (h := asR) (fun _ _ => rfl) (Q := fun v H1 => ∃ j : Int, [v] = [.int j] ∧ -(2 ^ 62) ≤ j ∧ j < 2 ^ 62 ∧ R (Itr 0 j.toNat) H1) (fun A d st1 v H1 s r => ?_) q)
    unfold asR
    cases d with
    | int j =>
      refine ⟨fun _ _ e => ?_, fun ds' e k => ?_, fun _ _ e => ?_⟩
      · dsimp only at e
        split at e
        · cases e; rfl
        · cases e
      · dsimp only at e
        split at e
        · rename_i hc
          cases e
          rw [rep_int_inv r]
          exact ⟨j, rfl, hc.2, hc.1, k _ yields_rng⟩
        · cases e
      · dsimp only at e
        split at e <;> cases e
    | _ => exact ⟨fun _ _ e => (nomatch e), fun _ e => (nomatch e), fun _ _ e => (nomatch e)⟩

/-! ### for -/
def loopL (tg : Tg) (b : DS) : List D → En → Sto → SR
  | [], env, st => .nx env st
  | d :: ds, env, st => match tg d env with
    | none => .bad
    | some env1 => match b env1 st with
      | .nx e s => loopL tg b ds e s
      | .ct e s => loopL tg b ds e s
      | .bk e s => .nx e s
      | .rt d s => .rt d s
      | .exc c e s => .exc c e s
      | .bad => .bad
def dFor (src : DA) (tg : Tg) (b : DS) : DS := fun env st => (src env st).thn env fun ds st => loopL tg b ds env st
theorem drop_get {α : Type} {l : List α} {i : Nat} {x : α} (h : l[i]? = some x) : l.drop i = x :: l.drop (i + 1) := by
  obtain ⟨hi, e⟩ := List.getElem?_eq_some_iff.mp h
  rw [List.drop_eq_getElem_cons hi, e]
theorem ds_for {tg iter : Expr} {body : List Stmt} {pos : Pos} {src : DA} {t : TG} {tgd : Tg} {b : DS} (hp : PassesOwn (model X.prog X.w) X.A X.env X.xe) (hc : X.calm = true) (hi : PI X tg iter (tY g W src)) (ht : TgOk g X.K t tgd) (hg : PG X tg t) (hb : PSs X body (tS g W b))
    (hs : ∀ x, foldedSetIterable iter X.env x = pure x) : PS X (.For tg iter body [] pos) (tS g W (dFor src tgd b)) :=
  ps_imp (ps_for hp hc hi hg hb hs) fun D σ H q => by
    obtain ⟨A, env, st, M, q⟩ := q
    refine ⟨A, env, st, M, ?_⟩
    unfold dFor at q
    cases e : src env st with
    | exc c st1 =>
      rw [e] at q
      exact fun A1 H1 dx x s => q A1 σ H1 dx x ⟨M.env.ext x, s⟩
    | bad => rw [e] at q; exact q
    | ok ds st1 =>
      rw [e] at q
      intro A1 H1 J x s Y
      have q1 : SPd g W D A1 H1 (loopL tgd b ds env st1) := SPd.ext x q
      refine ⟨fun i m σ' H' => m = ds.length - i ∧ i ≤ ds.length ∧ ∃ A2 env2 st2, Ext A1 H1 A2 H' ∧ Mt g A2 env2 st2 σ' H' ∧ SPd g W D A2 H' (loopL tgd b (ds.drop i) env2 st2), ⟨ds.length, by simp, Nat.zero_le _, A1, env, st1, .refl _ _, ⟨M.env.ext x, s⟩, by rw [List.drop_zero]; exact q1⟩, ?_⟩
      rintro i m σ' H' ⟨rfl, hi, A2, env2, st2, x2, M2, q2⟩
      obtain ⟨y1, y2⟩ := Y i g.M A2 H' st2 x2 (fun m hm => .inl hm) M2.sto
      by_cases hlt : i < ds.length
      · obtain ⟨go, yl⟩ := y1 hlt
        refine .inr ⟨go, fun σ'' H'' => ∃ A3 env3 st3, Ext A1 H1 A3 H'' ∧ Mt g A3 env3 st3 σ'' H'' ∧ SPd g W D A3 H'' (loopL tgd b (ds.drop (i + 1)) env3 st3), fun σ'' H'' n => ⟨ds.length - (i + 1), by omega, rfl, hlt, n⟩, fun v H'' y => ?_⟩
        obtain ⟨d, ed, x3, s3, r3⟩ := yl v H'' y
        rw [drop_get ed] at q2
        unfold loopL at q2
        split at q2
        · exact q2.elim
        · rename_i env3 et
          have M3 : Mt g A2 env2 st2 σ' H'' := ⟨M2.env.ext x3, s3⟩
          refine ht A2 st2 σ' H'' env2 env3 d v _ M3 r3 et fun σ4 M4 => ?_
          have q3 := SPd.ext x3 q2
          refine ⟨A2, env3, st2, M4, ?_⟩
          have x4 := x2.trans x3
          cases eb : b env3 st2 with
          | nx e s => rw [eb] at q3; exact fun A5 σ5 H5 x5 M5 => ⟨A5, e, s, x4.trans x5, M5, SPd.ext x5 q3⟩
          | ct e s => rw [eb] at q3; exact fun A5 σ5 H5 x5 M5 => ⟨A5, e, s, x4.trans x5, M5, SPd.ext x5 q3⟩
          | bk e s => rw [eb] at q3; exact q3
          | rt d s => rw [eb] at q3; exact q3
          | exc c e s => rw [eb] at q3; exact q3
          | bad => rw [eb] at q3; exact q3
      · refine .inl ⟨y2 (by omega), ?_⟩
        rw [List.drop_of_length_le (by omega)] at q2
        exact q2 A2 σ' H' (.refl _ _) M2

/-! ### while, by so many turns at most -/
def loopW (t : DT) (b : DS) : Nat → En → Sto → SR
  | 0, _, _ => .bad
  | n + 1, env, st => (t env st).thn env fun c st => if c = true then (match b env st with
      | .nx e s => loopW t b n e s
      | .ct e s => loopW t b n e s
      | .bk e s => .nx e s
      | .rt d s => .rt d s
      | .exc c e s => .exc c e s
      | .bad => .bad) else .nx env st
def dWhile (m : Nat) (t : DT) (b : DS) : DS := fun env st => loopW t b m env st
theorem ds_while (m : Nat) {c : Expr} {body : List Stmt} {pos : Pos} {t : DT} {b : DS} (hp : PassesOwn (model X.prog X.w) X.A X.env X.xe) (hc : PT X c (tT g W t)) (hb : PSs X body (tS g W b)) : PS X (.While c body [] pos) (tS g W (dWhile m t b)) :=
  ps_imp (ps_while hp hc hb) fun D σ H q => by
    obtain ⟨A, env, st, M, q⟩ := q
    refine ⟨fun n σ' H' => ∃ A' env' st', Mt g A' env' st' σ' H' ∧ SPd g W D A' H' (loopW t b n env' st'), ⟨m, A, env, st, M, q⟩, ?_⟩
    rintro n σ' H' ⟨A', env', st', M', q'⟩
    cases n with
    | zero => exact q'.elim
    | succ n =>
      unfold loopW at q'
      refine (tS.bind (rel := relB) M' q').mono fun v H1 ⟨A1, d, st1, _, x, s, r, M1, q1⟩ => ?_
      have r' : d = v := r
      subst r'
      cases d with
      | false => rw [if_neg Bool.false_ne_true] at q1 ⊢; exact q1 A1 σ' H1 (.refl _ _) M1
      | true =>
        rw [if_pos rfl] at q1 ⊢
        refine ⟨fun σ'' H'' => ∃ A' env' st', Mt g A' env' st' σ'' H'' ∧ SPd g W D A' H'' (loopW t b n env' st'), fun σ'' H'' z => ⟨n, by omega, z⟩, A1, env', st1, M1, ?_⟩
        cases eb : b env' st1 with
        | nx e s => rw [eb] at q1; exact fun A5 σ5 H5 x5 M5 => ⟨A5, e, s, M5, SPd.ext x5 q1⟩
        | ct e s => rw [eb] at q1; exact fun A5 σ5 H5 x5 M5 => ⟨A5, e, s, M5, SPd.ext x5 q1⟩
        | bk e s => rw [eb] at q1; exact q1
        | rt d s => rw [eb] at q1; exact q1
        | exc c e s => rw [eb] at q1; exact q1
        | bad => rw [eb] at q1; exact q1
end
end DL

/-! DL7: comprehensions, defs and their calls. -/
namespace DL
open PySem L2

/-- nothing raised -/
def noX {α : Type} (r : Rs α) : Rs α := match r with
  | .ok a st => .ok a st
  | _ => .bad
@[simp] theorem noX_ok {α : Type} (a : α) (st : Sto) : noX (.ok a st) = .ok a st := nrfl rfl
@[simp] theorem noX_exc {α : Type} (c : Nat) (st : Sto) : noX (.exc c st : Rs α) = .bad := nrfl rfl
@[simp] theorem noX_bad {α : Type} : noX (.bad : Rs α) = .bad := nrfl rfl
def wipeE (env : En) : List Nat → En
  | [] => env
  | i :: is => (wipeE env is).set i none
def compL (tg : Tg) (t : DT) (f : DE) (env : En) : List D → Sto → Rs (List D)
  | [], st => .ok [] st
  | d :: ds, st => match tg d env with
    | none => .bad
    | some env1 => (noX (t env1 st)).bind fun c st => if c = true then (noX (f env1 st)).bind fun y st => (compL tg t f env ds st).bind fun ys st => .ok (y :: ys) st else compL tg t f env ds st
def dComp (vs : List Nat) (src : DA) (tg : Tg) (t : DT) (f : DE) : DE := fun env st => (src env st).bind fun ds st => (compL tg t f (wipeE env vs) ds st).bind fun ys st => if ys.length ≤ 1000000 then .ok (.lst ys) st else .bad
def dYes : DT := fun _ st => .ok true st
abbrev W0 : WX := fun _ _ _ _ => False
theorem EnOk.gone {g : Gh} {A : List Addr} {env : En} {σ : L2.St} {H : Hp} (e : EnOk g A env σ H) (i : Nat) : EnOk g A (env.set i none) (σ.set i none) H := by
  refine ⟨by simp [e.len], fun j x h => ?_⟩
  by_cases hj : i = j
  · subst hj
    have hi : i < env.length := by
      have := (List.getElem?_eq_some_iff.mp h).1
      simpa using this
    rw [List.getElem?_set_self hi] at h
    cases h
  · rw [List.getElem?_set_ne hj] at h
    obtain ⟨w, a, b⟩ := e.slot j x h
    exact ⟨w, by rw [List.getElem?_set_ne hj]; exact a, b⟩
theorem EnOk.wipe {g : Gh} {A : List Addr} {env : En} {σ : L2.St} {H : Hp} (e : EnOk g A env σ H) : ∀ vs : List Nat, EnOk g A (wipeE env vs) (wipe σ vs) H
  | [] => e
  | i :: vs => (EnOk.wipe e vs).gone i
theorem EnOk.res {g : Gh} {A : List Addr} {env : En} {σ : L2.St} {H : Hp} {p : Addr} {o : HO} (hp : H p = none) (e : EnOk g A env σ H) : EnOk (g.push p) A env σ (upd H p o) :=
  ⟨e.len, fun i d h => let ⟨v, a, b⟩ := e.slot i d h; ⟨v, a, b.res hp⟩⟩
theorem EnOk.unres {g : Gh} {A : List Addr} {env : En} {σ : L2.St} {H : Hp} {p : Addr} (e : EnOk (g.push p) A env σ H) : EnOk g A env σ H :=
  ⟨e.len, fun i d h => let ⟨v, a, b⟩ := e.slot i d h; ⟨v, a, b.unres⟩⟩
theorem EnOk.more {g : Gh} {A : List Addr} {env : En} {σ : L2.St} {H : Hp} {p : Addr} {xs ys : List V} (hp : H p = some (.lst xs)) (hm : p ∈ g.M) (e : EnOk g A env σ H) : EnOk g A env σ (upd H p (.lst ys)) :=
  ⟨e.len, fun i d h => let ⟨v, a, b⟩ := e.slot i d h; ⟨v, a, b.more hp hm⟩⟩
/-- a target of a comprehension: it touches only the block's own names -/
def TgOwn (t : TG) (vs : List Nat) : Prop := ∀ (v : V) (σ : L2.St) (H : Hp) (Q : L2.St → Hp → Prop), t v σ H Q → t v σ H fun σ' H' => wipe σ' vs = wipe σ vs ∧ Q σ' H'
theorem wipe_set (σ : L2.St) (i : Nat) (x : Option V) : ∀ vs : List Nat, i ∈ vs → wipe (σ.set i x) vs = wipe σ vs
  | [], h => by cases h
  | j :: vs, h => by
    show (wipe (σ.set i x) vs).set j none = (wipe σ vs).set j none
    by_cases e : i ∈ vs
    · rw [wipe_set σ i x vs e]
    · have hj : i = j := by
        rcases List.mem_cons.mp h with z | z
        · exact z
        · exact absurd z e
      subst hj
      have : ∀ vs : List Nat, i ∉ vs → wipe (σ.set i x) vs = (wipe σ vs).set i x := by
        intro vs
        induction vs with
        | nil => intro _; rfl
        | cons k vs ih =>
          intro hk
          show (wipe (σ.set i x) vs).set k none = ((wipe σ vs).set k none).set i x
          rw [ih fun m => hk (List.mem_cons_of_mem _ m), List.set_comm _ _ (fun z => hk (by rw [z]; exact List.mem_cons_self))]
      rw [this vs e, List.set_set]
theorem gName_own {i : Nat} {vs : List Nat} (h : i ∈ vs) : TgOwn (gName i) vs := fun v σ H Q q => ⟨wipe_set σ i _ vs h, q⟩
theorem gNames_own {vs : List Nat} : ∀ {is : List Nat}, (∀ i ∈ is, i ∈ vs) → ∀ (ws : List V) (σ : L2.St) (H : Hp) (Q : L2.St → Hp → Prop), gNames is ws σ H Q → gNames is ws σ H fun σ' H' => wipe σ' vs = wipe σ vs ∧ Q σ' H'
  | [], _, ws, σ, H, Q, q => ⟨q.1, rfl, q.2⟩
  | i :: is, h, ws, σ, H, Q, q => by
    obtain ⟨v, r, e, q⟩ := q
    refine ⟨v, r, e, ?_⟩
    have := gNames_own (vs := vs) (is := is) (fun j hj => h j (List.mem_cons_of_mem _ hj)) r _ _ _ q
    have e2 : wipe (σ.set i (some v)) vs = wipe σ vs := wipe_set σ i _ vs (h i List.mem_cons_self)
    rw [e2] at this
    exact this
theorem gTup_own {K : PySem.W.Frag} {n : Nat} {vs is : List Nat} (h : ∀ i ∈ is, i ∈ vs) : TgOwn (gTup K n (gNames is)) vs := fun v σ H Q q => by
  obtain ⟨a, xs, e, h1, h2, q⟩ := q
  exact ⟨a, xs, e, h1, h2, gNames_own h xs σ H Q q⟩
section
variable {X : Cx} {g : Gh} {W : WX}
theorem dts_nil {Y : Cx} : PTs Y [] (tT g W0 dYes) := ⟨fun pins s σ H Q I h => by
  obtain ⟨A, env, st, M, q⟩ := h
  exact pts_nil.run pins s σ H Q I (q A true H (.refl _ _) M.sto rfl)⟩
theorem dts_one {Y : Cx} {c : Expr} {t : DT} (h : PT Y c (tT g W0 t)) : PTs Y [c] (tT g W0 t) := pts_one h
/-- what a block's part tells -/
theorem noX_inv {α : Type} {r : Rs α} {a : α} {st : Sto} (h : noX r = .ok a st) : r = .ok a st := by
  cases r with
  | ok b s => exact h
  | exc c s => cases h
  | bad => cases h
theorem compL_len {tg : Tg} {t : DT} {f : DE} {env : En} : ∀ {ds : List D} {st st' : Sto} {ys : List D}, compL tg t f env ds st = .ok ys st' → ys.length ≤ ds.length
  | [], st, st', ys, h => by cases h; exact Nat.le_refl _
  | d :: ds, st, st', ys, h => by
    unfold compL at h
    split at h
    · cases h
    · rename_i env1 _
      cases e : noX (t env1 st) with
      | exc c s => rw [e] at h; cases h
      | bad => rw [e] at h; cases h
      | ok c s =>
        rw [e, Rs.bind_ok] at h
        cases c with
        | false =>
          rw [if_neg Bool.false_ne_true] at h
          have := compL_len h
          rw [List.length_cons]; omega
        | true =>
          rw [if_pos rfl] at h
          cases e2 : noX (f env1 s) with
          | exc c s => rw [e2] at h; cases h
          | bad => rw [e2] at h; cases h
          | ok y s2 =>
            rw [e2, Rs.bind_ok] at h
            cases e3 : compL tg t f env ds s2 with
            | exc c s => rw [e3] at h; cases h
            | bad => rw [e3] at h; cases h
            | ok zs s3 =>
              rw [e3, Rs.bind_ok] at h
              cases h
              have := compL_len e3
              rw [List.length_cons, List.length_cons]; omega
theorem wipe_set' (σ : L2.St) (i : Nat) (vs : List Nat) : wipe (σ.set i none) vs = (wipe σ vs).set i none := by
  induction vs with
  | nil => rfl
  | cons k vs ih =>
    show (wipe (σ.set i none) vs).set k none = ((wipe σ vs).set k none).set i none
    rw [ih]
    by_cases e : i = k
    · subst e; rfl
    · rw [List.set_comm _ _ e]
theorem wipe_wipe (σ : L2.St) : ∀ vs : List Nat, wipe (wipe σ vs) vs = wipe σ vs
  | [] => rfl
  | i :: vs => by
    show (wipe ((wipe σ vs).set i none) vs).set i none = (wipe σ vs).set i none
    rw [wipe_set', wipe_wipe σ vs, List.set_set]
theorem noX_exc_no {α : Type} {r : Rs α} {c : Nat} {s : Sto} : noX r ≠ .exc c s := by
  cases r <;> intro h <;> cases h
theorem compL_noexc {tg : Tg} {t : DT} {f : DE} {env : En} : ∀ (ds : List D) (st : Sto) (c : Nat) (st2 : Sto), compL tg t f env ds st ≠ .exc c st2
  | [], st, c, st2, h => by cases h
  | d :: ds, st, c, st2, h => by
    unfold compL at h
    split at h
    · cases h
    · rename_i env1 _
      cases e : noX (t env1 st) with
      | exc c s => exact noX_exc_no e
      | bad => rw [e] at h; cases h
      | ok b s =>
        rw [e, Rs.bind_ok] at h
        cases b with
        | false => rw [if_neg Bool.false_ne_true] at h; exact compL_noexc _ _ _ _ h
        | true =>
          rw [if_pos rfl] at h
          cases e2 : noX (f env1 s) with
          | exc c s => exact noX_exc_no e2
          | bad => rw [e2] at h; cases h
          | ok y s2 =>
            rw [e2, Rs.bind_ok] at h
            cases e3 : compL tg t f env ds s2 with
            | exc c s => exact compL_noexc _ _ _ _ e3
            | bad => rw [e3] at h; cases h
            | ok zs s3 => rw [e3] at h; cases h
/-- one turn told -/
theorem compL_step {tg : Tg} {t : DT} {f : DE} {env : En} {d : D} {ds zs : List D} {st st2 : Sto} (h : compL tg t f env (d :: ds) st = .ok zs st2) : ∃ env1 b s, tg d env = some env1 ∧ t env1 st = .ok b s ∧
    ((b = false ∧ compL tg t f env ds s = .ok zs st2) ∨ ∃ y s2 ys, b = true ∧ f env1 s = .ok y s2 ∧ compL tg t f env ds s2 = .ok ys st2 ∧ zs = y :: ys) := by
  unfold compL at h
  split at h
  · cases h
  · rename_i env1 he
    cases e : noX (t env1 st) with
    | exc c s => exact absurd e noX_exc_no
    | bad => rw [e] at h; cases h
    | ok b s =>
      rw [e, Rs.bind_ok] at h
      refine ⟨env1, b, s, he, noX_inv e, ?_⟩
      cases b with
      | false => rw [if_neg Bool.false_ne_true] at h; exact .inl ⟨rfl, h⟩
      | true =>
        rw [if_pos rfl] at h
        cases e2 : noX (f env1 s) with
        | exc c s => exact absurd e2 noX_exc_no
        | bad => rw [e2] at h; cases h
        | ok y s2 =>
          rw [e2, Rs.bind_ok] at h
          cases e3 : compL tg t f env ds s2 with
          | exc c s => rw [e3] at h; cases h
          | bad => rw [e3] at h; cases h
          | ok zs s3 =>
            rw [e3, Rs.bind_ok] at h
            cases h
            exact .inr ⟨y, s2, zs, rfl, noX_inv e2, e3, rfl⟩
/-- the reading of the loop -/
theorem comp_run {src : DA} {t : TG} {tgd : Tg} {tt : DT} {f : DE} {vs : List Nat} {tt' : TT} {te' : TE} (ht : ∀ M, TgOk (g.wm M) X.K t tgd) (own : TgOwn t vs) (htt : ∀ M σ H Q, tT (g.wm M) W0 tt σ H Q → tt' σ H Q) (hte : ∀ M σ H Q, tD (g.wm M) W0 f σ H Q → te' σ H Q)
    {σ : L2.St} {H : Hp} {Q : VK} (q : tD g W (dComp vs src tgd tt f) σ H Q) : tLc (tY g W src) t tt' te' vs σ H Q := by
  obtain ⟨A, env, st, M, q⟩ := q
  refine ⟨A, env, st, M, ?_⟩
  unfold dComp at q
  cases e : src env st with
  | exc c st1 => rw [e] at q; exact q
  | bad => rw [e] at q; exact q
  | ok ds st1 =>
    rw [e, Rs.bind_ok] at q
    intro A1 H1 J x1 s1 Y P hP
    cases eL : compL tgd tt f (wipeE env vs) ds st1 with
    | bad => rw [eL] at q; exact q.elim
    | exc c st2 => exact absurd eL (compL_noexc _ _ _ _)
    | ok ys st2 =>
      rw [eL, Rs.bind_ok] at q
      split at q
      · rename_i hlen
        have EnW : EnOk (g.push P) A1 (wipeE env vs) (wipe σ vs) (upd H1 P (.lst [])) := ((M.env.ext x1).wipe vs).res hP
        have hM : ∀ m ∈ P :: g.M, m ∈ g.M ∨ H1 m = none := fun m hm => (List.mem_cons.mp hm).elim (fun z => .inr (z ▸ hP)) .inl
        refine ⟨fun i m H' => m = ds.length - i ∧ i ≤ ds.length ∧ ∃ A2 st3 acc accd zs, Ext A1 H1 A2 H' ∧ StOk (g.push P) A2 st3 H' ∧ H' P = some (.lst acc) ∧ Reps (g.push P) A2 H' accd acc ∧ EnOk (g.push P) A2 (wipeE env vs) (wipe σ vs) H' ∧
            compL tgd tt f (wipeE env vs) (ds.drop i) st3 = .ok zs st2 ∧ accd ++ zs = ys,
          ⟨ds.length, by simp, Nat.zero_le _, A1, st1, [], [], ys, ext_val s1 hP, s1.push hP, upd_same, .nil, EnW, by rw [List.drop_zero]; exact eL, rfl⟩, ?_⟩
        rintro i m H' ⟨rfl, hi, A2, st3, acc, accd, zs, x2, s2, hacc, racc, en2, eC, ey⟩
        have nP := (s2.res P List.mem_cons_self).1
        obtain ⟨y1, y2⟩ := Y i (P :: g.M) A2 H' st3 x2 hM s2
        by_cases hlt : i < ds.length
        · obtain ⟨go, yl⟩ := y1 hlt
          refine .inr ⟨go, fun H'' => ∃ A3 st4 acc' accd' zs', Ext A1 H1 A3 H'' ∧ StOk (g.push P) A3 st4 H'' ∧ H'' P = some (.lst acc') ∧ Reps (g.push P) A3 H'' accd' acc' ∧ EnOk (g.push P) A3 (wipeE env vs) (wipe σ vs) H'' ∧ compL tgd tt f (wipeE env vs) (ds.drop (i + 1)) st4 = .ok zs' st2 ∧ accd' ++ zs' = ys,
            fun H'' ⟨A3, st4, acc', accd', zs', n⟩ => ⟨ds.length - (i + 1), by omega, rfl, hlt, A3, st4, acc', accd', zs', n⟩, fun v H'' y => ?_⟩
          obtain ⟨d, ed, x3, s3, r3⟩ := yl v H'' y
          rw [drop_get ed] at eC
          obtain ⟨env1, b, s4, e1, e2, e3⟩ := compL_step eC
          have M3 : Mt (g.push P) A2 (wipeE env vs) st3 (wipe σ vs) H'' := ⟨en2.ext x3, s3⟩
          have hacc3 := (x3.keep P _ nP hacc).2
          have fin := own v (wipe σ vs) H'' (fun σ2 H2 => tt' σ2 H2 fun b H3 => if b = true then te' σ2 H3 fun y H4 => ∃ acc, H4 P = some (.lst acc) ∧ acc.length < sizeLine ∧ (∃ A3 st4 acc' accd' zs', Ext A1 H1 A3 (upd H4 P (.lst (acc ++ [y]))) ∧ StOk (g.push P) A3 st4 (upd H4 P (.lst (acc ++ [y]))) ∧ (upd H4 P (.lst (acc ++ [y]))) P = some (.lst acc') ∧ Reps (g.push P) A3 (upd H4 P (.lst (acc ++ [y]))) accd' acc' ∧ EnOk (g.push P) A3 (wipeE env vs) (wipe σ vs) (upd H4 P (.lst (acc ++ [y]))) ∧ compL tgd tt f (wipeE env vs) (ds.drop (i + 1)) st4 = .ok zs' st2 ∧ accd' ++ zs' = ys)
            else (∃ A3 st4 acc' accd' zs', Ext A1 H1 A3 H3 ∧ StOk (g.push P) A3 st4 H3 ∧ H3 P = some (.lst acc') ∧ Reps (g.push P) A3 H3 accd' acc' ∧ EnOk (g.push P) A3 (wipeE env vs) (wipe σ vs) H3 ∧ compL tgd tt f (wipeE env vs) (ds.drop (i + 1)) st4 = .ok zs' st2 ∧ accd' ++ zs' = ys))
            (ht (P :: g.M) A2 st3 (wipe σ vs) H'' (wipeE env vs) env1 d v _ M3 r3 e1 fun σ2 M2 => ?_)
          · rw [wipe_wipe] at fin
            exact fin
          · refine htt (P :: g.M) _ _ _ ⟨A2, env1, st3, M2, ?_⟩
            rw [e2]
            intro A3 b' H3 x4 s5 eb
            have eb' : b = b' := eb
            subst eb'
            have nP3 := (s5.res P List.mem_cons_self).1
            have hacc4 := (x4.keep P _ nP hacc3).2
            have x5 := (x2.trans x3).trans x4
            rcases e3 with ⟨rfl, e3⟩ | ⟨y', s6, ys', rfl, e4, e5, ez⟩
            · rw [if_neg Bool.false_ne_true]
              exact ⟨A3, s4, acc, accd, zs, x5, s5, hacc4, (racc.ext x3).ext x4, (en2.ext x3).ext x4, e3, ey⟩
            · rw [if_pos rfl]
              refine hte (P :: g.M) _ _ _ ⟨A3, env1, s4, ⟨M2.env.ext x4, s5⟩, ?_⟩
              rw [e4]
              intro A4 w H4 x6 s7 rw'
              have hacc5 := (x6.keep P _ nP3 hacc4).2
              have hl : accd.length = acc.length := racc.len
              have hm : P ∈ (g.push P).M := List.mem_cons_self
              refine ⟨acc, hacc5, ?_, A4, s6, acc ++ [w], accd ++ [y'], ys', ?_, s7.more hacc5 hm, upd_same, ?_, ?_, e5, ?_⟩
              · rw [sizeLine_eq]
                have := congrArg List.length ey
                rw [ez, List.length_append, List.length_cons] at this
                omega
              · have x7 := x5.trans x6
                exact ⟨⟨x7.pre, fun c o n q => ⟨(x7.keep c o n q).1, by rw [upd_ne (ne_of_none q hP)]; exact (x7.keep c o n q).2⟩⟩, fun c o u q => by rw [upd_ne (ne_of_none q hP)]; exact x7.frz c o u q⟩
              · exact ((((racc.ext x3).ext x4).ext x6).more hacc5 hm).append (.cons (rw'.more hacc5 hm) .nil)
              · exact (((en2.ext x3).ext x4).ext x6).more hacc5 hm
              · rw [List.append_assoc, ← ey, ez]; rfl
        · refine .inl ⟨y2 (by omega), ?_⟩
          rw [List.drop_of_length_le (by omega)] at eC
          cases eC
          rw [List.append_nil] at ey
          subst ey
          refine q A2 (.ref P) H' (x1.trans x2) s2.pop ?_
          unfold Rep
          exact ⟨P, acc, rfl, hacc, ⟨nP, s1.new_res hP⟩, racc.unres⟩
      · exact q.elim
end
end DL

/-! DL8: comprehensions as rules, defs, methods, instances. -/
namespace DL
open PySem PySem.Spec PyProof.Rows L2

section
variable {X : Cx} {g : Gh} {W : WX}
theorem de_lc {elt tg iter : Expr} {ifs : List Expr} {scope : Scope} {own : List (Str × Nat)} {pos : Pos} {src : DA} {t : TG} {tgd : Tg} {tt : DT} {f : DE} (hc : X.calm = true) (hN : X.N.Nodup) (hi : PI X tg iter (tY g W src)) (ok : BlkOk X.N X.env.scope scope own)
    (ht : ∀ M, TgOk (g.wm M) X.K t tgd) (hown : TgOwn t (own.map (·.2)))
    (hg : ∀ (s : Shared) (H : Hp) (C : Addr) (cl : List (Str × Addr)) (fp : List Addr), PG (X.blk s H scope (compEnvC scope cl C X.env) fp) tg t)
    (htt : ∀ (M : List Addr) (s : Shared) (H : Hp) (C : Addr) (cl : List (Str × Addr)) (fp : List Addr), PTs (X.blk s H scope (compEnvC scope cl C X.env) fp) ifs (tT (g.wm M) W0 tt))
    (he : ∀ (M : List Addr) (s : Shared) (H : Hp) (C : Addr) (cl : List (Str × Addr)) (fp : List Addr), PE (X.blk s H scope (compEnvC scope cl C X.env) fp) elt (tD (g.wm M) W0 f))
    (hs : ∀ x, foldedSetIterable iter X.env x = pure x) : PE X (.ListComp elt [⟨tg, iter, ifs, 0⟩] scope pos) (tD g W (dComp (own.map (·.2)) src tgd tt f)) :=
  pe_imp (pe_lc (tt := fun σ H Q => ∃ M, tT (g.wm M) W0 tt σ H Q) (te := fun σ H Q => ∃ M, tD (g.wm M) W0 f σ H Q) hc hN hi ok hg
    (fun s H C cl fp => ⟨fun pins s' σ H' Q I ⟨M, q⟩ => (htt M s H C cl fp).run pins s' σ H' Q I q⟩)
    (fun s H C cl fp => ⟨fun pins s' σ H' Q I ⟨M, q⟩ => (he M s H C cl fp).run pins s' σ H' Q I q⟩) hs) fun σ H Q q =>
    comp_run ht hown (fun M σ H Q q => ⟨M, q⟩) (fun M σ H Q q => ⟨M, q⟩) q
theorem ds_setLc {y : Str} {py : Pos} {elt tg iter : Expr} {ifs : List Expr} {scope : Scope} {own : List (Str × Nat)} {pos spos : Pos} {src : DA} {t : TG} {tgd : Tg} {tt : DT} {f : DE} (i : Nat) (hc : X.calm = true) (hN : X.N.Nodup) (hy : X.N[i]? = some y) (hyl : X.env.scope.names.lookup y = some .local)
    (hsw : swapsWith (.ListComp elt [⟨tg, iter, ifs, 0⟩] scope pos) (some (.Name y py)) spos.line X.env = pure true) (hi : PI X tg iter (tY g W src)) (ok : BlkOk X.N X.env.scope scope own)
    (ht : ∀ M, TgOk (g.wm M) X.K t tgd) (hown : TgOwn t (own.map (·.2)))
    (hg : ∀ (s : Shared) (H : Hp) (C : Addr) (cl : List (Str × Addr)) (fp : List Addr), PG (X.blk s H scope (compEnvC scope cl C X.env) fp) tg t)
    (htt : ∀ (M : List Addr) (s : Shared) (H : Hp) (C : Addr) (cl : List (Str × Addr)) (fp : List Addr), PTs (X.blk s H scope (compEnvC scope cl C X.env) fp) ifs (tT (g.wm M) W0 tt))
    (he : ∀ (M : List Addr) (s : Shared) (H : Hp) (C : Addr) (cl : List (Str × Addr)) (fp : List Addr), PE (X.blk s H scope (compEnvC scope cl C X.env) fp) elt (tD (g.wm M) W0 f))
    (hs : ∀ x, foldedSetIterable iter X.env x = pure x) : PS X (.Assign [.Name y py] (.ListComp elt [⟨tg, iter, ifs, 0⟩] scope pos) spos) (tS g W (dSet (tgN i) (dComp (own.map (·.2)) src tgd tt f))) :=
  ps_imp (ps_setLc (tt := fun σ H Q => ∃ M, tT (g.wm M) W0 tt σ H Q) (te := fun σ H Q => ∃ M, tD (g.wm M) W0 f σ H Q) hc hN hy hyl hsw hi ok hg
    (fun s H C cl fp => ⟨fun pins s' σ H' Q I ⟨M, q⟩ => (htt M s H C cl fp).run pins s' σ H' Q I q⟩)
    (fun s H C cl fp => ⟨fun pins s' σ H' Q I ⟨M, q⟩ => (he M s H C cl fp).run pins s' σ H' Q I q⟩) hs) fun D σ H q => by
    have q' := set_imp (g := g) (W := W) (K := X.K) (tgN_ok i) q
    exact comp_run ht hown (fun M σ H Q q => ⟨M, q⟩) (fun M σ H Q q => ⟨M, q⟩) q'

/-! ### what a def is worth -/
abbrev Fn := List D → Sto → Rs D
def spD (g : Gh) (n : Nat) (F : Fn) : Sp := fun vs H Q E => ∃ M A st ds, StOk (g.wm M) A st H ∧ Reps (g.wm M) A H ds vs ∧ ds.length = n ∧ RP (g.wm M) (fun cls d _ H => E cls d H) (Rep (g.wm M)) A [] H (F ds st) Q
/-- F' tells what F tells wherever it tells something -/
def Fn.le (F' F : Fn) : Prop := ∀ ds st, F' ds st ≠ .bad → F ds st = F' ds st
theorem spD_le {g : Gh} {n : Nat} {F F' : Fn} (h : Fn.le F' F) {vs : List V} {H : Hp} {Q : VK} {E : XK} (q : spD g n F' vs H Q E) : spD g n F vs H Q E := by
  obtain ⟨M, A, st, ds, s, r, l, q⟩ := q
  refine ⟨M, A, st, ds, s, r, l, ?_⟩
  rw [h ds st fun z => by rw [z] at q; exact q]
  exact q
/-- a body as a function of its arguments; nn: how many names the frame has -/
def runF (nn : Nat) (b : DS) : Fn := fun ds st => match b (ds.map some ++ List.replicate (nn - ds.length) none) st with
  | .nx _ st => .ok .non st
  | .rt d st => .ok d st
  | .exc c _ st => .exc c st
  | _ => .bad
section
variable {P : Program} {w : World} {mg : Str → Option Value} {base : Heap}
structure GFn (P : Program) (w : World) (g : Gh) (mg : Str → Option Value) (base : Heap) (x : Str) (k n : Nat) (F : Fn) : Prop where
  ex : ∃ f fd ps, mg x = some (.ref f) ∧ PySem.W.keepIn g.K (.ref f) = true ∧ FnOk P w g.K mg base (L2N.CX P w) k f fd ps (spD g n F) ∧ Binds g.K fd ps []
theorem GFn.le {x : Str} {k n : Nat} {F F' : Fn} (G : GFn P w g mg base x k n F) (h : Fn.le F' F) : GFn P w g mg base x k n F' := by
  obtain ⟨f, fd, ps, h1, h2, h3, h4⟩ := G.ex
  exact ⟨f, fd, ps, h1, h2, h3.imp fun vs H Q E q => spD_le h q, h4⟩
theorem start_en {A : List Addr} {H : Hp} {N : List Str} {ds : List D} {vs : List V} (r : Reps g A H ds vs) : EnOk g A (ds.map some ++ List.replicate (N.length - ds.length) none) (start N vs) H := by
  have hl := r.len
  refine ⟨by simp [L2.start, hl], fun i d h => ?_⟩
  by_cases hi : i < ds.length
  · rw [List.getElem?_append_left (by simpa using hi), List.getElem?_map] at h
    cases e : ds[i]? with
    | none => rw [e] at h; cases h
    | some d' =>
      rw [e] at h
      cases h
      obtain ⟨v, e1, e2⟩ := r.get e
      refine ⟨v, ?_, e2⟩
      unfold L2.start
      rw [List.getElem?_append_left (by simp; omega), List.getElem?_map, e1]
      rfl
  · rw [List.getElem?_append_right (by simpa using hi), List.getElem?_replicate] at h
    split at h <;> cases h
/-- THE RULE for a def -/
theorem fn_rule {x qual : Str} {st : Stmt} {f : Addr} {fd : FuncData} {N ps : List Str} {k n : Nat} {b : DS} (F : Fun g.K x qual st f fd) (S : FnScope N ps (defScope st)) (hn : ps.length = n) {nn : Nat} (hnn : N.length = nn)
    (hbody : ∀ (M : List Addr) (cdv : Value) (A : Around) (outer : List Env) (s : Shared) (H : Hp) (E : XK), Room k (A.deeper (envOfC qual (defScope st) s.heap.objs.size f cdv)) →
      L2N.Takes (cxOf (L2N.CX P w) P w g.K mg base N qual (defScope st) f cdv A outer s H E) (fun cls d _ H => E cls d H) →
      PassesOwn (model P w) (A.deeper (envOfC qual (defScope st) s.heap.objs.size f cdv)) (envOfC qual (defScope st) s.heap.objs.size f cdv) (cxOf (L2N.CX P w) P w g.K mg base N qual (defScope st) f cdv A outer s H E).xe →
      PSs (cxOf (L2N.CX P w) P w g.K mg base N qual (defScope st) f cdv A outer s H E) (defBody st) (tS (g.wm M) (fun cls d _ H => E cls d H) b)) : FnOk P w g.K mg base (L2N.CX P w) (k + 1) f fd ps (spD g n (runF nn b)) := by
  obtain ⟨oc, od, kV, doc, pm, an, cdv, ct, osl, rfl, lk, hcd⟩ := F.ex
  subst hnn
  refine fn_of lk hcd S (fun vs H Q E h => ?_) fun A outer s H vs Q E hr hsp => ?_
  · obtain ⟨M, A, st, ds, s, r, l, q⟩ := h
    rw [← r.len, l, hn]
  · obtain ⟨M, A', st', ds, s', r, l, q⟩ := hsp
    refine ⟨_, hbody M cdv A outer s H E hr (L2N.takes_of rfl rfl rfl rfl) (L2.passes_of rfl), A', _, st', ⟨start_en r, s'⟩, ?_⟩
    unfold runF at q
    cases e : b (ds.map some ++ List.replicate (N.length - ds.length) none) st' with
    | nx en st2 => rw [e] at q; exact fun A2 σ2 H2 x M2 => q A2 .non H2 x M2.sto rep_non
    | rt d st2 => rw [e] at q; exact fun A2 v H2 x s2 r2 => q A2 v H2 x s2 r2
    | exc c en st2 => rw [e] at q; exact fun A2 σ2 H2 dx x M2 => q A2 H2 dx x M2.sto
    | bk en st2 => rw [e] at q; exact q.elim
    | ct en st2 => rw [e] at q; exact q.elim
    | bad => rw [e] at q; exact q.elim
end
/-! ### calls -/
def dCall (F : Fn) (fs : List DE) : DE := fun env st => (runL fs env st).bind F
theorem call_imp {n : Nat} {F : Fn} {fs : List DE} (hn : fs.length = n) {σ : L2.St} {H : Hp} {Q : VK} (q : tD g W (dCall F fs) σ H Q) : tCallS (spD g n F) (WE W) (tL g W (runL fs)) σ H Q := by
  obtain ⟨A, env, st, M, q⟩ := q
  refine (tR.bindE (rel := Reps g) M q).mono fun vs H1 ⟨A1, ds, st1, e, x, s, r, M1, q1⟩ => ?_
  refine ⟨g.M, A1, st1, ds, s, r, by rw [runL_len e, hn], ?_⟩
  cases eF : F ds st1 with
  | ok d st2 => rw [eF] at q1; exact q1
  | exc c st2 => rw [eF] at q1; exact q1
  | bad => rw [eF] at q1; exact q1
theorem de_call {x : Str} {p pos : Pos} {e : Expr} {es : List Expr} {k n : Nat} {F : Fn} {fs : List DE} (hK : g.K = X.K) (G : GFn X.prog X.w g X.mg X.base x k n F) (hr : Room k X.A) (tk : L2N.Takes X W) (hg : Gl X x) (ha : PA X (e :: es) (tL g W (runL fs))) (hn : fs.length = n)
    (hdb : (x == ("__debug__" : Str)) = false) (he : starEach (e :: es) X.env = (false, eval e X.env) :: starEach es X.env) (hpl : (backTo pos (starEach es X.env)).any (·.1) = false) : PE X (.Call (.Name x p) (e :: es) [] pos) (tD g W (dCall F fs)) := by
  obtain ⟨f, fd, ps, h1, h2, h3, h4⟩ := G.ex
  rw [hK] at h2 h3 h4
  exact pe_imp (pe_callS h3 hr hg h1 h2 h4 (fun σ => L2N.passAt tk σ) ha hdb he hpl) fun σ H Q q => call_imp hn q
/-- within a comprehension nothing is let out -/
theorem takes_never {Y : Cx} : L2N.Takes Y W0 := fun _ _ x => by
  obtain ⟨_, _, _, _, _, _, _, _, _, _, _, _, _, _, _, _, z⟩ := x
  exact z.elim
end
end DL

/-! DL9: places, slices, builtins over data. -/
namespace DL
open PySem PySem.Spec PyProof.Rows L2

section
variable {X : Cx} {g : Gh} {W : WX}
/-! ### a[i] -/
def ixD : D → D → Sto → Rs D
  | .lst xs, .int i, st => match atI xs i with
    | some d => .ok d st
    | none => .bad
  | .tup xs, .int i, st => match atI xs i with
    | some d => .ok d st
    | none => .bad
  | .scr ns, .int i, st => match atI ns i with
    | some n => .ok (.int n) st
    | none => .bad
  | .str z, .int i, st => match atI z.cps.toList i with
    | some c => .ok (.str ⟨#[c]⟩) st
    | none => .bad
  | .loc l, k, st => match st[l]? with
    | some (.lst xs) => match k with
      | .int i => match atI xs i with
        | some d => .ok d st
        | none => .bad
      | _ => .bad
    | some (.dk _ kvs) => match keyOf k with
      | some key => match look kvs key with
        | some d => .ok d st
        | none => .bad
      | none => .bad
    | some (.dt _ kvs) => match k with
      | .tup ks => match keysOf ks with
        | some key => match look kvs key with
          | some d => .ok d st
          | none => .bad
        | none => .bad
      | _ => .bad
    | _ => .bad
  | _, _, _ => .bad
def rDGet : R2 := fun x y H Q => ∃ a v, x = .ref a ∧ DGet H a y (some v) ∧ Q v H
theorem ix_dget (hu : X.A.units + 1 < cLine) : IxR X rDGet := by
  intro value slice pins s σ H x y v u Q I rx ry h hs
  obtain ⟨a, w, rfl, gg, q⟩ := h
  cases rx
  exact tail_any (dict_typeIs I gg) F.slot_dict_getitem.lookup (d_getItem hu I gg ry fun w' s' I' r' => ⟨w, H, I', r', q⟩) hs
theorem atI_rep {A : List Addr} {H : Hp} {ds : List D} {vs : List V} {i : Int} {d : D} (r : Reps g A H ds vs) (h : atI ds i = some d) : ∃ v, atI vs i = some v ∧ Rep g A H d v := by
  unfold atI at h ⊢
  rw [r.len] at h
  cases e : ixN vs.length i with
  | none => rw [e] at h; cases h
  | some j =>
    rw [e] at h
    exact r.get h
def rIxD (K : PySem.W.Frag) : R2 := fun x y H Q => rIx K x y H Q ∨ rDGet x y H Q
theorem ix_D (hu : X.A.units + 1 < cLine) : IxR X (rIxD X.K) := ix_seq.or (ix_dget hu)
theorem atI_map {α β : Type} (f : α → β) (xs : List α) (i : Int) : atI (xs.map f) i = (atI xs i).map f := by
  unfold atI
  rw [List.length_map]
  cases ixN xs.length i with
  | none => rfl
  | some j => simp
theorem atI_mem {α : Type} {xs : List α} {i : Int} {x : α} (h : atI xs i = some x) : x ∈ xs := by
  obtain ⟨j, _, e, _⟩ := atI_get h
  exact List.mem_of_getElem? e
theorem ixD_ok : OpD g (rIxD g.K) ixD := by
  intro W A st σ H x y v u Q s r1 r2 q
  unfold ixD at q
  split at q
  · split at q
    · rename_i ds i _ d e
      obtain ⟨p, vs, rfl, h1, _, q1⟩ := rep_lst_inv r1
      obtain ⟨w, e2, r3⟩ := atI_rep q1 e
      exact .inl (.inl ⟨p, vs, i, w, rfl, rep_int_inv r2, SqL.of h1, e2, q A _ H (.refl _ _) s r3⟩)
    · exact q.elim
  · split at q
    · rename_i ds i _ d e
      obtain ⟨p, vs, rfl, h1, q1⟩ := rep_tup_inv r1
      obtain ⟨w, e2, r3⟩ := atI_rep q1 e
      exact .inl (.inr (.inl ⟨p, vs, i, w, rfl, rep_int_inv r2, SqT.of h1, e2, q A _ H (.refl _ _) s r3⟩))
    · exact q.elim
  · split at q
    · rename_i ns i _ n e
      obtain ⟨p, rfl, h1⟩ := rep_scr_inv r1
      exact .inl (.inl ⟨p, _, i, .int n, rfl, rep_int_inv r2, h1, by rw [atI_map, e]; rfl, q A _ H (.refl _ _) s (rep_int _)⟩)
    · exact q.elim
  · split at q
    · rename_i z i _ c e
      obtain ⟨e1, ok⟩ := rep_str_inv r1
      exact .inl (.inr (.inr ⟨z, i, c, e1, rep_int_inv r2, ok.len, e, q A _ H (.refl _ _) s (rep_str (ok.sign (atI_mem e)))⟩))
    · exact q.elim
  · rename_i l
    obtain ⟨a, rfl, ea⟩ := rep_loc_inv r1
    split at q
    · rename_i _ xs e
      split at q
      · split at q
        · rename_i i _ d e3
          obtain ⟨vs, h1, q1⟩ := s.obj l a _ ea e
          obtain ⟨w, e2, r3⟩ := atI_rep q1 e3
          exact .inl (.inl ⟨a, vs, i, w, rfl, rep_int_inv r2, SqL.of h1, e2, q A _ H (.refl _ _) s r3⟩)
        · exact q.elim
      · exact q.elim
    · rename_i _ z kvs e
      split at q
      · rename_i _ key ek
        split at q
        · rename_i _ d el
          have gg := dget_rep (k := key) s ea e
          rw [el] at gg
          obtain ⟨w, g1, r3⟩ := gg
          rw [← keyOf_rep ek r2] at g1
          exact .inr ⟨a, w, rfl, g1, q A _ H (.refl _ _) s r3⟩
        · exact q.elim
      · exact q.elim
    · rename_i _ z kvs e
      split at q
      · rename_i ks
        split at q
        · rename_i _ key ek
          split at q
          · rename_i _ d el
            obtain ⟨b, vs, rfl, hb, q1⟩ := rep_tup_inv r2
            rw [keysOf_rep ek q1] at hb
            have gg := dtget_rep (k := key) s ea e hb
            rw [el] at gg
            obtain ⟨w, g1, r3⟩ := gg
            exact .inr ⟨a, w, rfl, g1, q A _ H (.refl _ _) s r3⟩
          · exact q.elim
        · exact q.elim
      · exact q.elim
    · exact q.elim
  · exact q.elim
theorem de_ix {a b : Expr} {pos : Pos} {f k : DE} (hK : g.K = X.K) (hu : X.A.units + 1 < cLine) (ha : PE X a (tD g W f)) (hb : PE X b (tD g W k)) (hs : PlainIx b) : PE X (.Subscript a b pos) (tD g W (dB ixD f k)) :=
  pe_imp (pe_ix (hK ▸ ix_D hu) ha hb hs) fun σ H Q q => bin_imp ixD_ok q

/-! ### a[i:j] -/
def cutD (xs : List D) (lo hi : Option Int) : List D := (xs.drop (HT.sIx xs.length 0 lo)).take (HT.sIx xs.length xs.length hi - HT.sIx xs.length 0 lo)
theorem cut_rep {A : List Addr} {H : Hp} {ds : List D} {vs : List V} (lo hi : Option Int) (r : Reps g A H ds vs) : Reps g A H (cutD ds lo hi) (cutV vs lo hi) := by
  unfold cutD cutV
  rw [r.len]
  exact (r.drop _).take _
def slD (x : D) (lo hi : Option Int) (st : Sto) : Rs D := match x with
  | .lst xs => .ok (.lst (cutD xs lo hi)) st
  | .tup xs => .ok (.tup (cutD xs lo hi)) st
  | .str z => .ok (.str (cutS z lo hi)) st
  | .loc l => match st[l]? with
    | some (.lst xs) => .ok (.lst (cutD xs lo hi)) st
    | _ => .bad
  | _ => .bad
/-- a part of a slice -/
abbrev DO := En → Sto → Rs (Option Int)
abbrev relO : List Addr → Hp → Option Int → Option Int → Prop := fun _ _ a b => a = b
def dNoPart : DO := fun _ st => .ok none st
def asI : D → Sto → Rs (Option Int)
  | .int i, st => .ok (some i) st
  | _, _ => .bad
def dPart (f : DE) : DO := fun env st => (f env st).bind asI
theorem po_imp {lo : Option Expr} {t t' : TO} (h : PO X lo t) (k : ∀ σ H Q, t' σ H Q → t σ H Q) : PO X lo t' := ⟨fun pins s σ H Q I q => h.run pins s σ H Q I (k σ H Q q)⟩
theorem do_none : PO X none (tR g W relO dNoPart) := po_imp po_none fun σ H Q h => by
  obtain ⟨A, env, st, M, q⟩ := h
  exact q A none H (.refl _ _) M.sto rfl
theorem do_some {e : Expr} {f : DE} (h : PE X e (tD g W f)) : PO X (some e) (tR g W relO (dPart f)) := po_imp (po_some h) fun σ H Q q => by
  obtain ⟨A, env, st, M, q⟩ := q
  refine (tR.bind (rel := Rep g) M q).mono fun v H1 ⟨A1, d, st1, x, s, r, M1, q1⟩ => ?_
  unfold asI at q1
  split at q1
  · exact ⟨_, rep_int_inv r, q1 A1 _ H1 (.refl _ _) s rfl⟩
  · exact q1.elim
def dSl (f : DE) (l h : DO) : DE := fun env st => (f env st).bind fun x st => (l env st).bind fun a st => (h env st).bind fun b st => slD x a b st
def rSlD (K : PySem.W.Frag) : V → Option Int → Option Int → Hp → VK → Prop := fun x lo hi H Q => rSlL K x lo hi H Q ∨ (rSlA K x lo hi H Q ∨ rSlS x lo hi H Q)
theorem sl_D : SlR X (rSlD X.K) := sl_list.or (sl_tupA.or sl_str)
theorem cut_all {α : Type} {xs : List α} {lo hi : Option Int} (h : HT.sIx xs.length 0 lo = 0 ∧ HT.sIx xs.length xs.length hi = xs.length) : (xs.drop (HT.sIx xs.length 0 lo)).take (HT.sIx xs.length xs.length hi - HT.sIx xs.length 0 lo) = xs := by
  rw [h.1, h.2]; simp
theorem SOk.cut {z : Str} (h : SOk z) (lo hi : Option Int) : SOk (cutS z lo hi) := by
  refine ⟨Nat.le_trans (cutS_length z lo hi) h.len, fun c hc => h.cps c ?_⟩
  have hc' : c ∈ ((z.cps.toList.drop (HT.sIx z.length 0 lo)).take (HT.sIx z.length z.length hi - HT.sIx z.length 0 lo)) := by
    have e : (cutS z lo hi).cps.toList = ((z.cps.toList.drop (HT.sIx z.length 0 lo)).take (HT.sIx z.length z.length hi - HT.sIx z.length 0 lo)) := rfl
    rw [← e]; exact hc
  exact List.mem_of_mem_drop (List.mem_of_mem_take hc')
theorem slD_ok {A : List Addr} {st : Sto} {σ : L2.St} {H : Hp} {x : D} {v : V} {lo hi : Option Int} {Q : VK} (s : StOk g A st H) (r : Rep g A H x v) (q : RP g W (Rep g) A σ H (slD x lo hi st) Q) : rSlD g.K v lo hi H Q := by
  unfold slD at q
  split at q
  · obtain ⟨a, vs, rfl, h1, _, q1⟩ := rep_lst_inv r
    exact .inl ⟨a, vs, rfl, SqL.of h1, fun p hp => q A _ _ (ext_val s hp) (s.val hp) (rep_lst_new s (cut_rep lo hi q1) hp)⟩
  · have r' := r
    obtain ⟨a, vs, rfl, h1, q1⟩ := rep_tup_inv r
    refine .inr (.inl ⟨a, vs, rfl, SqT.of h1, fun hw => ?_, fun hw p hp => q A _ _ (ext_val s hp) (s.val hp) (rep_tup_new s (cut_rep lo hi q1) hp)⟩)
    rw [← q1.len] at hw
    unfold cutD at q
    rw [cut_all hw] at q
    exact q A _ H (.refl _ _) s r'
  · obtain ⟨e1, ok⟩ := rep_str_inv r
    exact .inr (.inr ⟨_, e1, ok.len, q A _ H (.refl _ _) s (rep_str (ok.cut lo hi))⟩)
  · rename_i l
    split at q
    · rename_i xs e
      obtain ⟨a, rfl, ea⟩ := rep_loc_inv r
      obtain ⟨vs, h1, q1⟩ := s.obj l a _ ea e
      exact .inl ⟨a, vs, rfl, SqL.of h1, fun p hp => q A _ _ (ext_val s hp) (s.val hp) (rep_lst_new s (cut_rep lo hi q1) hp)⟩
    · exact q.elim
  · exact q.elim
theorem de_sl {e : Expr} {lo hi : Option Expr} {pos p2 : Pos} {f : DE} {l h : DO} (hK : g.K = X.K) (he : PE X e (tD g W f)) (hl : PO X lo (tR g W relO l)) (hh : PO X hi (tR g W relO h)) : PE X (.Subscript e (.Slice lo hi none p2) pos) (tD g W (dSl f l h)) :=
  pe_imp (pe_slice sl_D he hl hh) fun σ H Q q => by
    obtain ⟨A, env, st, M, q⟩ := q
    refine (tR.bind (rel := Rep g) M q).mono fun v H1 ⟨A1, d, st1, x, s, r, M1, q1⟩ => ?_
    refine (tR.bind (rel := relO) M1 q1).mono fun a H2 ⟨A2, d2, st2, x2, s2, r2, M2, q2⟩ => ?_
    refine (tR.bind (rel := relO) M2 q2).mono fun b H3 ⟨A3, d3, st3, x3, s3, r3, M3, q3⟩ => ?_
    have e2 : d2 = a := r2
    have e3 : d3 = b := r3
    subst e2
    subst e3
    exact hK ▸ slD_ok s3 (r.ext (x2.trans x3)) q3

/-! ### builtins called -/
def OpC (g : Gh) (r : List V → Hp → VK → Prop) (h : List D → Sto → Rs D) : Prop := ∀ (W : WX) (A : List Addr) (st : Sto) (σ : L2.St) (H : Hp) (ds : List D) (vs : List V) (Q : VK), StOk g A st H → Reps g A H ds vs → RP g W (Rep g) A σ H (h ds st) Q → r vs H Q
theorem callR_imp {r : List V → Hp → VK → Prop} {h : List D → Sto → Rs D} (o : OpC g r h) {fs : List DE} {σ : L2.St} {H : Hp} {Q : VK} (q : tD g W (dCall h fs) σ H Q) : tCB r (tL g W (runL fs)) σ H Q := by
  obtain ⟨A, env, st, M, q⟩ := q
  exact (tR.bind (rel := Reps g) M q).mono fun vs H1 ⟨A1, ds, st1, x, s, r, M1, q1⟩ => o W A1 st1 σ H1 ds vs Q s r q1
theorem de_blt {id : String} {x : Str} {p pos : Pos} {e : Expr} {es : List Expr} {r : List V → Hp → VK → Prop} {h : List D → Sto → Rs D} {fs : List DE} (hc : CallR X (.builtin id) r) (o : OpC g r h) (hg : Gl X x) (hm : X.mg x = none) (hv : bootBuiltins x = some (.builtin id)) (ha : PA X (e :: es) (tL g W (runL fs)))
    (hn : x ≠ "__name__") (hdb : (x == ("__debug__" : Str)) = false) (he : starEach (e :: es) X.env = (false, eval e X.env) :: starEach es X.env) (hpl : (backTo pos (starEach es X.env)).any (·.1) = false) : PE X (.Call (.Name x p) (e :: es) [] pos) (tD g W (dCall h fs)) :=
  pe_imp (pe_callB hc hg hm hv ha hn hdb he hpl) fun σ H Q q => callR_imp o q
theorem de_bty {T : String} {x : Str} {p pos : Pos} {e : Expr} {es : List Expr} {r : List V → Hp → VK → Prop} {h : List D → Sto → Rs D} {fs : List DE} (hc : CallR X (.type T) r) (o : OpC g r h) (hg : Gl X x) (hm : X.mg x = none) (hv : bootBuiltins x = some (.type T)) (ha : PA X (e :: es) (tL g W (runL fs)))
    (hn : x ≠ "__name__") (hdb : (x == ("__debug__" : Str)) = false) (he : starEach (e :: es) X.env = (false, eval e X.env) :: starEach es X.env) (hpl : (backTo pos (starEach es X.env)).any (·.1) = false) : PE X (.Call (.Name x p) (e :: es) [] pos) (tD g W (dCall h fs)) :=
  pe_imp (pe_callTy hc hg hm hv ha hn hdb he hpl) fun σ H Q q => callR_imp o q
theorem OpC.or {r r' : List V → Hp → VK → Prop} {h h' : List D → Sto → Rs D} (hh : List D → Sto → Rs D) (o : OpC g r h) (o' : OpC g r' h') (c : ∀ ds st, hh ds st = h ds st ∨ hh ds st = h' ds st) : OpC g (fun xs H Q => r xs H Q ∨ r' xs H Q) hh := by
  intro W A st σ H ds vs Q s r1 q
  rcases c ds st with e | e
  · rw [e] at q; exact .inl (o W A st σ H ds vs Q s r1 q)
  · rw [e] at q; exact .inr (o' W A st σ H ds vs Q s r1 q)

/-- the items of a thing that stands in a row; none: it is none -/
def itemsOf (st : Sto) : D → Option (List D)
  | .lst xs => some xs
  | .tup xs => some xs
  | .scr ns => some (ns.map D.int)
  | .loc l => match st[l]? with
    | some (.lst xs) => some xs
    | _ => none
  | _ => none
theorem ints_reps {A : List Addr} {H : Hp} (ns : List Int) : Reps g A H (ns.map D.int) (ns.map V.int) := Reps.of_ints ns
theorem items_rep {A : List Addr} {st : Sto} {H : Hp} {d : D} {v : V} {xs : List D} (s : StOk g A st H) (r : Rep g A H d v) (h : itemsOf st d = some xs) : ∃ p vs, v = .ref p ∧ Reps g A H xs vs ∧ (SqL g.K H p vs ∨ SqT g.K H p vs) := by
  unfold itemsOf at h
  split at h
  · cases h
    obtain ⟨p, vs, rfl, h1, _, q1⟩ := rep_lst_inv r
    exact ⟨p, vs, rfl, q1, .inl (SqL.of h1)⟩
  · cases h
    obtain ⟨p, vs, rfl, h1, q1⟩ := rep_tup_inv r
    exact ⟨p, vs, rfl, q1, .inr (SqT.of h1)⟩
  · cases h
    obtain ⟨p, rfl, h1⟩ := rep_scr_inv r
    exact ⟨p, _, rfl, ints_reps _, .inl h1⟩
  · rename_i l
    split at h
    · rename_i ys e
      cases h
      obtain ⟨a, rfl, ea⟩ := rep_loc_inv r
      obtain ⟨vs, h1, q1⟩ := s.obj l a _ ea e
      exact ⟨a, vs, rfl, q1, .inl (SqL.of h1)⟩
    · cases h
  · cases h
/-- those of a list -/
def isTup : D → Bool
  | .tup _ => true
  | _ => false
theorem listItems_rep {A : List Addr} {st : Sto} {H : Hp} {d : D} {v : V} {xs : List D} (s : StOk g A st H) (r : Rep g A H d v) (h : itemsOf st d = some xs) (ht : isTup d = false) : ∃ p vs, v = .ref p ∧ Reps g A H xs vs ∧ SqL g.K H p vs := by
  unfold itemsOf at h
  split at h
  · cases h
    obtain ⟨p, vs, rfl, h1, _, q1⟩ := rep_lst_inv r
    exact ⟨p, vs, rfl, q1, SqL.of h1⟩
  · cases ht
  · cases h
    obtain ⟨p, rfl, h1⟩ := rep_scr_inv r
    exact ⟨p, _, rfl, ints_reps _, h1⟩
  · rename_i l
    split at h
    · rename_i ys e
      cases h
      obtain ⟨a, rfl, ea⟩ := rep_loc_inv r
      obtain ⟨vs, h1, q1⟩ := s.obj l a _ ea e
      exact ⟨a, vs, rfl, q1, SqL.of h1⟩
    · cases h
  · cases h
/-- a new list, by value or in the store -/
def mk (m : Bool) (ds : List D) (st : Sto) : Rs D := if m = true then .ok (.loc st.length) (st ++ [.lst ds]) else .ok (.lst ds) st
theorem mk_ok {m : Bool} {A : List Addr} {st : Sto} {σ : L2.St} {H : Hp} {ds : List D} {vs : List V} {Q : VK} {p : Addr} (s : StOk g A st H) (r : Reps g A H ds vs) (q : RP g W (Rep g) A σ H (mk m ds st) Q) (hp : H p = none) : Q (.ref p) (upd H p (.lst vs)) := by
  unfold mk at q
  cases m with
  | false =>
    rw [if_neg Bool.false_ne_true] at q
    exact q A _ _ (ext_val s hp) (s.val hp) (rep_lst_new s r hp)
  | true =>
    rw [if_pos rfl] at q
    refine q _ (.ref p) _ (ext_new s hp) (s.new (ob := .lst ds) hp ⟨vs, upd_same, r.ext (ext_new s hp)⟩) ?_
    unfold Rep
    exact ⟨p, rfl, by rw [← s.len]; simp⟩
theorem reps1 {A : List Addr} {H : Hp} {d : D} {vs : List V} (r : Reps g A H [d] vs) : ∃ v, vs = [v] ∧ Rep g A H d v := by
  obtain ⟨v, ws, rfl, r1, r2⟩ := r.cons_inv
  rw [r2.nil_inv]
  exact ⟨v, rfl, r1⟩
theorem reps2 {A : List Addr} {H : Hp} {d e : D} {vs : List V} (r : Reps g A H [d, e] vs) : ∃ v w, vs = [v, w] ∧ Rep g A H d v ∧ Rep g A H e w := by
  obtain ⟨v, ws, rfl, r1, r2⟩ := r.cons_inv
  obtain ⟨w, rfl, r3⟩ := reps1 r2
  exact ⟨v, w, rfl, r1, r3⟩

/-! len -/
def lenD : List D → Sto → Rs D
  | [d], st => match itemsOf st d with
    | some xs => .ok (.int xs.length) st
    | none => match d with
      | .str z => .ok (.int z.length) st
      | .loc l => match st[l]? with
        | some (.dk false kvs) => .ok (.int kvs.length) st
        | _ => .bad
      | _ => .bad
  | _, _ => .bad
def rLen (K : PySem.W.Frag) : List V → Hp → VK → Prop := fun xs H Q => (fun xs H Q => ∃ p ys, xs = [.ref p] ∧ (SqL K H p ys ∨ SqT K H p ys) ∧ Q (.int ys.length) H) xs H Q ∨ ((fun xs H Q => ∃ z, xs = [.str z] ∧ z.length ≤ sizeLine ∧ Q (.int z.length) H) xs H Q ∨ (fun xs H Q => ∃ a kvs, xs = [V.ref a] ∧ H a = some (.dK kvs) ∧ Q (.int kvs.length) H) xs H Q)
theorem cr_len : CallR X (.builtin "len") (rLen X.K) := call_len_seq.or (call_len_str.or call_lenD)
theorem lenD_ok : OpC g (rLen g.K) lenD := by
  intro W A st σ H ds vs Q s r q
  unfold lenD at q
  split at q
  · rename_i d
    obtain ⟨v, rfl, r1⟩ := reps1 r
    split at q
    · rename_i xs e
      obtain ⟨p, ws, rfl, r2, h⟩ := items_rep s r1 e
      exact .inl ⟨p, ws, rfl, h, by rw [← r2.len]; exact q A _ H (.refl _ _) s (rep_int _)⟩
    · split at q
      · rename_i z _
        obtain ⟨e1, ok⟩ := rep_str_inv r1
        subst e1
        exact .inr (.inl ⟨z, rfl, ok.len, q A _ H (.refl _ _) s (rep_int _)⟩)
      · rename_i l _
        split at q
        · rename_i kvs e
          obtain ⟨a, rfl, ea⟩ := rep_loc_inv r1
          obtain ⟨kv', h, pp, _⟩ := s.obj l a _ ea e
          have h' : H a = some (.dK kv') := by simpa using h
          exact .inr (.inr ⟨a, kv', rfl, h', by rw [← pp.length]; exact q A _ H (.refl _ _) s (rep_int _)⟩)
        · exact q.elim
      · exact q.elim
  · exact q.elim

/-! list(x), tuple(x) -/
def listD (m : Bool) : List D → Sto → Rs D
  | [d], st => match itemsOf st d with
    | some xs => mk m xs st
    | none => .bad
  | _, _ => .bad
theorem listD_ok (m : Bool) : OpC g (fun xs H Q => ∃ p ys, xs = [.ref p] ∧ (SqL g.K H p ys ∨ SqT g.K H p ys) ∧ ∀ l, H l = none → Q (.ref l) (upd H l (.lst ys))) (listD m) := by
  intro W A st σ H ds vs Q s r q
  unfold listD at q
  split at q
  · rename_i d
    obtain ⟨v, rfl, r1⟩ := reps1 r
    split at q
    · rename_i xs e
      obtain ⟨p, ws, rfl, r2, h⟩ := items_rep s r1 e
      exact ⟨p, ws, rfl, h, fun l hl => mk_ok s r2 q hl⟩
    · exact q.elim
  · exact q.elim
def tupleD : List D → Sto → Rs D
  | [d], st => match itemsOf st d with
    | some xs => .ok (.tup xs) st
    | none => .bad
  | _, _ => .bad
theorem isTup_inv {d : D} (h : isTup d = true) : ∃ xs, d = .tup xs := by
  cases d with
  | tup xs => exact ⟨xs, rfl⟩
  | _ => cases h
theorem tupleD_ok : OpC g (fun xs H Q => ∃ p ys, xs = [.ref p] ∧ ((SqL g.K H p ys ∧ ∀ l, H l = none → Q (.ref l) (upd H l (.tup ys))) ∨ (SqT g.K H p ys ∧ Q (.ref p) H))) tupleD := by
  intro W A st σ H ds vs Q s r q
  unfold tupleD at q
  split at q
  · rename_i d
    obtain ⟨v, rfl, r1⟩ := reps1 r
    split at q
    · rename_i xs e
      cases ht : isTup d with
      | true =>
        obtain ⟨ys, rfl⟩ := isTup_inv ht
        cases e
        have r1' := r1
        obtain ⟨p, ws, rfl, h1, q1⟩ := rep_tup_inv r1
        exact ⟨p, ws, rfl, .inr ⟨SqT.of h1, q A _ H (.refl _ _) s r1'⟩⟩
      | false =>
        obtain ⟨p, ws, rfl, r2, h⟩ := listItems_rep s r1 e ht
        exact ⟨p, ws, rfl, .inl ⟨h, fun l hl => q A _ _ (ext_val s hl) (s.val hl) (rep_tup_new s r2 hl)⟩⟩
    · exact q.elim
  · exact q.elim

/-! min, max of two ints; of a list of ints -/
def max2D : List D → Sto → Rs D
  | [.int i, .int j], st => .ok (.int (if j > i then j else i)) st
  | _, _ => .bad
theorem max2D_ok : OpC g (fun xs H Q => ∃ i j, xs = [.int i, .int j] ∧ Q (.int (if j > i then j else i)) H) max2D := by
  intro W A st σ H ds vs Q s r q
  unfold max2D at q
  split at q
  · obtain ⟨v, w, rfl, r1, r2⟩ := reps2 r
    rw [rep_int_inv r1, rep_int_inv r2]
    exact ⟨_, _, rfl, q A _ H (.refl _ _) s (rep_int _)⟩
  · exact q.elim
def min2D : List D → Sto → Rs D
  | [.int i, .int j], st => .ok (.int (if j < i then j else i)) st
  | _, _ => .bad
theorem min2D_ok : OpC g (fun xs H Q => ∃ i j, xs = [.int i, .int j] ∧ Q (.int (if j < i then j else i)) H) min2D := by
  intro W A st σ H ds vs Q s r q
  unfold min2D at q
  split at q
  · obtain ⟨v, w, rfl, r1, r2⟩ := reps2 r
    rw [rep_int_inv r1, rep_int_inv r2]
    exact ⟨_, _, rfl, q A _ H (.refl _ _) s (rep_int _)⟩
  · exact q.elim

/-! int -/
def intD : List D → Sto → Rs D
  | [.int i], st => .ok (.int i) st
  | [.bl k], st => .ok (.int (if k then 1 else 0)) st
  | _, _ => .bad
theorem intD_ok : OpC g (fun xs H Q => (∃ i, xs = [.int i] ∧ Q (.int i) H) ∨ ∃ k, xs = [.bl k] ∧ Q (.int (if k then 1 else 0)) H) intD := by
  intro W A st σ H ds vs Q s r q
  unfold intD at q
  split at q
  · obtain ⟨v, rfl, r1⟩ := reps1 r
    rw [rep_int_inv r1]
    exact .inl ⟨_, rfl, q A _ H (.refl _ _) s (rep_int _)⟩
  · obtain ⟨v, rfl, r1⟩ := reps1 r
    rw [rep_bl_inv r1]
    exact .inr ⟨_, rfl, q A _ H (.refl _ _) s (rep_int _)⟩
  · exact q.elim
end
end DL

/-! DL10: sorted, join, startswith, isinstance, append, comprehensions that stay in the store. -/
namespace DL
open PySem PySem.Spec PyProof.Rows L2
open PySem.W (AllAlike Sortable dataLe sorted_data readsAll_each EachIs sort_maps)

section
variable {X : Cx} {g : Gh} {W : WX}
/-! ### sorted -/
def rSortX (K : PySem.W.Frag) : List V → Hp → VK → Prop := fun vs H Q => ∃ (β : Type) (bs : List β) (val : β → V) (enc : β → PyData) (a : Addr), vs = [.ref a] ∧ SqL K H a (bs.map val) ∧ DpAll K H (bs.map val) (bs.map enc) ∧ AllAlike (bs.map enc) ∧ Sortable (bs.map enc) ∧ (∀ b ∈ bs, (enc b).depth ≤ 40) ∧
  ∀ l, H l = none → Q (.ref l) (upd H l (.lst ((bs.mergeSort (dataLe false enc)).map val)))
theorem each_of_vals {β : Type} (val : β → V) : ∀ {bs : List β} {us : List Value}, Vals (bs.map val) us → EachIs (fun v b => RelV (val b) v) us bs
  | [], us, h => by
    cases h
    exact .nil
  | b :: bs, us, h => by
    cases h with
    | cons r t => exact .cons r (each_of_vals val t)
theorem vals_of_each {β : Type} (val : β → V) : ∀ {bs : List β} {us : List Value}, EachIs (fun v b => RelV (val b) v) us bs → Vals (bs.map val) us
  | _, _, .nil => .nil
  | _, _, .cons r t => .cons r (vals_of_each val t)
theorem cr_sortX (hu : X.A.units + 64 < cLine) : CallR X (.builtin "sorted") (rSortX X.K) := by
  intro pins s σ H vs us Q I r h
  obtain ⟨β, bs, val, enc, a, rfl, hs, hd, hal, hk, hdep, q⟩ := h
  obtain ⟨its, rv, hl, hz⟩ := I.list hs
  rw [Vals.ref1 r]
  obtain ⟨as, hr⟩ := Dp.readsAll I _ _ _ hd rv
  rw [List.length_map] at hz
  refine sorted_data (R := fun v b => RelV (val b) v) hl.isList (each_of_vals val rv) (readsAll_each enc hr) hal hk hz (fun b hb => ?_) fun out ho eo => ?_
  · have := hdep b hb
    omega
  · obtain ⟨ep, he'⟩ := PyProof.Rows.sortedAll_at s.heap its out.toArray
    have hlen : ((bs.mergeSort (dataLe false enc)).map val).length ≤ sizeLine := by
      rw [List.length_map, List.length_mergeSort]; exact hz
    exact ⟨.ref _, upd H (s.heap.objs.size + 1) (.lst ((bs.mergeSort (dataLe false enc)).map val)), I.laid (t' := s.toks) (fun _ _ => PyProof.Rows.sortedAll_old) (Nat.le_succ _) ⟨hlen, out.toArray.toList, ep, by
      rw [List.toList_toArray]; exact vals_of_each val eo, he'⟩, rfl, q _ (I.hok.fresh (Nat.le_succ _))⟩
def sortL (xs : List D) : List D := xs.mergeSort (dataLe false toP)
open Classical in
noncomputable def sortedD (m : Bool) : List D → Sto → Rs D
  | [d], st => match itemsOf st d with
    | some xs => if isTup d = false ∧ xs.all (good 40) = true ∧ AllAlike (xs.map toP) ∧ Sortable (xs.map toP) then mk m (sortL xs) st else .bad
    | none => .bad
  | _, _ => .bad
theorem zip_fst {α β : Type} : ∀ {xs : List α} {ys : List β}, xs.length = ys.length → (xs.zip ys).map (·.1) = xs
  | [], [], _ => rfl
  | x :: xs, y :: ys, h => by
    rw [List.zip_cons_cons, List.map_cons, zip_fst (by simpa using h)]
theorem zip_snd {α β : Type} : ∀ {xs : List α} {ys : List β}, xs.length = ys.length → (xs.zip ys).map (·.2) = ys
  | [], [], _ => rfl
  | x :: xs, y :: ys, h => by
    rw [List.zip_cons_cons, List.map_cons, zip_snd (by simpa using h)]
theorem Reps.pairs {A : List Addr} {H : Hp} : ∀ {ds : List D} {vs : List V}, Reps g A H ds vs → ∀ p ∈ vs.zip ds, Rep g A H p.2 p.1
  | [], vs, r, p, h => by rw [r.nil_inv] at h; cases h
  | d :: ds, vs, r, p, h => by
    obtain ⟨v, ws, rfl, r1, r2⟩ := r.cons_inv
    rcases List.mem_cons.mp h with e | h
    · subst e; exact r1
    · exact Reps.pairs r2 p h
theorem Reps.of_pairs {A : List Addr} {H : Hp} : ∀ {ps : List (V × D)}, (∀ p ∈ ps, Rep g A H p.2 p.1) → Reps g A H (ps.map (·.2)) (ps.map (·.1))
  | [], _ => .nil
  | p :: ps, h => .cons (h p List.mem_cons_self) (Reps.of_pairs fun q hq => h q (List.mem_cons_of_mem _ hq))
theorem good_all {n : Nat} {ds : List D} (h : ds.all (good n) = true) : ∀ d ∈ ds, good n d = true := List.all_eq_true.mp h
theorem sortedD_ok (m : Bool) : OpC g (rSortX g.K) (sortedD m) := by
  intro W A st σ H ds vs Q s r q
  unfold sortedD at q
  split at q
  · rename_i d
    obtain ⟨v, rfl, r1⟩ := reps1 r
    split at q
    · rename_i xs e
      split at q
      · rename_i hc
        obtain ⟨c1, c2, c3, c4⟩ := hc
        obtain ⟨p, ws, rfl, r2, h⟩ := listItems_rep s r1 e c1
        have hl : ws.length = xs.length := r2.len.symm
        have e1 : (ws.zip xs).map (·.1) = ws := zip_fst hl
        have e2 : (ws.zip xs).map (·.2) = xs := zip_snd hl
        have e3 : (ws.zip xs).map (fun b => toP b.2) = xs.map toP := by
          rw [← e2, List.map_map, e2]; rfl
        refine ⟨V × D, ws.zip xs, fun b => b.1, fun b => toP b.2, p, rfl, by rw [e1]; exact h, ?_, by rw [e3]; exact c3, by rw [e3]; exact c4, fun b hb => ?_, fun l hl' => ?_⟩
        · rw [e1, e3, ← toPs_map]
          exact (lays_all (lays_of 40) xs ws c2 r2).dp
        · have hb2 : b.2 ∈ xs := by rw [← e2]; exact List.mem_map_of_mem hb
          exact (lays_of 40 b.2 b.1 (good_all c2 _ hb2) (r2.pairs b hb)).deep
        · have e4 : ((ws.zip xs).mergeSort (dataLe false fun b => toP b.2)).map (·.2) = sortL xs := by
            unfold sortL
            have e5 := sort_maps (r := dataLe false fun b : V × D => toP b.2) (s := dataLe false toP) (fun b : V × D => b.2) (l := ws.zip xs) (fun a _ b _ => rfl)
            rw [e2] at e5
            exact e5
          have r3 : Reps g A H (sortL xs) (((ws.zip xs).mergeSort (dataLe false fun b => toP b.2)).map (·.1)) := by
            rw [← e4]
            exact Reps.of_pairs fun p hp => r2.pairs p (List.mem_mergeSort.mp hp)
          exact mk_ok s r3 q hl'
      · exact q.elim
    · exact q.elim
  · exact q.elim

/-! ### methods of builtins -/
def OpM (g : Gh) (r : V → List V → Hp → VK → Prop) (h : D → List D → Sto → Rs D) : Prop := ∀ (W : WX) (A : List Addr) (st : Sto) (σ : L2.St) (H : Hp) (x : D) (v : V) (ds : List D) (vs : List V) (Q : VK), StOk g A st H → Rep g A H x v → Reps g A H ds vs → RP g W (Rep g) A σ H (h x ds st) Q → r v vs H Q
def TyD (g : Gh) (T : String) (chk : Sto → D → Bool) : Prop := ∀ (A : List Addr) (st : Sto) (H : Hp) (x : D) (v : V), StOk g A st H → Rep g A H x v → chk st x = true → tyV g.K T v H
def chkS (_ : Sto) : D → Bool
  | .str _ => true
  | _ => false
def chkL (st : Sto) (d : D) : Bool := (itemsOf st d).isSome && !isTup d
def chkD (st : Sto) : D → Bool
  | .loc l => match st[l]? with
    | some (.dk false _) => true
    | some (.dt false _) => true
    | _ => false
  | _ => false
theorem chkS_ok : TyD g "str" chkS := fun A st H x v s r h => by
  cases x with
  | str z =>
    rw [(rep_str_inv r).1]
    rfl
  | _ => cases h
theorem chkL_ok : TyD g "list" chkL := fun A st H x v s r h => by
  unfold chkL at h
  rw [Bool.and_eq_true, Bool.not_eq_true'] at h
  obtain ⟨xs, e⟩ := Option.isSome_iff_exists.mp h.1
  obtain ⟨p, vs, rfl, _, hq⟩ := listItems_rep s r e h.2
  exact .inl ⟨rfl, vs, hq⟩
theorem chkD_ok : TyD g "dict" chkD := fun A st H x v s r h => by
  cases x with
  | loc l =>
    unfold chkD at h
    obtain ⟨a, rfl, ea⟩ := rep_loc_inv r
    dsimp only at h
    split at h
    · rename_i kvs e
      obtain ⟨kv', h1, _⟩ := s.obj l a _ ea e
      exact .inr (.inr (.inl ⟨rfl, .inl ⟨kv', by simpa using h1⟩⟩))
    · rename_i kvs e
      obtain ⟨kv', h1, _⟩ := s.obj l a _ ea e
      exact .inr (.inr (.inl ⟨rfl, .inr ⟨kv', by simpa using h1⟩⟩))
    · cases h
  | _ => cases h
def dMeth (chk : Sto → D → Bool) (h : D → List D → Sto → Rs D) (f : DE) (fs : List DE) : DE := fun env st => (f env st).bind fun x st => if chk st x = true then (runL fs env st).bind fun ds st => h x ds st else .bad
theorem de_bm {T id : String} {chk : Sto → D → Bool} {o e : Expr} {es : List Expr} {name : Str} {apos cpos : Pos} {r : V → List V → Hp → VK → Prop} {h : D → List D → Sto → Rs D} {f : DE} {fs : List DE} (hK : g.K = X.K) (ht : TyD g T chk) (op : OpM g r h) (pa : PlainAttrs T) (slot : Slot T name id) (hty : typeOf (.builtin id) = pure (.type "method_descriptor")) (hm : MtR X id r)
    (ho : PE X o (tD g W f)) (ha : PA X (e :: es) (tL g W (runL fs)))
    (hbase : attributeBase o name X.env (eval o X.env) = eval o X.env)
    (hfew : ((backTo cpos (starEach (e :: es) X.env)).all (fun x => !x.1) && (backToKw cpos (keywordEach [] X.env)).all (fun x => x.1.isSome)
      && decide ((e :: es).length + ([] : List Keyword).length + (if ([] : List Keyword).isEmpty then 0 else 1) < 30)) = true)
    (hline : (apos.endLine == cpos.line) = true) (hs : starEach (e :: es) X.env = (false, eval e X.env) :: starEach es X.env) (hplain : (backTo cpos (starEach es X.env)).any (·.1) = false) :
    PE X (.Call (.Attribute o name apos) (e :: es) [] cpos) (tD g W (dMeth chk h f fs)) :=
  pe_imp (pe_bm pa slot hty hm ho ha hbase hfew hline hs hplain) fun σ H Q q => by
    obtain ⟨A, env, st, M, q⟩ := q
    refine (tR.bind (rel := Rep g) M q).mono fun v H1 ⟨A1, d, st1, x, s, r1, M1, q1⟩ => ?_
    split at q1
    · rename_i hc
      refine ⟨hK ▸ ht A1 st1 H1 d v s r1 hc, ?_⟩
      refine (tR.bind (rel := Reps g) M1 q1).mono fun vs H2 ⟨A2, ds, st2, x2, s2, r2, M2, q2⟩ => ?_
      exact op W A2 st2 σ H2 d v ds vs Q s2 (r1.ext x2) r2 q2
    · exact q1.elim
theorem de_bm0 {T id : String} {chk : Sto → D → Bool} {o : Expr} {name : Str} {apos cpos : Pos} {r : V → List V → Hp → VK → Prop} {h : D → List D → Sto → Rs D} {f : DE} (hK : g.K = X.K) (ht : TyD g T chk) (op : OpM g r h) (pa : PlainAttrs T) (slot : Slot T name id) (hty : typeOf (.builtin id) = pure (.type "method_descriptor")) (hm : MtR X id r)
    (ho : PE X o (tD g W f)) (hbase : attributeBase o name X.env (eval o X.env) = eval o X.env) (hline : (apos.endLine == cpos.line) = true) : PE X (.Call (.Attribute o name apos) [] [] cpos) (tD g W (dMeth chk h f [])) :=
  pe_imp (pe_bm0 pa slot hty hm ho hbase hline) fun σ H Q q => by
    obtain ⟨A, env, st, M, q⟩ := q
    refine (tR.bind (rel := Rep g) M q).mono fun v H1 ⟨A1, d, st1, x, s, r1, M1, q1⟩ => ?_
    split at q1
    · rename_i hc
      exact ⟨hK ▸ ht A1 st1 H1 d v s r1 hc, op W A1 st1 σ H1 d v [] [] Q s r1 .nil q1⟩
    · exact q1.elim

/-! join -/
def strs? : List D → Option (List Str)
  | [] => some []
  | .str s :: ds => (strs? ds).map (s :: ·)
  | _ :: _ => none
theorem strs?_rep {A : List Addr} {H : Hp} : ∀ {ds : List D} {ss : List Str} {vs : List V}, strs? ds = some ss → Reps g A H ds vs → vs = ss.map V.str ∧ ∀ s ∈ ss, SOk s
  | [], ss, vs, h, r => by cases h; exact ⟨r.nil_inv, fun s h => by cases h⟩
  | d :: ds, ss, vs, h, r => by
    cases d with
    | str z =>
      unfold strs? at h
      obtain ⟨ms, e1, e2⟩ := Option.map_eq_some_iff.mp h
      obtain ⟨v, ws, rfl, r1, r2⟩ := r.cons_inv
      obtain ⟨e3, k⟩ := rep_str_inv r1
      obtain ⟨e4, k2⟩ := strs?_rep e1 r2
      subst e2 e3 e4
      refine ⟨rfl, fun s hs => ?_⟩
      rcases List.mem_cons.mp hs with e | hs
      · subst e; exact k
      · exact k2 s hs
    | _ => cases h
theorem strs?_map (ss : List Str) : strs? (ss.map D.str) = some ss := by
  induction ss with
  | nil => rfl
  | cons n ns ih => show (strs? (ns.map D.str)).map _ = _; rw [ih]; rfl
theorem join_cps (y : Str) (hy : ∀ c ∈ y.cps.toList, c < 0x110000) : ∀ ss : List Str, (∀ s ∈ ss, SOk s) → ∀ c ∈ (Str.join y ss).cps.toList, c < 0x110000
  | [], _, c, hc => by
    have : c ∈ ([] : List Nat) := hc
    cases this
  | [x], h, c, hc => (h x List.mem_cons_self).cps c hc
  | x :: z :: r, h, c, hc => by
    have hc' : c ∈ (x ++ y ++ Str.join y (z :: r)).cps.toList := hc
    rw [str_app_cps, str_app_cps, Array.toList_append, Array.toList_append, List.mem_append, List.mem_append] at hc'
    rcases hc' with (hc' | hc') | hc'
    · exact (h x List.mem_cons_self).cps c hc'
    · exact hy c hc'
    · exact join_cps y hy (z :: r) (fun s hs => h s (List.mem_cons_of_mem _ hs)) c hc'
def joinD : D → List D → Sto → Rs D
  | .str a, [d], st => match itemsOf st d with
    | some xs => match strs? xs with
      | some ys => if (ys.map (·.length)).sum + ys.length * a.length ≤ 16777216 then .ok (.str (Str.join a ys)) st else .bad
      | none => .bad
    | none => .bad
  | _, _, _ => .bad
theorem joinD_ok : OpM g (fun x xs H Q => ∃ a p, ∃ ys : List Str, x = .str a ∧ xs = [.ref p] ∧ (SqL g.K H p (ys.map V.str) ∨ SqT g.K H p (ys.map V.str)) ∧ (ys.map (·.length)).sum + ys.length * a.length ≤ 16777216 ∧ Q (.str (Txt.join a ys)) H) joinD := by
  intro W A st σ H x v ds vs Q s r1 r2 q
  unfold joinD at q
  split at q
  · rename_i a d
    obtain ⟨e0, k0⟩ := rep_str_inv r1
    obtain ⟨w, rfl, r3⟩ := reps1 r2
    split at q
    · rename_i _ xs e
      split at q
      · rename_i _ ys e2
        split at q
        · rename_i hc
          obtain ⟨p, ws, rfl, r4, hq⟩ := items_rep s r3 e
          obtain ⟨e5, k5⟩ := strs?_rep e2 r4
          subst e5
          refine ⟨a, p, ys, e0, rfl, hq, hc, ?_⟩
          have hj : Txt.join a ys = Str.join a ys := StrLaws.glued_eq_join a ys
          rw [hj]
          refine q A _ H (.refl _ _) s (rep_str ⟨?_, join_cps a k0.cps ys k5⟩)
          rw [← hj]
          have hl : (Txt.join a ys).length = (ys.map (·.length)).sum + (ys.length - 1) * a.length := size_glued a ys
          rw [hl, sizeLine_eq]
          have : (ys.length - 1) * a.length ≤ ys.length * a.length := Nat.mul_le_mul_right _ (by omega)
          omega
        · exact q.elim
      · exact q.elim
    · exact q.elim
  · exact q.elim
/-! startswith -/
def startsD : D → List D → Sto → Rs D
  | .str a, [.str b], st => .ok (.bl (Txt.startswith a b)) st
  | _, _, _ => .bad
theorem startsD_ok : OpM g (fun x xs H Q => ∃ a b, x = .str a ∧ xs = [.str b] ∧ Q (.bl (Txt.startswith a b)) H) startsD := by
  intro W A st σ H x v ds vs Q s r1 r2 q
  unfold startsD at q
  split at q
  · rename_i a b
    obtain ⟨w, rfl, r3⟩ := reps1 r2
    rw [(rep_str_inv r1).1, (rep_str_inv r3).1]
    exact ⟨a, b, rfl, rfl, q A _ H (.refl _ _) s (rep_bl _)⟩
  · exact q.elim
/-! append -/
def appendD : D → List D → Sto → Rs D
  | .loc l, [y], st => match st[l]? with
    | some (.lst xs) => if xs.length < 1000000 then .ok .non (st.set l (.lst (xs ++ [y]))) else .bad
    | _ => .bad
  | _, _, _ => .bad
theorem appendD_ok : OpM g rAppend appendD := by
  intro W A st σ H x v ds vs Q s r1 r2 q
  unfold appendD at q
  split at q
  · rename_i l y
    obtain ⟨w, rfl, r3⟩ := reps1 r2
    obtain ⟨a, rfl, ea⟩ := rep_loc_inv r1
    split at q
    · rename_i _ xs e
      split at q
      · rename_i hc
        obtain ⟨vs, h1, q1⟩ := s.obj l a _ ea e
        refine ⟨a, vs, w, rfl, rfl, h1, by rw [← q1.len, sizeLine_eq]; omega, ?_⟩
        have x1 : Ext A H A (upd H a (.lst (vs ++ [w]))) := ext_set ea (fun _ _ z => by rw [h1] at z; cases z)
        exact q A _ _ x1 (s.set ea ⟨_, upd_same, (q1.ext x1).append (.cons (r3.ext x1) .nil)⟩) rep_non
      · exact q.elim
    · exact q.elim
  · exact q.elim

/-! ### isinstance(x, T), T built in -/
def tyNm (st : Sto) : D → Option String
  | .non => some "NoneType"
  | .bl _ => some "bool"
  | .int _ => some "int"
  | .str _ => some "str"
  | .tup _ => some "tuple"
  | .lst _ => some "list"
  | .loc l => match st[l]? with
    | some (.lst _) => some "list"
    | some (.dk false _) => some "dict"
    | some (.dt false _) => some "dict"
    | _ => none
  | _ => none
theorem tyNm_ok {A : List Addr} {st : Sto} {H : Hp} {d : D} {v : V} {n : String} (s : StOk g A st H) (r : Rep g A H d v) (h : tyNm st d = some n) : TyX g.K H v (.type n) := by
  cases d with
  | non => cases h; rw [rep_non_inv r]; exact .base .non
  | bl b => cases h; rw [rep_bl_inv r]; exact .base (.bl b)
  | int b => cases h; rw [rep_int_inv r]; exact .base (.int b)
  | str b => cases h; rw [(rep_str_inv r).1]; exact .base (.str b)
  | tup xs => cases h; obtain ⟨a, vs, rfl, h1, _⟩ := rep_tup_inv r; exact .base (.tup h1)
  | lst xs => cases h; obtain ⟨a, vs, rfl, h1, _⟩ := rep_lst_inv r; exact .base (.lst h1)
  | loc l =>
    obtain ⟨a, rfl, ea⟩ := rep_loc_inv r
    unfold tyNm at h
    dsimp only at h
    split at h
    · rename_i xs e
      cases h
      obtain ⟨vs, h1, _⟩ := s.obj l a _ ea e
      exact .base (.lst h1)
    · rename_i xs e
      cases h
      obtain ⟨vs, h1, _⟩ := s.obj l a _ ea e
      exact .base (.dK (by simpa using h1))
    · rename_i xs e
      cases h
      obtain ⟨vs, h1, _⟩ := s.obj l a _ ea e
      exact .base (.dT (by simpa using h1))
    · cases h
  | _ => cases h
def isiD (T : String) (d : D) (st : Sto) : Rs D := match tyNm st d with
  | some n => match kitB n T with
    | some b => .ok (.bl b) st
    | none => .bad
  | none => .bad
theorem de_isi {e : Expr} {f : DE} {p q pos : Pos} {T : String} {x : Str} (hK : g.K = X.K) (he : PE X e (tD g W f)) (hg : Gl X "isinstance") (hm : X.mg "isinstance" = none) (hgT : Gl X x) (hmT : X.mg x = none) (hv : bootBuiltins x = some (.type T)) (hn : x ≠ "__name__") (hd : (x == ("__debug__" : Str)) = false)
    (hs : starEach [e, .Name x q] X.env = (false, eval e X.env) :: starEach [.Name x q] X.env) (hs2 : starEach [Expr.Name x q] X.env = (false, eval (.Name x q) X.env) :: starEach [] X.env) (hpl : (backTo pos (starEach [Expr.Name x q] X.env)).any (·.1) = false) :
    PE X (.Call (.Name "isinstance" p) [e, .Name x q] [] pos) (tD g W (dU (isiD T) f)) :=
  pe_imp (pe_callB call_isi hg hm boot_isinstance (pa_cons he (pa_cons (pe_bltn (v := .ty T) hgT hmT hv rfl hn hd) pa_nil hs2) hs) (he := hs) (hpl := hpl)) fun σ H Q qq => by
    obtain ⟨A, env, st, M, qq⟩ := qq
    refine (tR.bind (rel := Rep g) M qq).mono fun v H1 ⟨A1, d, st1, x, s, r1, M1, q1⟩ => ?_
    unfold isiD at q1
    split at q1
    · rename_i _ n en
      split at q1
      · rename_i _ b eb
        exact ⟨v, .ty T, .type n, .type T, b, rfl, .ty T, hK ▸ tyNm_ok s r1 en, kit_ty eb, q1 A1 _ H1 (.refl _ _) s (rep_bl b)⟩
      · exact q1.elim
    · exact q1.elim
end
end DL

/-! DL11: comprehensions whose list stays in the store; defs that leave the store as it was. -/
namespace DL
open PySem PySem.Spec PyProof.Rows L2

theorem Ext.trans0 {A1 A2 : List Addr} {H1 H2 : Hp} {P : Addr} (x : Ext A1 H1 A2 H2) (hP : H1 P = none) : Ext A1 H1 (A2 ++ [P]) H2 :=
  ⟨⟨by obtain ⟨B, e⟩ := x.pre; exact ⟨B ++ [P], by rw [e, List.append_assoc]⟩, fun c o n q => ⟨by
    simp only [List.mem_append, List.mem_singleton, not_or]
    exact ⟨(x.keep c o n q).1, ne_of_none q hP⟩, (x.keep c o n q).2⟩⟩, x.frz⟩
mutual
theorem Rep.own {g : Gh} {A : List Addr} {H : Hp} {p : Addr} {xs : List V} (hp : H p = some (.lst xs)) : ∀ {d : D} {v : V}, Rep (g.push p) A H d v → Rep g (A ++ [p]) H d v
  | .non, _, h => h
  | .bl _, _, h => h
  | .int _, _, h => h
  | .str _, _, h => h
  | .tup ds, v, h => by
    unfold Rep at h ⊢
    obtain ⟨a, vs, e, q, n, r⟩ := h
    refine ⟨a, vs, e, q, ?_, Reps.own hp r⟩
    simp only [List.mem_append, List.mem_singleton, not_or]
    exact ⟨n, fun z => by rw [z, hp] at q; cases q⟩
  | .kt ss, v, h => by unfold Rep at h ⊢; exact h
  | .lst ds, v, h => by
    unfold Rep at h ⊢
    obtain ⟨a, vs, e, q, n, r⟩ := h
    refine ⟨a, vs, e, q, ⟨?_, fun m => n.2 (List.mem_cons_of_mem _ m)⟩, Reps.own hp r⟩
    simp only [List.mem_append, List.mem_singleton, not_or]
    exact ⟨n.1, fun z => n.2 (by rw [z]; exact List.mem_cons_self)⟩
  | .loc l, v, h => by
    unfold Rep at h ⊢
    obtain ⟨a, e, q⟩ := h
    exact ⟨a, e, by rw [List.getElem?_append_left (List.getElem?_eq_some_iff.mp q).1]; exact q⟩
  | .fn _, _, h => h
  | .scr ns, v, h => by
    unfold Rep at h ⊢
    obtain ⟨a, e, q⟩ := h
    refine ⟨a, e, ?_⟩
    rcases q with ⟨q, n, n2⟩ | q
    · refine .inl ⟨q, ?_, fun m => n2 (List.mem_cons_of_mem _ m)⟩
      simp only [List.mem_append, List.mem_singleton, not_or]
      exact ⟨n, fun z => n2 (by rw [z]; exact List.mem_cons_self)⟩
    · exact .inr q
theorem Reps.own {g : Gh} {A : List Addr} {H : Hp} {p : Addr} {xs : List V} (hp : H p = some (.lst xs)) : ∀ {ds : List D} {vs : List V}, Reps (g.push p) A H ds vs → Reps g (A ++ [p]) H ds vs
  | [], vs, h => h
  | d :: ds, vs, h => by
    unfold Reps at h ⊢
    obtain ⟨v, r, e, p', q⟩ := h
    exact ⟨v, r, e, Rep.own hp p', Reps.own hp q⟩
end
theorem StOk.own {g : Gh} {A : List Addr} {st : Sto} {H : Hp} {p : Addr} {ds : List D} {vs : List V} (s : StOk (g.push p) A st H) (hp : H p = some (.lst vs)) (r : Reps (g.push p) A H ds vs) (hn : p ∉ g.M) : StOk g (A ++ [p]) (st ++ [.lst ds]) H := by
  have np := (s.res p List.mem_cons_self).1
  refine ⟨by simp [s.len], nodup_snoc s.nd np, fun l a u e1 e2 => ?_, fun m hm => ?_⟩
  · by_cases hl : l < A.length
    · rw [List.getElem?_append_left hl] at e1
      rw [List.getElem?_append_left (by rw [← s.len]; exact hl)] at e2
      have o := s.obj l a u e1 e2
      exact ObR.map (g := g.push p) (g' := g) (A := A) (A' := A ++ [p]) rfl rfl rfl (fun _ _ h => h.own hp) (fun _ _ h => h.own hp) o
    · have hl' : l = A.length := by
        have := (List.getElem?_eq_some_iff.mp e1).1
        simp at this; omega
      subst hl'
      simp at e1
      rw [s.len] at e2
      simp at e2
      subst e1; subst e2; exact ⟨vs, hp, r.own hp⟩
  · obtain ⟨n, u, q⟩ := s.res m (List.mem_cons_of_mem _ hm)
    refine ⟨?_, u, q⟩
    simp only [List.mem_append, List.mem_singleton, not_or]
    exact ⟨n, fun z => hn (by rw [← z]; exact hm)⟩
def dCompM (vs : List Nat) (src : DA) (tg : Tg) (t : DT) (f : DE) : DE := fun env st => (src env st).bind fun ds st => (compL tg t f (wipeE env vs) ds st).bind fun ys st => if ys.length ≤ 1000000 then .ok (.loc st.length) (st ++ [.lst ys]) else .bad
section
variable {X : Cx} {g : Gh} {W : WX}
/-- the reading of the loop -/
theorem comp_runM {src : DA} {t : TG} {tgd : Tg} {tt : DT} {f : DE} {vs : List Nat} {tt' : TT} {te' : TE} (ht : ∀ M, TgOk (g.wm M) X.K t tgd) (own : TgOwn t vs) (htt : ∀ M σ H Q, tT (g.wm M) W0 tt σ H Q → tt' σ H Q) (hte : ∀ M σ H Q, tD (g.wm M) W0 f σ H Q → te' σ H Q)
    {σ : L2.St} {H : Hp} {Q : VK} (q : tD g W (dCompM vs src tgd tt f) σ H Q) : tLc (tY g W src) t tt' te' vs σ H Q := by
  obtain ⟨A, env, st, M, q⟩ := q
  refine ⟨A, env, st, M, ?_⟩
  unfold dCompM at q
  cases e : src env st with
  | exc c st1 => rw [e] at q; exact q
  | bad => rw [e] at q; exact q
  | ok ds st1 =>
    rw [e, Rs.bind_ok] at q
    intro A1 H1 J x1 s1 Y P hP
    cases eL : compL tgd tt f (wipeE env vs) ds st1 with
    | bad => rw [eL] at q; exact q.elim
    | exc c st2 => exact absurd eL (compL_noexc _ _ _ _)
    | ok ys st2 =>
      rw [eL, Rs.bind_ok] at q
      split at q
      · rename_i hlen
        have EnW : EnOk (g.push P) A1 (wipeE env vs) (wipe σ vs) (upd H1 P (.lst [])) := ((M.env.ext x1).wipe vs).res hP
        have hM : ∀ m ∈ P :: g.M, m ∈ g.M ∨ H1 m = none := fun m hm => (List.mem_cons.mp hm).elim (fun z => .inr (z ▸ hP)) .inl
        refine ⟨fun i m H' => m = ds.length - i ∧ i ≤ ds.length ∧ ∃ A2 st3 acc accd zs, Ext A1 H1 A2 H' ∧ StOk (g.push P) A2 st3 H' ∧ H' P = some (.lst acc) ∧ Reps (g.push P) A2 H' accd acc ∧ EnOk (g.push P) A2 (wipeE env vs) (wipe σ vs) H' ∧
            compL tgd tt f (wipeE env vs) (ds.drop i) st3 = .ok zs st2 ∧ accd ++ zs = ys,
          ⟨ds.length, by simp, Nat.zero_le _, A1, st1, [], [], ys, ext_val s1 hP, s1.push hP, upd_same, .nil, EnW, by rw [List.drop_zero]; exact eL, rfl⟩, ?_⟩
        rintro i m H' ⟨rfl, hi, A2, st3, acc, accd, zs, x2, s2, hacc, racc, en2, eC, ey⟩
        have nP := (s2.res P List.mem_cons_self).1
        obtain ⟨y1, y2⟩ := Y i (P :: g.M) A2 H' st3 x2 hM s2
        by_cases hlt : i < ds.length
        · obtain ⟨go, yl⟩ := y1 hlt
          refine .inr ⟨go, fun H'' => ∃ A3 st4 acc' accd' zs', Ext A1 H1 A3 H'' ∧ StOk (g.push P) A3 st4 H'' ∧ H'' P = some (.lst acc') ∧ Reps (g.push P) A3 H'' accd' acc' ∧ EnOk (g.push P) A3 (wipeE env vs) (wipe σ vs) H'' ∧ compL tgd tt f (wipeE env vs) (ds.drop (i + 1)) st4 = .ok zs' st2 ∧ accd' ++ zs' = ys,
            fun H'' ⟨A3, st4, acc', accd', zs', n⟩ => ⟨ds.length - (i + 1), by omega, rfl, hlt, A3, st4, acc', accd', zs', n⟩, fun v H'' y => ?_⟩
          obtain ⟨d, ed, x3, s3, r3⟩ := yl v H'' y
          rw [drop_get ed] at eC
          obtain ⟨env1, b, s4, e1, e2, e3⟩ := compL_step eC
          have M3 : Mt (g.push P) A2 (wipeE env vs) st3 (wipe σ vs) H'' := ⟨en2.ext x3, s3⟩
          have hacc3 := (x3.keep P _ nP hacc).2
          have fin := own v (wipe σ vs) H'' (fun σ2 H2 => tt' σ2 H2 fun b H3 => if b = true then te' σ2 H3 fun y H4 => ∃ acc, H4 P = some (.lst acc) ∧ acc.length < sizeLine ∧ (∃ A3 st4 acc' accd' zs', Ext A1 H1 A3 (upd H4 P (.lst (acc ++ [y]))) ∧ StOk (g.push P) A3 st4 (upd H4 P (.lst (acc ++ [y]))) ∧ (upd H4 P (.lst (acc ++ [y]))) P = some (.lst acc') ∧ Reps (g.push P) A3 (upd H4 P (.lst (acc ++ [y]))) accd' acc' ∧ EnOk (g.push P) A3 (wipeE env vs) (wipe σ vs) (upd H4 P (.lst (acc ++ [y]))) ∧ compL tgd tt f (wipeE env vs) (ds.drop (i + 1)) st4 = .ok zs' st2 ∧ accd' ++ zs' = ys)
            else (∃ A3 st4 acc' accd' zs', Ext A1 H1 A3 H3 ∧ StOk (g.push P) A3 st4 H3 ∧ H3 P = some (.lst acc') ∧ Reps (g.push P) A3 H3 accd' acc' ∧ EnOk (g.push P) A3 (wipeE env vs) (wipe σ vs) H3 ∧ compL tgd tt f (wipeE env vs) (ds.drop (i + 1)) st4 = .ok zs' st2 ∧ accd' ++ zs' = ys))
            (ht (P :: g.M) A2 st3 (wipe σ vs) H'' (wipeE env vs) env1 d v _ M3 r3 e1 fun σ2 M2 => ?_)
          · rw [wipe_wipe] at fin
            exact fin
          · refine htt (P :: g.M) _ _ _ ⟨A2, env1, st3, M2, ?_⟩
            rw [e2]
            intro A3 b' H3 x4 s5 eb
            have eb' : b = b' := eb
            subst eb'
            have nP3 := (s5.res P List.mem_cons_self).1
            have hacc4 := (x4.keep P _ nP hacc3).2
            have x5 := (x2.trans x3).trans x4
            rcases e3 with ⟨rfl, e3⟩ | ⟨y', s6, ys', rfl, e4, e5, ez⟩
            · rw [if_neg Bool.false_ne_true]
              exact ⟨A3, s4, acc, accd, zs, x5, s5, hacc4, (racc.ext x3).ext x4, (en2.ext x3).ext x4, e3, ey⟩
            · rw [if_pos rfl]
              refine hte (P :: g.M) _ _ _ ⟨A3, env1, s4, ⟨M2.env.ext x4, s5⟩, ?_⟩
              rw [e4]
              intro A4 w H4 x6 s7 rw'
              have hacc5 := (x6.keep P _ nP3 hacc4).2
              have hl : accd.length = acc.length := racc.len
              have hm : P ∈ (g.push P).M := List.mem_cons_self
              refine ⟨acc, hacc5, ?_, A4, s6, acc ++ [w], accd ++ [y'], ys', ?_, s7.more hacc5 hm, upd_same, ?_, ?_, e5, ?_⟩
              · rw [sizeLine_eq]
                have := congrArg List.length ey
                rw [ez, List.length_append, List.length_cons] at this
                omega
              · have x7 := x5.trans x6
                exact ⟨⟨x7.pre, fun c o n q => ⟨(x7.keep c o n q).1, by rw [upd_ne (ne_of_none q hP)]; exact (x7.keep c o n q).2⟩⟩, fun c o u q => by rw [upd_ne (ne_of_none q hP)]; exact x7.frz c o u q⟩
              · exact ((((racc.ext x3).ext x4).ext x6).more hacc5 hm).append (.cons (rw'.more hacc5 hm) .nil)
              · exact (((en2.ext x3).ext x4).ext x6).more hacc5 hm
              · rw [List.append_assoc, ← ey, ez]; rfl
        · refine .inl ⟨y2 (by omega), ?_⟩
          rw [List.drop_of_length_le (by omega)] at eC
          cases eC
          rw [List.append_nil] at ey
          subst ey
          refine q (A2 ++ [P]) (.ref P) H' (x1.trans (x2.trans0 hP)) (s2.own hacc racc (s1.new_res hP)) ?_
          unfold Rep
          exact ⟨P, rfl, by rw [← s2.len]; simp⟩
      · exact q.elim

theorem de_lcM {elt tg iter : Expr} {ifs : List Expr} {scope : Scope} {own : List (Str × Nat)} {pos : Pos} {src : DA} {t : TG} {tgd : Tg} {tt : DT} {f : DE} (hc : X.calm = true) (hN : X.N.Nodup) (hi : PI X tg iter (tY g W src)) (ok : BlkOk X.N X.env.scope scope own)
    (ht : ∀ M, TgOk (g.wm M) X.K t tgd) (hown : TgOwn t (own.map (·.2)))
    (hg : ∀ (s : Shared) (H : Hp) (C : Addr) (cl : List (Str × Addr)) (fp : List Addr), PG (X.blk s H scope (compEnvC scope cl C X.env) fp) tg t)
    (htt : ∀ (M : List Addr) (s : Shared) (H : Hp) (C : Addr) (cl : List (Str × Addr)) (fp : List Addr), PTs (X.blk s H scope (compEnvC scope cl C X.env) fp) ifs (tT (g.wm M) W0 tt))
    (he : ∀ (M : List Addr) (s : Shared) (H : Hp) (C : Addr) (cl : List (Str × Addr)) (fp : List Addr), PE (X.blk s H scope (compEnvC scope cl C X.env) fp) elt (tD (g.wm M) W0 f))
    (hs : ∀ x, foldedSetIterable iter X.env x = pure x) : PE X (.ListComp elt [⟨tg, iter, ifs, 0⟩] scope pos) (tD g W (dCompM (own.map (·.2)) src tgd tt f)) :=
  pe_imp (pe_lc (tt := fun σ H Q => ∃ M, tT (g.wm M) W0 tt σ H Q) (te := fun σ H Q => ∃ M, tD (g.wm M) W0 f σ H Q) hc hN hi ok hg
    (fun s H C cl fp => ⟨fun pins s' σ H' Q I ⟨M, q⟩ => (htt M s H C cl fp).run pins s' σ H' Q I q⟩)
    (fun s H C cl fp => ⟨fun pins s' σ H' Q I ⟨M, q⟩ => (he M s H C cl fp).run pins s' σ H' Q I q⟩) hs) fun σ H Q q =>
    comp_runM ht hown (fun M σ H Q q => ⟨M, q⟩) (fun M σ H Q q => ⟨M, q⟩) q
theorem ds_setLcM {y : Str} {py : Pos} {elt tg iter : Expr} {ifs : List Expr} {scope : Scope} {own : List (Str × Nat)} {pos spos : Pos} {src : DA} {t : TG} {tgd : Tg} {tt : DT} {f : DE} (i : Nat) (hc : X.calm = true) (hN : X.N.Nodup) (hy : X.N[i]? = some y) (hyl : X.env.scope.names.lookup y = some .local)
    (hsw : swapsWith (.ListComp elt [⟨tg, iter, ifs, 0⟩] scope pos) (some (.Name y py)) spos.line X.env = pure true) (hi : PI X tg iter (tY g W src)) (ok : BlkOk X.N X.env.scope scope own)
    (ht : ∀ M, TgOk (g.wm M) X.K t tgd) (hown : TgOwn t (own.map (·.2)))
    (hg : ∀ (s : Shared) (H : Hp) (C : Addr) (cl : List (Str × Addr)) (fp : List Addr), PG (X.blk s H scope (compEnvC scope cl C X.env) fp) tg t)
    (htt : ∀ (M : List Addr) (s : Shared) (H : Hp) (C : Addr) (cl : List (Str × Addr)) (fp : List Addr), PTs (X.blk s H scope (compEnvC scope cl C X.env) fp) ifs (tT (g.wm M) W0 tt))
    (he : ∀ (M : List Addr) (s : Shared) (H : Hp) (C : Addr) (cl : List (Str × Addr)) (fp : List Addr), PE (X.blk s H scope (compEnvC scope cl C X.env) fp) elt (tD (g.wm M) W0 f))
    (hs : ∀ x, foldedSetIterable iter X.env x = pure x) : PS X (.Assign [.Name y py] (.ListComp elt [⟨tg, iter, ifs, 0⟩] scope pos) spos) (tS g W (dSet (tgN i) (dCompM (own.map (·.2)) src tgd tt f))) :=
  ps_imp (ps_setLc (tt := fun σ H Q => ∃ M, tT (g.wm M) W0 tt σ H Q) (te := fun σ H Q => ∃ M, tD (g.wm M) W0 f σ H Q) hc hN hy hyl hsw hi ok hg
    (fun s H C cl fp => ⟨fun pins s' σ H' Q I ⟨M, q⟩ => (htt M s H C cl fp).run pins s' σ H' Q I q⟩)
    (fun s H C cl fp => ⟨fun pins s' σ H' Q I ⟨M, q⟩ => (he M s H C cl fp).run pins s' σ H' Q I q⟩) hs) fun D σ H q => by
    have q' := set_imp (g := g) (W := W) (K := X.K) (tgN_ok i) q
    exact comp_runM ht hown (fun M σ H Q q => ⟨M, q⟩) (fun M σ H Q q => ⟨M, q⟩) q'
end

/-! ### what a def leaves behind: the store as it was -/
mutual
/-- places at n and above are lists that were made here: taken by value -/
inductive Thaw (n : Nat) (ext : Sto) : D → D → Prop
  | non : Thaw n ext .non .non
  | bl (b : Bool) : Thaw n ext (.bl b) (.bl b)
  | int (i : Int) : Thaw n ext (.int i) (.int i)
  | str (s : Str) : Thaw n ext (.str s) (.str s)
  | kt (s : List Str) : Thaw n ext (.kt s) (.kt s)
  | fn (i : Nat) : Thaw n ext (.fn i) (.fn i)
  | scr (ns : List Int) : Thaw n ext (.scr ns) (.scr ns)
  | tup {ds es : List D} (h : ThawL n ext ds es) : Thaw n ext (.tup ds) (.tup es)
  | lst {ds es : List D} (h : ThawL n ext ds es) : Thaw n ext (.lst ds) (.lst es)
  | loc {l : Nat} (h : l < n) : Thaw n ext (.loc l) (.loc l)
  | new {l : Nat} {ds es : List D} (hl : ext[l]? = some (.lst ds)) (h : ThawL n ext ds es) : Thaw n ext (.loc (n + l)) (.lst es)
inductive ThawL (n : Nat) (ext : Sto) : List D → List D → Prop
  | nil : ThawL n ext [] []
  | cons {d e : D} {ds es : List D} (h : Thaw n ext d e) (t : ThawL n ext ds es) : ThawL n ext (d :: ds) (e :: es)
end
section
variable {g : Gh} {A B : List Addr} {H : Hp} {st ext : Sto}
mutual
theorem thaw_rep (s : StOk g (A ++ B) (st ++ ext) H) (hn : A.length = st.length) : ∀ {d e : D} {v : V}, Thaw st.length ext d e → Rep g (A ++ B) H d v → Rep g A H e v
  | _, _, _, .non, r => r
  | _, _, _, .bl _, r => r
  | _, _, _, .int _, r => r
  | _, _, _, .str _, r => r
  | _, _, _, .kt _, r => by unfold Rep at r ⊢; exact r
  | _, _, _, .fn _, r => r
  | _, _, _, .scr _, r => by
    unfold Rep at r ⊢
    obtain ⟨a, e, q⟩ := r
    refine ⟨a, e, ?_⟩
    rcases q with ⟨q, n, n2⟩ | q
    · exact .inl ⟨q, fun m => n (List.mem_append_left _ m), n2⟩
    · exact .inr q
  | _, _, _, .tup t, r => by
    unfold Rep at r ⊢
    obtain ⟨a, vs, e, q, n, rr⟩ := r
    exact ⟨a, vs, e, q, fun m => n (List.mem_append_left _ m), thaws_rep s hn t rr⟩
  | _, _, _, .lst t, r => by
    unfold Rep at r ⊢
    obtain ⟨a, vs, e, q, n, rr⟩ := r
    exact ⟨a, vs, e, q, ⟨fun m => n.1 (List.mem_append_left _ m), n.2⟩, thaws_rep s hn t rr⟩
  | _, _, _, .loc h, r => by
    unfold Rep at r ⊢
    obtain ⟨a, e, q⟩ := r
    exact ⟨a, e, by rw [List.getElem?_append_left (by omega)] at q; exact q⟩
  | _, _, _, .new (l := l) (ds := ds) hl t, r => by
    obtain ⟨a, e, q⟩ := rep_loc_inv r
    have e1 : (st ++ ext)[st.length + l]? = some (.lst ds) := by
      rw [List.getElem?_append_right (by omega), Nat.add_sub_cancel_left]; exact hl
    obtain ⟨vs, h1, rr⟩ := s.obj _ a _ q e1
    unfold Rep
    refine ⟨a, vs, e, h1, ⟨fun m => ?_, fun m => (s.res a m).1 (List.mem_of_getElem? q)⟩, thaws_rep s hn t rr⟩
    have nd := s.nd
    rw [List.nodup_append] at nd
    rw [List.getElem?_append_right (by omega)] at q
    exact nd.2.2 a m a (List.mem_of_getElem? q) rfl
theorem thaws_rep (s : StOk g (A ++ B) (st ++ ext) H) (hn : A.length = st.length) : ∀ {ds es : List D} {vs : List V}, ThawL st.length ext ds es → Reps g (A ++ B) H ds vs → Reps g A H es vs
  | _, _, _, .nil, r => by rw [r.nil_inv]; exact .nil
  | _, _, _, .cons h t, r => by
    obtain ⟨v, ws, rfl, r1, r2⟩ := r.cons_inv
    exact .cons (thaw_rep s hn h r1) (thaws_rep s hn t r2)
end
mutual
/-- what stood in a store that is whole has no places beyond it -/
theorem rep_back {A' : List Addr} {H' : Hp} (hA : ∃ B, A' = A ++ B) : ∀ {d : D} {v w : V}, Rep g A H d v → Rep g A' H' d w → Rep g A H' d w
  | .non, _, _, _, r => r
  | .bl _, _, _, _, r => r
  | .int _, _, _, _, r => r
  | .str _, _, _, _, r => r
  | .kt _, _, _, _, r => by unfold Rep at r ⊢; exact r
  | .fn _, _, _, _, r => r
  | .scr _, _, _, _, r => by
    obtain ⟨B, hA⟩ := hA
    subst hA
    unfold Rep at r ⊢
    obtain ⟨a, e, q⟩ := r
    refine ⟨a, e, ?_⟩
    rcases q with ⟨q, n, n2⟩ | q
    · exact .inl ⟨q, fun m => n (List.mem_append_left _ m), n2⟩
    · exact .inr q
  | .tup ds, _, _, r0, r => by
    have hA' := hA
    obtain ⟨B, hA⟩ := hA
    subst hA
    unfold Rep at r r0 ⊢
    obtain ⟨a0, vs0, _, _, _, rr0⟩ := r0
    obtain ⟨a, vs, e, q, n, rr⟩ := r
    exact ⟨a, vs, e, q, fun m => n (List.mem_append_left _ m), reps_back hA' rr0 rr⟩
  | .lst ds, _, _, r0, r => by
    have hA' := hA
    obtain ⟨B, hA⟩ := hA
    subst hA
    unfold Rep at r r0 ⊢
    obtain ⟨a0, vs0, _, _, _, rr0⟩ := r0
    obtain ⟨a, vs, e, q, n, rr⟩ := r
    exact ⟨a, vs, e, q, ⟨fun m => n.1 (List.mem_append_left _ m), n.2⟩, reps_back hA' rr0 rr⟩
  | .loc l, _, _, r0, r => by
    obtain ⟨B, hA⟩ := hA
    subst hA
    unfold Rep at r r0 ⊢
    obtain ⟨a0, _, q0⟩ := r0
    obtain ⟨a, e, q⟩ := r
    exact ⟨a, e, by rw [List.getElem?_append_left (List.getElem?_eq_some_iff.mp q0).1] at q; exact q⟩
theorem reps_back {A' : List Addr} {H' : Hp} (hA : ∃ B, A' = A ++ B) : ∀ {ds : List D} {vs ws : List V}, Reps g A H ds vs → Reps g A' H' ds ws → Reps g A H' ds ws
  | [], _, _, _, r => by rw [r.nil_inv]; exact .nil
  | d :: ds, _, _, r0, r => by
    obtain ⟨v0, ws0, rfl, p0, p1⟩ := r0.cons_inv
    obtain ⟨v, ws, rfl, r1, r2⟩ := r.cons_inv
    exact .cons (rep_back hA p0 r1) (reps_back hA p1 r2)
end
theorem prd_back {κ : Type} {A' : List Addr} {H' : Hp} (hA : ∃ B, A' = A ++ B) : ∀ {kvs : List (κ × D)} {k1 k2 : List (κ × V)}, Paired (fun (p : κ × D) (q : κ × V) => p.1 = q.1 ∧ Rep g A H p.2 q.2) kvs k1 → Paired (fun (p : κ × D) (q : κ × V) => p.1 = q.1 ∧ Rep g A' H' p.2 q.2) kvs k2 → Paired (fun (p : κ × D) (q : κ × V) => p.1 = q.1 ∧ Rep g A H' p.2 q.2) kvs k2
  | _, _, _, .nil, .nil => .nil
  | _, _, _, .cons a t, .cons b u => .cons ⟨b.1, rep_back hA a.2 b.2⟩ (prd_back hA t u)
theorem obr_back {A' : List Addr} {H' : Hp} (hA : ∃ B, A' = A ++ B) {a a' : Addr} : ∀ {o : Ob}, ObR g A H a o → ObR g A' H' a' o → ObR g A H' a' o
  | .lst ds, ⟨_, _, r0⟩, ⟨vs, e, r⟩ => ⟨vs, e, reps_back hA r0 r⟩
  | .dk true kvs, ⟨_, _, r0, _⟩, ⟨kv', e, r, ko⟩ => ⟨kv', e, prd_back hA r0 r, ko⟩
  | .dk false kvs, ⟨_, _, r0, _⟩, ⟨kv', e, r, ko⟩ => ⟨kv', e, prd_back hA r0 r, ko⟩
  | .dt true kvs, ⟨_, _, r0, _⟩, ⟨kv', e, r, ko⟩ => ⟨kv', e, prd_back hA r0 r, ko⟩
  | .dt false kvs, ⟨_, _, r0, _⟩, ⟨kv', e, r, ko⟩ => ⟨kv', e, prd_back hA r0 r, ko⟩
  | .ins c fs, ⟨_, _, _, _, r0⟩, ⟨dx, vs, e, hl, r⟩ => ⟨dx, vs, e, hl, reps_back hA r0 r⟩
/-- back to the store that was there before, if it was left as it was -/
theorem StOk.back {A' : List Addr} {H' : Hp} (s : StOk g A st H) (x : Ext A H A' H') (s' : StOk g A' (st ++ ext) H') : StOk g A st H' ∧ Ext A H A H' := by
  obtain ⟨B, e⟩ := x.pre
  have e' := e
  subst e
  have hl := s.len
  refine ⟨⟨hl, s.nd, fun l a o e1 e2 => ?_, fun m hm => ?_⟩, ⟨⟨⟨[], by simp⟩, fun b o n q => ⟨n, (x.keep b o n q).2⟩⟩, x.frz⟩⟩
  · have h1 : l < A.length := (List.getElem?_eq_some_iff.mp e1).1
    have o' := s'.obj l a o (by rw [List.getElem?_append_left h1]; exact e1) (by rw [List.getElem?_append_left (by omega)]; exact e2)
    exact obr_back ⟨B, rfl⟩ (s.obj l a o e1 e2) o'
  · obtain ⟨n, u, q⟩ := s'.res m hm
    exact ⟨fun z => n (List.mem_append_left _ z), u, q⟩
end
/-- F', told of F: the same, what F made thrown away -/
def Fn.pure (F' F : Fn) : Prop := ∀ ds st, match F' ds st with
  | .bad => True
  | .exc c st' => st' = st ∧ ∃ ext, F ds st = .exc c (st ++ ext)
  | .ok e st' => st' = st ∧ ∃ ext d, F ds st = .ok d (st ++ ext) ∧ Thaw st.length ext d e
theorem spD_pure {g : Gh} {n : Nat} {F F' : Fn} (h : Fn.pure F' F) {vs : List V} {H : Hp} {Q : VK} {E : XK} (q : spD g n F' vs H Q E) : spD g n F vs H Q E := by
  obtain ⟨M, A, st, ds, s, r, l, q⟩ := q
  refine ⟨M, A, st, ds, s, r, l, ?_⟩
  have hh := h ds st
  cases e : F' ds st with
  | bad => rw [e] at q; exact q.elim
  | exc c st' =>
    rw [e] at hh q
    obtain ⟨rfl, ext, e2⟩ := hh
    rw [e2]
    intro A' H' dx x s'
    obtain ⟨s2, x2⟩ := s.back x s'
    exact q A H' dx x2 s2
  | ok d' st' =>
    rw [e] at hh q
    obtain ⟨rfl, ext, d, e2, t⟩ := hh
    rw [e2]
    intro A' v H' x s' r'
    obtain ⟨s2, x2⟩ := s.back x s'
    obtain ⟨B, eB⟩ := x.pre
    subst eB
    exact q A v H' x2 s2 (thaw_rep s' s.len t r')
theorem GFn.pure {P : Program} {w : World} {g : Gh} {mg : Str → Option Value} {base : Heap} {x : Str} {k n : Nat} {F F' : Fn} (G : GFn P w g mg base x k n F) (h : Fn.pure F' F) : GFn P w g mg base x k n F' := by
  obtain ⟨f, fd, ps, h1, h2, h3, h4⟩ := G.ex
  exact ⟨f, fd, ps, h1, h2, h3.imp fun vs H Q E q => spD_pure h q, h4⟩
end DL

/-! DL12: defs by the names of the top. -/
namespace DL
open PySem PySem.Spec PyProof.Rows L2

/-- the top's name x holds a def -/
structure DefOk (K : PySem.W.Frag) (mg : Str → Option Value) (x : Str) (st : Stmt) (ps : List Str) : Prop where
  ex : ∃ (f : Addr) (fd : FuncData), Fun K x x st f fd ∧ mg x = some (.ref f) ∧ Binds K fd ps []
theorem DefOk.mk' {K : PySem.W.Frag} {h : Heap} {mg : Str → Option Value} {f : Addr} {x : Str} {st : Stmt} {oc : Value} {od an : Option Addr} {osl : Array (Option Value)} {kV doc pm cdv ct : Value} {ps : List Str} (X : K.In h) (G : h.Ns mainGlobals mg) (a : PySem.W.nsIn K mainGlobals x = some (some (.ref f)))
    (l : K.lookup f = some ⟨oc, od, .func (PySem.W.fnOf x x (defArgs st) (defBody st) (defScope st) .none kV doc pm an cdv ct), osl⟩) (c : PySem.W.codeIn K cdv x = true) (k : PySem.W.keepIn K (.ref f) = true)
    (hb : ∀ (kV doc pm : Value) (an : Option Addr) (cdv ct : Value) (us : List Value), us.length = ps.length → bindArgs (PySem.W.fnOf x x (defArgs st) (defBody st) (defScope st) .none kV doc pm an cdv ct) ⟨us, []⟩ = pure (ps.zip us)) : DefOk K mg x st ps :=
  ⟨f, _, fun_mk l c k, PySem.W.mg_of X G a, (fun_mk l c k).binds hb⟩
section
variable {P : Program} {w : World} {g : Gh} {mg : Str → Option Value} {base : Heap}
theorem GFn.wm {x : Str} {k n : Nat} {F : Fn} (G : GFn P w g mg base x k n F) (M : List Addr) : GFn P w (g.wm M) mg base x k n F := ⟨G.ex⟩
theorem GFn.of {x : Str} {st : Stmt} {N ps : List Str} {k n nn : Nat} {b : DS} (F : DefOk g.K mg x st ps) (S : FnScope N ps (defScope st)) (hn : ps.length = n) (hnn : N.length = nn)
    (hbody : ∀ (f : Addr) (M : List Addr) (cdv : Value) (A : Around) (outer : List Env) (s : Shared) (H : Hp) (E : XK), Room k (A.deeper (envOfC x (defScope st) s.heap.objs.size f cdv)) →
      L2N.Takes (cxOf (L2N.CX P w) P w g.K mg base N x (defScope st) f cdv A outer s H E) (fun cls d _ H => E cls d H) →
      PassesOwn (model P w) (A.deeper (envOfC x (defScope st) s.heap.objs.size f cdv)) (envOfC x (defScope st) s.heap.objs.size f cdv) (cxOf (L2N.CX P w) P w g.K mg base N x (defScope st) f cdv A outer s H E).xe →
      PSs (cxOf (L2N.CX P w) P w g.K mg base N x (defScope st) f cdv A outer s H E) (defBody st) (tS (g.wm M) (fun cls d _ H => E cls d H) b)) : GFn P w g mg base x (k + 1) n (runF nn b) := by
  obtain ⟨f, fd, hF, hm, hb⟩ := F.ex
  exact ⟨f, fd, ps, hm, hF.kp, fn_rule hF S hn hnn (hbody f), hb⟩
end
section
variable {X : Cx} {g : Gh} {W : WX}
/-- a number of the top -/
def GInt (mg : Str → Option Value) (x : Str) (i : Int) : Prop := ∃ u, mg x = some u ∧ RelV (.int i) u
theorem de_gint {x : Str} {i : Int} {pos : Pos} (G : GInt X.mg x i) (hg : Gl X x) (hd : (x == ("__debug__" : Str)) = false) : PE X (.Name x pos) (tD g W (dC (.int i))) := by
  obtain ⟨u, hm, r⟩ := G
  exact de_const (pe_glob hg hm r hd) fun _ _ => rep_int i
theorem GInt.mk' {K : PySem.W.Frag} {h : Heap} {mg : Str → Option Value} {x : Str} {i : Int} {t : Tok} (X : K.In h) (G : h.Ns mainGlobals mg) (a : PySem.W.nsIn K mainGlobals x = some (some (.int i t))) : GInt mg x i := ⟨_, PySem.W.mg_of X G a, t, rfl⟩
theorem uu {k : Nat} {A : Around} (hr : Room k A) : A.units + 64 < cLine := by have := hr.un; omega
theorem uu1 {k : Nat} {A : Around} (hr : Room k A) : A.units + 1 < cLine := by have := hr.un; omega
theorem uu0 {k : Nat} {A : Around} (hr : Room k A) : A.units < cLine := by have := hr.un; omega
end
end DL

/-! DL13: what is walked, whatever it is. -/
namespace DL
open PySem PySem.Spec PyProof.Rows L2
section
variable {X : Cx} {tg : Expr}
def iAny (K : PySem.W.Frag) (tl : TE) : TI := fun σ H R => tl σ H fun x H1 => (∃ a, x = .ref a ∧ (∃ xs, SqL K H1 a xs) ∧ R (Itl K a) H1) ∨ (∃ a, x = .ref a ∧ (∃ xs, SqT K H1 a xs) ∧ R (Itt K a) H1) ∨ ∃ z, x = .str z ∧ R (Its z) H1
theorem pi_any {l : Expr} {tl : TE} (hl : PE X l tl) : PI X tg l (iAny X.K tl) := by
  refine ⟨fun pins s σ H R I h => ?_⟩
  refine thn (hl.run pins s σ H _ I h) fun v s1 ⟨x, H1, I1, r1, q1⟩ => ?_
  have new : ∀ b ∈ [s1.heap.objs.size], FpOk X pins H1 b := fun b hb => by
    have e : b = s1.heap.objs.size := by simpa using hb
    rw [e]
    exact I1.fpOk (Nat.le_refl _) (I1.hok.fresh (Nat.le_refl _))
  rcases q1 with ⟨a, e, ⟨xs, hq⟩, q⟩ | ⟨a, e, ⟨xs, hq⟩, q⟩ | ⟨z, e, q⟩
  · subst e
    cases r1
    obtain ⟨its, rv, p, hz⟩ := I1.list hq
    exact wpAny_pyIter_list p.isList ⟨s1.heap.objs.size, [s1.heap.objs.size], _, _, H1, rfl, I1.kept (t' := s1.toks) fun b o e => Heap.get?_push_of_some _ e, turn_list a _, ⟨_, Heap.get?_push_size _ rfl, rfl, rfl⟩, new, q⟩
  · subst e
    cases r1
    obtain ⟨its, rv, p, hz⟩ := I1.tuple hq
    exact wpAny_pyIter_tuple (show s1.heap.IsTuple a its.toArray from p) ⟨s1.heap.objs.size, [s1.heap.objs.size], _, _, H1, rfl, I1.kept (t' := s1.toks) fun b o e => Heap.get?_push_of_some _ e, turn_tuple a _, ⟨_, Heap.get?_push_size _ rfl, rfl, rfl⟩, new, q⟩
  · subst e
    obtain ⟨t, rfl⟩ := r1
    cases ha : z.cps.all (· < 128)
    · exact wpAny_pyIter_wide ha (pi_one (tk := s1.toks) I1 _ (turn_str _ z t "str_iterator" (.inr rfl)) ⟨_, Heap.get?_push_size _ rfl, rfl, rfl⟩ q)
    · exact wpAny_pyIter_ascii ha (pi_one (tk := s1.toks) I1 _ (turn_str _ z t "str_ascii_iterator" (.inl rfl)) ⟨_, Heap.get?_push_size _ rfl, rfl, rfl⟩ q)
end
section
variable {X : Cx} {g : Gh} {W : WX}
def asAny : D → Sto → Rs (List D)
  | .lst ds, st => .ok ds st
  | .tup ds, st => .ok ds st
  | .str z, st => .ok (signs z) st
  | .scr ns, st => .ok (ns.map D.int) st
  | _, _ => .bad
def dIterA (f : DE) : DA := fun env st => (f env st).bind asAny
theorem yields_scr {A : List Addr} {H : Hp} {ns : List Int} {a : Addr} (h : (Rd H a (.lst (ns.map V.int)) ∧ a ∉ A ∧ a ∉ g.M) ∨ KLst g.K a (ns.map V.int)) : Yields g (Itl g.K a) A H (ns.map D.int) := fun i M A2 H2 st x hM s => by
  have h2 : SqL g.K H2 a (ns.map V.int) := by
    rcases h with ⟨h, n, _⟩ | h
    · exact .inl (x.rd h n).1
    · exact .inr h
  refine ⟨fun hi => ⟨⟨_, (ns.map V.int)[i]'(by simpa using hi), h2, by simp⟩, fun v H' y => ?_⟩, fun hi => ⟨_, h2, by simpa using hi⟩⟩
  obtain ⟨e, y⟩ := y
  subst e
  have e := y _ h2
  rw [List.getElem?_map] at e
  obtain ⟨n, e1, e2⟩ := Option.map_eq_some_iff.mp e
  exact ⟨.int n, by rw [List.getElem?_map, e1]; rfl, .refl _ _, s, by rw [← e2]; exact rep_int n⟩
theorem rep_scr_inv' {A : List Addr} {H : Hp} {ns : List Int} {v : V} (r : Rep g A H (.scr ns) v) : ∃ a, v = .ref a ∧ ((Rd H a (.lst (ns.map V.int)) ∧ a ∉ A ∧ a ∉ g.M) ∨ KLst g.K a (ns.map V.int)) := by
  unfold Rep at r; exact r
theorem di_any {tg e : Expr} {f : DE} (hK : g.K = X.K) (he : PE X e (tD g W f)) : PI X tg e (tY g W (dIterA f)) :=
  pi_imp (pi_any he) fun σ H R q => tY.of (rel := Rep g) (fun _ _ => rfl) (fun A d st1 v H1 s r => by
    unfold asAny
    cases d with
    | lst ds =>
      refine ⟨fun _ _ e => by cases e; rfl, fun ds' e k => ?_, fun _ _ e => (nomatch e)⟩
      cases e
      obtain ⟨a, vs, rfl, h, na, rr⟩ := rep_lst_inv r
      exact .inl ⟨a, rfl, ⟨vs, SqL.of h⟩, k _ (hK ▸ yields_lst h na rr)⟩
    | tup ds =>
      refine ⟨fun _ _ e => by cases e; rfl, fun ds' e k => ?_, fun _ _ e => (nomatch e)⟩
      cases e
      obtain ⟨a, vs, rfl, h, na, rr⟩ := rep_tup_inv' r
      exact .inr (.inl ⟨a, rfl, ⟨vs, SqT.of h⟩, k _ (hK ▸ yields_tup h na rr)⟩)
    | str z =>
      refine ⟨fun _ _ e => by cases e; rfl, fun ds' e k => ?_, fun _ _ e => (nomatch e)⟩
      cases e
      obtain ⟨rfl, ok⟩ := rep_str_inv r
      exact .inr (.inr ⟨z, rfl, k _ (yields_str ok)⟩)
    | scr ns =>
      refine ⟨fun _ _ e => by cases e; rfl, fun ds' e k => ?_, fun _ _ e => (nomatch e)⟩
      cases e
      obtain ⟨a, rfl, h⟩ := rep_scr_inv' r
      refine .inl ⟨a, rfl, ⟨ns.map V.int, ?_⟩, k _ (hK ▸ yields_scr h)⟩
      rw [← hK]
      rcases h with ⟨h, _⟩ | h
      · exact .inl h
      · exact .inr h
    | _ => exact ⟨fun _ _ e => (nomatch e), fun _ e => (nomatch e), fun _ _ e => (nomatch e)⟩) q
end
end DL

/-! DL14: the end. -/
namespace DL
open PySem PySem.Spec PyProof.Rows L2

/-- the ghost of the top: no class, no def as a value -/
def gh0 (K : PySem.W.Frag) : Gh := ⟨K, fun _ => 0, fun _ => 0, fun _ => [], []⟩
/-- what a law's script may be -/
def Scr (ns : List Int) : Prop := ns.length ≤ 63 ∧ ∀ z ∈ ns, Builtin.Int.intBits z ≤ 1048576
def LawF (P : Program) (w : World) (g : Gh) (mg : Str → Option Value) (base : Heap) (k : Nat) (fa : Addr) (fd : FuncData) (x : Str) (F : Fn) : Prop := FnOk P w g.K mg base (L2N.CX P w) k fa fd [x] (spD g 1 F)
theorem walk_end {l : PySem.W.OpenLaw} {q : Program} {loose : List Str} {XP : (Str → Option Value) → Heap → Prop} {YP : World → Heap → Prop} {d : DefRec} {K : Params → PySem.W.Frag} {k : Nat} {x : Str} {F : Fn} (gh : PySem.W.Frag → Gh) (hK : ∀ K, (gh K).K = K) (hn : l.most = some 63) (hdf : d.params.defaults = [])
    (hr : Room k callerA) (hY : ∀ (w : World) (h : Heap), YP w h → (K w.params).In h)
    (hF : ∀ (w : World) (mg : Str → Option Value) (fa : Addr) (h : Heap), (K w.params).In h → h.Ns mainGlobals mg → mg d.name = some (.ref fa) →
      ∃ fd : FuncData, (∀ (s : Shared) (u : Value), BindsTo s fd ⟨[u], []⟩ [(x, u)]) ∧ ∀ base : Heap, (K w.params).In base → base.Ns mainGlobals mg → LawF l.prog w (gh (K w.params)) mg base k fa fd x F)
    (hlaw : ∀ ns : List Int, Scr ns → ∃ st, F [.scr ns] [] = .ok (.bl true) st) : PySem.W.WalkO q loose XP YP l.row.toRowW d [] (fun f vs => PySem.call f vs) :=
  L2.walk_ofB (n := 63) (k := k) (x := x) (CX := fun w => L2N.CX l.prog w) (sp := fun w => spD (gh (K w.params)) 1 F) hn (by decide) hdf hr hY
    (fun w mg fa h KX G hmg => by
      obtain ⟨fd, h1, h2⟩ := hF w mg fa h KX G hmg
      refine ⟨fd, h1, fun base b1 b2 => ?_⟩
      have := h2 base b1 b2
      unfold LawF at this
      rw [hK] at this
      exact this)
    (fun w H a ns hl hb hO hS => by
      obtain ⟨st, e⟩ := hlaw ns ⟨hl, hb⟩
      refine ⟨[], [], [], [.scr ns], ⟨rfl, .nil, fun l a o e1 _ => by simp at e1, fun m hm => by cases hm⟩, .cons ?_ .nil, rfl, ?_⟩
      · unfold Rep
        refine ⟨a, rfl, ?_⟩
        rw [show ((gh (K w.params)).wm []).K = K w.params from hK _]
        rcases hS with hS | hS
        · exact .inl ⟨hS, by simp, by simp⟩
        · exact .inr hS
      · rw [e]
        exact fun A' v H' _ _ r => rep_bl_inv r)
    fun _ _ _ _ _ ⟨_, _, _, _, _, _, _, _, _, _, _, _, z⟩ => z
end DL

/-! DL15: what the denotations come to: the words for the plain part. -/
namespace DL
open PySem PySem.Spec PyProof.Rows L2

/-! ### the same, what was made thrown away -/
mutual
theorem thaw_fun {n : Nat} {ext : Sto} : ∀ {d e e' : D}, Thaw n ext d e → Thaw n ext d e' → e = e'
  | _, _, _, .non, h => by cases h; rfl
  | _, _, _, .bl _, h => by cases h; rfl
  | _, _, _, .int _, h => by cases h; rfl
  | _, _, _, .str _, h => by cases h; rfl
  | _, _, _, .kt _, h => by cases h; rfl
  | _, _, _, .fn _, h => by cases h; rfl
  | _, _, _, .scr _, h => by cases h; rfl
  | _, _, _, .tup t, h => by cases h with | tup t' => rw [thawl_fun t t']
  | _, _, _, .lst t, h => by cases h with | lst t' => rw [thawl_fun t t']
  | _, _, _, .loc hl, h => by
    generalize hd : D.loc _ = d at h
    cases h with
    | loc _ => rfl
    | new hl' t' => injection hd with hd; omega
    | _ => cases hd
  | _, _, _, .new (l := l) hl t, h => by
    generalize hd : D.loc (n + l) = d at h
    cases h with
    | loc h2 => injection hd with hd; omega
    | new hl' t' =>
      injection hd with hd
      have e : l = _ := Nat.add_left_cancel hd
      subst e
      rw [hl] at hl'
      cases hl'
      rw [thawl_fun t t']
    | _ => cases hd
theorem thawl_fun {n : Nat} {ext : Sto} : ∀ {d e e' : List D}, ThawL n ext d e → ThawL n ext d e' → e = e'
  | _, _, _, .nil, h => by cases h; rfl
  | _, _, _, .cons a t, h => by cases h with | cons a' t' => rw [thaw_fun a a', thawl_fun t t']
end
mutual
/-- no place in it at n or above -/
def noLoc (n : Nat) : D → Bool
  | .loc l => decide (l < n)
  | .tup ds => noLocs n ds
  | .lst ds => noLocs n ds
  | _ => true
def noLocs (n : Nat) : List D → Bool
  | [] => true
  | d :: ds => noLoc n d && noLocs n ds
end
mutual
theorem thaw_self {n : Nat} {ext : Sto} : ∀ {d : D}, noLoc n d = true → Thaw n ext d d
  | .non, _ => .non
  | .bl _, _ => .bl _
  | .int _, _ => .int _
  | .str _, _ => .str _
  | .kt _, _ => .kt _
  | .fn _, _ => .fn _
  | .scr _, _ => .scr _
  | .loc l, h => .loc (by unfold noLoc at h; exact of_decide_eq_true h)
  | .tup ds, h => .tup (thawl_self (by unfold noLoc at h; exact h))
  | .lst ds, h => .lst (thawl_self (by unfold noLoc at h; exact h))
theorem thawl_self {n : Nat} {ext : Sto} : ∀ {ds : List D}, noLocs n ds = true → ThawL n ext ds ds
  | [], _ => .nil
  | d :: ds, h => by
    unfold noLocs at h
    rw [Bool.and_eq_true] at h
    exact .cons (thaw_self h.1) (thawl_self h.2)
end
open Classical in
noncomputable def Fn.clean (F : Fn) : Fn := fun ds st => match F ds st with
  | .bad => .bad
  | .exc c st' => if ∃ ext, st' = st ++ ext then .exc c st else .bad
  | .ok d st' => if h : ∃ e ext, st' = st ++ ext ∧ Thaw st.length ext d e then .ok h.choose st else .bad
theorem Fn.clean_pure (F : Fn) : Fn.pure (Fn.clean F) F := fun ds st => by
  unfold Fn.clean
  cases e : F ds st with
  | bad => trivial
  | exc c st' =>
    dsimp only
    by_cases h : ∃ ext, st' = st ++ ext
    · rw [if_pos h]
      obtain ⟨ext, e2⟩ := h
      exact ⟨rfl, ext, by rw [e2]⟩
    · rw [if_neg h]
      trivial
  | ok d st' =>
    dsimp only
    by_cases h : ∃ e ext, st' = st ++ ext ∧ Thaw st.length ext d e
    · rw [dif_pos h]
      obtain ⟨ext, e2, t⟩ := h.choose_spec
      exact ⟨rfl, ext, d, by rw [e2], t⟩
    · rw [dif_neg h]
      trivial
theorem Fn.clean_ok {F : Fn} {ds : List D} {st ext : Sto} {d e : D} (h : F ds st = .ok d (st ++ ext)) (t : Thaw st.length ext d e) : Fn.clean F ds st = .ok e st := by
  unfold Fn.clean
  rw [h]
  dsimp only
  have hh : ∃ e' ext', st ++ ext = st ++ ext' ∧ Thaw st.length ext' d e' := ⟨e, ext, rfl, t⟩
  rw [dif_pos hh]
  obtain ⟨ext', e2, t2⟩ := hh.choose_spec
  have e3 := List.append_cancel_left e2
  subst e3
  rw [thaw_fun t2 t]
theorem Fn.clean_same {F : Fn} {ds : List D} {st : Sto} {d : D} (h : F ds st = .ok d st) (hn : noLoc st.length d = true) : Fn.clean F ds st = .ok d st :=
  Fn.clean_ok (ext := []) (by rw [List.append_nil]; exact h) (thaw_self hn)
theorem Fn.clean_exc {F : Fn} {ds : List D} {st ext : Sto} {c : Nat} (h : F ds st = .exc c (st ++ ext)) : Fn.clean F ds st = .exc c st := by
  unfold Fn.clean
  rw [h]
  dsimp only
  rw [if_pos ⟨ext, rfl⟩]

/-! ### one step each -/
def SR.seq (r : SR) (k : DS) : SR := match r with
  | .nx e st => k e st
  | .rt d st => .rt d st
  | .bk e st => .bk e st
  | .ct e st => .ct e st
  | .exc c e st => .exc c e st
  | .bad => .bad
@[simp] theorem seq_nx (e : En) (st : Sto) (k : DS) : SR.seq (.nx e st) k = k e st := nrfl rfl
@[simp] theorem seq_rt (d : D) (st : Sto) (k : DS) : SR.seq (.rt d st) k = .rt d st := nrfl rfl
@[simp] theorem seq_bk (e : En) (st : Sto) (k : DS) : SR.seq (.bk e st) k = .bk e st := nrfl rfl
@[simp] theorem seq_ct (e : En) (st : Sto) (k : DS) : SR.seq (.ct e st) k = .ct e st := nrfl rfl
@[simp] theorem seq_exc (c : Nat) (e : En) (st : Sto) (k : DS) : SR.seq (.exc c e st) k = .exc c e st := nrfl rfl
@[simp] theorem dSeq_def (f k : DS) (env : En) (st : Sto) : dSeq f k env st = SR.seq (f env st) k := by
  unfold dSeq SR.seq
  cases f env st <;> rfl
def SR.fin (r : SR) : Rs D := match r with
  | .nx _ st => .ok .non st
  | .rt d st => .ok d st
  | .exc c _ st => .exc c st
  | _ => .bad
@[simp] theorem fin_nx (e : En) (st : Sto) : SR.fin (.nx e st) = .ok .non st := nrfl rfl
@[simp] theorem fin_rt (d : D) (st : Sto) : SR.fin (.rt d st) = .ok d st := nrfl rfl
@[simp] theorem fin_exc (c : Nat) (e : En) (st : Sto) : SR.fin (.exc c e st) = .exc c st := nrfl rfl
@[simp] theorem runF_def (nn : Nat) (b : DS) (ds : List D) (st : Sto) : runF nn b ds st = SR.fin (b (ds.map some ++ List.replicate (nn - ds.length) none) st) := by
  unfold runF SR.fin
  cases b (ds.map some ++ List.replicate (nn - ds.length) none) st <;> rfl
@[simp] theorem dNext_def (env : En) (st : Sto) : dNext env st = .nx env st := nrfl rfl
@[simp] theorem dBreak_def (env : En) (st : Sto) : dBreak env st = .bk env st := nrfl rfl
@[simp] theorem dCont_def (env : En) (st : Sto) : dCont env st = .ct env st := nrfl rfl
@[simp] theorem dExpr_def (f : DE) (env : En) (st : Sto) : dExpr f env st = (f env st).thn env fun _ st => .nx env st := nrfl rfl
@[simp] theorem dRet_def (f : DE) (env : En) (st : Sto) : dRet f env st = (f env st).thn env fun d st => .rt d st := nrfl rfl
@[simp] theorem dRetN_def (env : En) (st : Sto) : dRetN env st = .rt .non st := nrfl rfl
@[simp] theorem dIfS_def (t : DT) (f k : DS) (env : En) (st : Sto) : dIfS t f k env st = (t env st).thn env fun c st => if c = true then f env st else k env st := nrfl rfl
@[simp] theorem dSetN_def (i : Nat) (f : DE) (env : En) (st : Sto) : dSet (tgN i) f env st = (f env st).thn env fun d st => .nx (env.set i (some d)) st := nrfl rfl
@[simp] theorem dFor_def (src : DA) (tg : Tg) (b : DS) (env : En) (st : Sto) : dFor src tg b env st = (src env st).thn env fun ds st => loopL tg b ds env st := nrfl rfl
@[simp] theorem dC_def (d : D) (env : En) (st : Sto) : dC d env st = .ok d st := nrfl rfl
@[simp] theorem dV_def {i : Nat} {env : En} {st : Sto} {d : D} (h : env[i]? = some (some d)) : dV i env st = .ok d st := by
  unfold dV; rw [h]
@[simp] theorem runL_nil (env : En) (st : Sto) : runL [] env st = .ok [] st := nrfl rfl
@[simp] theorem runL_cons (f : DE) (fs : List DE) (env : En) (st : Sto) : runL (f :: fs) env st = (f env st).bind fun d st => (runL fs env st).bind fun ds st => .ok (d :: ds) st := nrfl rfl
@[simp] theorem dTup_def (fs : List DE) (env : En) (st : Sto) : dTup fs env st = (runL fs env st).bind fun ds st => .ok (.tup ds) st := nrfl rfl
@[simp] theorem dLst_def (fs : List DE) (env : En) (st : Sto) : dLst fs env st = (runL fs env st).bind fun ds st => .ok (.lst ds) st := nrfl rfl
@[simp] theorem dLstM_def (fs : List DE) (env : En) (st : Sto) : dLstM fs env st = (runL fs env st).bind fun ds st => .ok (.loc st.length) (st ++ [.lst ds]) := nrfl rfl
@[simp] theorem dB_def (h : D → D → Sto → Rs D) (f k : DE) (env : En) (st : Sto) : dB h f k env st = (f env st).bind fun x st => (k env st).bind fun y st => h x y st := nrfl rfl
@[simp] theorem dU_def (h : D → Sto → Rs D) (f : DE) (env : En) (st : Sto) : dU h f env st = (f env st).bind h := nrfl rfl
@[simp] theorem dCall_def (F : Fn) (fs : List DE) (env : En) (st : Sto) : dCall F fs env st = (runL fs env st).bind F := nrfl rfl
@[simp] theorem dMeth_def (chk : Sto → D → Bool) (h : D → List D → Sto → Rs D) (f : DE) (fs : List DE) (env : En) (st : Sto) : dMeth chk h f fs env st = (f env st).bind fun x st => if chk st x = true then (runL fs env st).bind fun ds st => h x ds st else .bad := nrfl rfl
@[simp] theorem dTest_def (f : DE) (env : En) (st : Sto) : dTest f env st = (f env st).bind asB := nrfl rfl
@[simp] theorem asB_bl (b : Bool) (st : Sto) : asB (.bl b) st = .ok b st := nrfl rfl
@[simp] theorem dAnd_def (t u : DT) (env : En) (st : Sto) : dAnd t u env st = (t env st).bind fun c st => if c = true then u env st else .ok false st := nrfl rfl
@[simp] theorem dOr_def (t u : DT) (env : En) (st : Sto) : dOr t u env st = (t env st).bind fun c st => if c = true then .ok true st else u env st := nrfl rfl
@[simp] theorem dNot_def (t : DT) (env : En) (st : Sto) : dNot t env st = (t env st).bind fun c st => .ok (!c) st := nrfl rfl
def andV (k : Rs D) : D → Sto → Rs D
  | .bl true, _ => k
  | .bl false, st => .ok (.bl false) st
  | _, _ => .bad
@[simp] theorem dAndV_def (f k : DE) (env : En) (st : Sto) : dAndV f k env st = (f env st).bind fun c st => match c with
  | .bl true => k env st
  | .bl false => .ok (.bl false) st
  | _ => .bad := nrfl rfl
@[simp] theorem dOrV_def (f k : DE) (env : En) (st : Sto) : dOrV f k env st = (f env st).bind fun c st => match c with
  | .bl true => .ok (.bl true) st
  | .bl false => k env st
  | _ => .bad := nrfl rfl
theorem dAndV_of {f k : DE} {env : En} {st st1 st2 : Sto} {a b : Bool} (h : f env st = .ok (.bl a) st1) (h2 : k env st1 = .ok (.bl b) st1) : dAndV f k env st = .ok (.bl (a && b)) st1 := by
  rw [dAndV_def, h, Rs.bind_ok]
  cases a
  · rfl
  · exact h2
@[simp] theorem dNotV_def (f : DE) (env : En) (st : Sto) : dNotV f env st = (f env st).bind notB := nrfl rfl
@[simp] theorem notB_bl (b : Bool) (st : Sto) : notB (.bl b) st = .ok (.bl (!b)) st := nrfl rfl
@[simp] theorem dIf_def (t : DT) (f k : DE) (env : En) (st : Sto) : dIf t f k env st = (t env st).bind fun c st => if c = true then f env st else k env st := nrfl rfl
@[simp] theorem dSl_def (f : DE) (l h : DO) (env : En) (st : Sto) : dSl f l h env st = (f env st).bind fun x st => (l env st).bind fun a st => (h env st).bind fun b st => slD x a b st := nrfl rfl
@[simp] theorem dNoPart_def (env : En) (st : Sto) : dNoPart env st = .ok none st := nrfl rfl
@[simp] theorem dPart_def (f : DE) (env : En) (st : Sto) : dPart f env st = (f env st).bind asI := nrfl rfl
@[simp] theorem asI_int (i : Int) (st : Sto) : asI (.int i) st = .ok (some i) st := nrfl rfl
@[simp] theorem dIterA_def (f : DE) (env : En) (st : Sto) : dIterA f env st = (f env st).bind asAny := nrfl rfl
@[simp] theorem asAny_lst (ds : List D) (st : Sto) : asAny (.lst ds) st = .ok ds st := nrfl rfl
@[simp] theorem asAny_tup (ds : List D) (st : Sto) : asAny (.tup ds) st = .ok ds st := nrfl rfl
@[simp] theorem dIterR_def (f : DE) (env : En) (st : Sto) : dIterR f env st = (f env st).bind asR := nrfl rfl
@[simp] theorem asR_ok {j : Int} {st : Sto} (h : j < 1000000) (h2 : -1000000 ≤ j) : asR (.int j) st = .ok (rngD j.toNat) st := by
  exact if_pos ⟨by omega, by omega⟩
@[simp] theorem if_true_r {α : Type} (a b : α) : (if (true : Bool) = true then a else b) = a := nrfl rfl
@[simp] theorem if_false_r {α : Type} (a b : α) : (if (false : Bool) = true then a else b) = b := nrfl rfl

/-! arithmetic -/
@[simp] theorem addD_int (i j : Int) (st : Sto) : addD (.int i) (.int j) st = .ok (.int (i + j)) st := nrfl rfl
@[simp] theorem subI_int (i j : Int) (st : Sto) : subI (.int i) (.int j) st = .ok (.int (i - j)) st := nrfl rfl
@[simp] theorem mulD_int {i j : Int} {st : Sto} (h : i.natAbs.log2 + j.natAbs.log2 < 100000000) : mulD (.int i) (.int j) st = .ok (.int (i * j)) st := by
  exact if_pos h
@[simp] theorem divI_int {i j : Int} {st : Sto} (h : 0 < j) (h2 : j.natAbs.log2 < 9000) : divI (.int i) (.int j) st = .ok (.int (i / j)) st := by
  exact if_pos ⟨h, h2⟩
@[simp] theorem modI_int {i j : Int} {st : Sto} (h : 0 < j) : modI (.int i) (.int j) st = .ok (.int (i % j)) st := by
  exact if_pos h
@[simp] theorem powI_int {i j : Int} {st : Sto} (h : 0 ≤ j) (h2 : j ≤ 1000000) (h3 : i.natAbs < 2 ^ 64) : powI (.int i) (.int j) st = .ok (.int (i ^ j.toNat)) st := by
  exact if_pos ⟨h, h2, h3⟩
@[simp] theorem shlI_int {i j : Int} {st : Sto} (h : 0 ≤ j) (h2 : j ≤ 1000000) (h3 : i.natAbs < 2 ^ 64) : shlI (.int i) (.int j) st = .ok (.int (i * 2 ^ j.toNat)) st := by
  exact if_pos ⟨h, h2, h3⟩
theorem addD_str {a b : Str} {st : Sto} (h : a.length + b.length ≤ 16777216) : addD (.str a) (.str b) st = .ok (.str (a ++ b)) st := by
  exact if_pos h
theorem addD_tup {a b : List D} {st : Sto} (h : a.length + b.length ≤ 16777216) : addD (.tup a) (.tup b) st = .ok (.tup (a ++ b)) st := by
  exact if_pos h
theorem addD_lst {a b : List D} {st : Sto} (h : a.length + b.length ≤ 16777216) : addD (.lst a) (.lst b) st = .ok (.lst (a ++ b)) st := by
  exact if_pos h
/-! order -/
@[simp] theorem ltD_int (i j : Int) (st : Sto) : ltD (.int i) (.int j) st = .ok (.bl (decide (i < j))) st := nrfl rfl
@[simp] theorem leD_int (i j : Int) (st : Sto) : leD (.int i) (.int j) st = .ok (.bl (decide (i ≤ j))) st := nrfl rfl
@[simp] theorem gtD_int (i j : Int) (st : Sto) : gtD (.int i) (.int j) st = .ok (.bl (decide (j < i))) st := nrfl rfl
@[simp] theorem geD_int (i j : Int) (st : Sto) : geD (.int i) (.int j) st = .ok (.bl (decide (j ≤ i))) st := nrfl rfl
/-! places -/
theorem ixD_lst {ds : List D} {i : Int} {d : D} {st : Sto} (h : atI ds i = some d) : ixD (.lst ds) (.int i) st = .ok d st := by
  show (match atI ds i with
    | some d => Rs.ok d st
    | none => .bad) = _
  rw [h]
theorem ixD_tup {ds : List D} {i : Int} {d : D} {st : Sto} (h : atI ds i = some d) : ixD (.tup ds) (.int i) st = .ok d st := by
  show (match atI ds i with
    | some d => Rs.ok d st
    | none => .bad) = _
  rw [h]
theorem atI_of {α : Type} {xs : List α} {i : Int} (h : 0 ≤ i) (h2 : i.toNat < xs.length) : atI xs i = xs[i.toNat]? := by
  unfold atI ixN
  rw [if_pos h, if_pos (by omega)]
  rfl
theorem atI_nat' {α : Type} {xs : List α} (n : Nat) (h : n < xs.length) : atI xs (n : Int) = xs[n]? := by
  rw [atI_of (by omega) (by simpa using h)]
  simp
/-! comprehensions -/
theorem dComp_def (vs : List Nat) (src : DA) (tg : Tg) (t : DT) (f : DE) (env : En) (st : Sto) : dComp vs src tg t f env st = (src env st).bind fun ds st => (compL tg t f (wipeE env vs) ds st).bind fun ys st => if ys.length ≤ 1000000 then .ok (.lst ys) st else .bad := nrfl rfl
theorem compN_cons (i : Nat) (t : DT) (f : DE) (env : En) (d : D) (ds : List D) (st : Sto) : compL (tgN i) t f env (d :: ds) st = (noX (t (env.set i (some d)) st)).bind fun c st => if c = true then (noX (f (env.set i (some d)) st)).bind fun y st => (compL (tgN i) t f env ds st).bind fun ys st => .ok (y :: ys) st else compL (tgN i) t f env ds st := by
  conv => lhs; unfold compL
  rfl
theorem compL_map {i : Nat} {f : DE} {env : En} {st : Sto} {α : Type} (enc : α → D) (h : α → D) : ∀ (as : List α), (∀ a ∈ as, f (env.set i (some (enc a))) st = .ok (h a) st) → compL (tgN i) dYes f env (as.map enc) st = .ok (as.map h) st
  | [], _ => rfl
  | a :: as, hh => by
    have e := hh a List.mem_cons_self
    have ih := compL_map enc h as fun b hb => hh b (List.mem_cons_of_mem _ hb)
    rw [List.map_cons, compN_cons, show dYes (env.set i (some (enc a))) st = .ok true st from rfl, noX_ok, Rs.bind_ok, if_pos rfl, e, noX_ok, Rs.bind_ok, ih]
    rfl
theorem compL_filter {i : Nat} {t : DT} {f : DE} {env : En} {st : Sto} {α : Type} (enc : α → D) (p : α → Bool) (h : α → D) : ∀ (as : List α), (∀ a ∈ as, t (env.set i (some (enc a))) st = .ok (p a) st) → (∀ a ∈ as, p a = true → f (env.set i (some (enc a))) st = .ok (h a) st) →
    compL (tgN i) t f env (as.map enc) st = .ok ((as.filter p).map h) st
  | [], _, _ => rfl
  | a :: as, ht, hf => by
    have ih := compL_filter (f := f) enc p h as (fun b hb => ht b (List.mem_cons_of_mem _ hb)) fun b hb => hf b (List.mem_cons_of_mem _ hb)
    rw [List.map_cons, compN_cons, ht a List.mem_cons_self, noX_ok, Rs.bind_ok]
    cases hp : p a with
    | false => rw [if_neg Bool.false_ne_true, ih, List.filter_cons_of_neg (by simp [hp])]
    | true =>
      rw [if_pos rfl, hf a List.mem_cons_self hp, noX_ok, Rs.bind_ok, ih, List.filter_cons_of_pos hp]
      rfl
theorem dComp_of {vs : List Nat} {src : DA} {tg : Tg} {t : DT} {f : DE} {env : En} {st st1 : Sto} {ds ys : List D} (h1 : src env st = .ok ds st1) (h2 : compL tg t f (wipeE env vs) ds st1 = .ok ys st1) (h3 : ys.length ≤ 1000000) : dComp vs src tg t f env st = .ok (.lst ys) st1 := by
  rw [dComp_def, h1, Rs.bind_ok, h2, Rs.bind_ok, if_pos h3]
theorem dCompM_of {vs : List Nat} {src : DA} {tg : Tg} {t : DT} {f : DE} {env : En} {st st1 : Sto} {ds ys : List D} (h1 : src env st = .ok ds st1) (h2 : compL tg t f (wipeE env vs) ds st1 = .ok ys st1) (h3 : ys.length ≤ 1000000) : dCompM vs src tg t f env st = .ok (.loc st1.length) (st1 ++ [.lst ys]) := by
  unfold dCompM
  rw [h1, Rs.bind_ok, h2, Rs.bind_ok, if_pos h3]
/-! loops -/
theorem loopL_nil (tg : Tg) (b : DS) (env : En) (st : Sto) : loopL tg b [] env st = .nx env st := rfl
theorem loopN_nx {i : Nat} {b : DS} {d : D} {ds : List D} {env e : En} {st s : Sto} (h : b (env.set i (some d)) st = .nx e s) : loopL (tgN i) b (d :: ds) env st = loopL (tgN i) b ds e s := by
  show (match b (env.set i (some d)) st with
      | .nx e s => loopL (tgN i) b ds e s
      | .ct e s => loopL (tgN i) b ds e s
      | .bk e s => .nx e s
      | .rt d s => .rt d s
      | .exc c e s => .exc c e s
      | .bad => .bad) = _
  rw [h]
theorem loopN_ct {i : Nat} {b : DS} {d : D} {ds : List D} {env e : En} {st s : Sto} (h : b (env.set i (some d)) st = .ct e s) : loopL (tgN i) b (d :: ds) env st = loopL (tgN i) b ds e s := by
  show (match b (env.set i (some d)) st with
      | .nx e s => loopL (tgN i) b ds e s
      | .ct e s => loopL (tgN i) b ds e s
      | .bk e s => .nx e s
      | .rt d s => .rt d s
      | .exc c e s => .exc c e s
      | .bad => .bad) = _
  rw [h]
theorem loopN_bk {i : Nat} {b : DS} {d : D} {ds : List D} {env e : En} {st s : Sto} (h : b (env.set i (some d)) st = .bk e s) : loopL (tgN i) b (d :: ds) env st = .nx e s := by
  show (match b (env.set i (some d)) st with
      | .nx e s => loopL (tgN i) b ds e s
      | .ct e s => loopL (tgN i) b ds e s
      | .bk e s => .nx e s
      | .rt d s => .rt d s
      | .exc c e s => .exc c e s
      | .bad => .bad) = _
  rw [h]
theorem loopN_rt {i : Nat} {b : DS} {d x : D} {ds : List D} {env : En} {st s : Sto} (h : b (env.set i (some d)) st = .rt x s) : loopL (tgN i) b (d :: ds) env st = .rt x s := by
  show (match b (env.set i (some d)) st with
      | .nx e s => loopL (tgN i) b ds e s
      | .ct e s => loopL (tgN i) b ds e s
      | .bk e s => .nx e s
      | .rt d s => .rt d s
      | .exc c e s => .exc c e s
      | .bad => .bad) = _
  rw [h]
/-- a loop that keeps what I says of the frame and the store -/
theorem loopN_inv {i : Nat} {b : DS} {α : Type} (enc : α → D) (I : Nat → En → Sto → Prop) : ∀ (as : List α) (k : Nat) (env : En) (st : Sto), I k env st → (∀ (j : Nat) (a : α) (env : En) (st : Sto), as[j]? = some a → I (k + j) env st → ∃ e s, b (env.set i (some (enc a))) st = .nx e s ∧ I (k + j + 1) e s) →
    ∃ e s, loopL (tgN i) b (as.map enc) env st = .nx e s ∧ I (k + as.length) e s
  | [], k, env, st, h, _ => ⟨env, st, rfl, h⟩
  | a :: as, k, env, st, h, hb => by
    obtain ⟨e, s, e1, h1⟩ := hb 0 a env st rfl h
    obtain ⟨e2, s2, e3, h3⟩ := loopN_inv enc I as (k + 1) e s h1 fun j a' env' st' ha hI => by
      obtain ⟨e', s', x, y⟩ := hb (j + 1) a' env' st' (by simpa using ha) (by rw [show k + (j + 1) = k + 1 + j by omega]; exact hI)
      exact ⟨e', s', x, by rw [show k + 1 + j + 1 = k + (j + 1) + 1 by omega]; exact y⟩
    exact ⟨e2, s2, by rw [List.map_cons, loopN_nx e1]; exact e3, by rw [List.length_cons, show k + (as.length + 1) = k + 1 + as.length by omega]; exact h3⟩
/-! == -/
theorem eqD_good {x y : D} {st : Sto} (h1 : good 40 (der st x) = true) (h2 : good 40 (der st y) = true) : eqD x y st = .ok (.bl (PyData.eqv (toP (der st x)) (toP (der st y)))) st := by
  unfold eqD; rw [if_pos ⟨h1, h2⟩]
theorem neD_good {x y : D} {st : Sto} (h1 : good 40 (der st x) = true) (h2 : good 40 (der st y) = true) : neD x y st = .ok (.bl (!PyData.eqv (toP (der st x)) (toP (der st y)))) st := by
  unfold neD; rw [if_pos ⟨h1, h2⟩]
@[simp] theorem eqD_int (i j : Int) (st : Sto) : eqD (.int i) (.int j) st = .ok (.bl (i == j)) st := by
  rw [eqD_good rfl rfl]; simp [der, toP, PyData.eqv]
@[simp] theorem neD_int (i j : Int) (st : Sto) : neD (.int i) (.int j) st = .ok (.bl (!(i == j))) st := by
  rw [neD_good rfl rfl]; simp [der, toP, PyData.eqv]
@[simp] theorem eqD_str (i j : Str) (st : Sto) : eqD (.str i) (.str j) st = .ok (.bl (i == j)) st := by
  rw [eqD_good rfl rfl]; simp [der, toP, PyData.eqv]
@[simp] theorem neD_str (i j : Str) (st : Sto) : neD (.str i) (.str j) st = .ok (.bl (!(i == j))) st := by
  rw [neD_good rfl rfl]; simp [der, toP, PyData.eqv]
@[simp] theorem eqD_bl (i j : Bool) (st : Sto) : eqD (.bl i) (.bl j) st = .ok (.bl (i == j)) st := by
  rw [eqD_good rfl rfl]; simp [der, toP, PyData.eqv]
@[simp] theorem neD_bl (i j : Bool) (st : Sto) : neD (.bl i) (.bl j) st = .ok (.bl (!(i == j))) st := by
  rw [neD_good rfl rfl]; simp [der, toP, PyData.eqv]
end DL

/-! DL16: plain words: numbers, picks, texts. -/
namespace DL
open PySem PySem.Spec PyProof.Rows L2
theorem log2_lt_of {n k : Nat} (h : n < 2 ^ k) (hk : 0 < k) : n.log2 < k := by
  by_cases h0 : n = 0
  · subst h0; simpa using hk
  · exact (Nat.log2_lt h0).mpr h
theorem lt_of_bits {z : Int} {k : Nat} (h : Builtin.Int.intBits z ≤ k) : z.natAbs < 2 ^ k := by
  by_cases h0 : z.natAbs = 0
  · rw [h0]; exact Nat.two_pow_pos k
  · refine (Nat.log2_lt h0).mp ?_
    unfold Builtin.Int.intBits at h
    rw [if_neg (fun e => h0 (by rw [eq_of_beq e]; rfl))] at h
    omega
theorem add_lt {a b : Int} {k : Nat} (ha : a.natAbs < 2 ^ k) (hb : b.natAbs < 2 ^ k) : (a + b).natAbs < 2 ^ (k + 1) := by
  rw [Nat.pow_succ]
  omega
theorem pow_le {a b : Nat} {n : Nat} (h : n < 2 ^ a) (hab : a ≤ b) : n < 2 ^ b := Nat.lt_of_lt_of_le h (Nat.pow_le_pow_right (by decide) hab)
/-- a number of 128 bits at most -/
def Big (m : Int) : Prop := 0 ≤ m ∧ m < 2 ^ 128
theorem Big.div {m : Int} (h : Big m) (k : Nat) : Big (m / (k : Int)) := by
  have h1 := h.1
  refine ⟨Int.ediv_nonneg h1 (by omega), Int.lt_of_le_of_lt ?_ h.2⟩
  exact Int.ediv_le_self _ h1
theorem Big.div' {m : Int} (h : Big m) {k : Int} (hk : 0 ≤ k) : Big (m / k) := by
  have h1 := h.1
  exact ⟨Int.ediv_nonneg h1 hk, Int.lt_of_le_of_lt (Int.ediv_le_self _ h1) h.2⟩
theorem mulD_small {i j : Int} {st : Sto} (hi : i.natAbs < 2 ^ 200) (hj : j.natAbs < 2 ^ 200) : mulD (.int i) (.int j) st = .ok (.int (i * j)) st := mulD_int (by
  have h1 := log2_lt_of hi (by decide)
  have h2 := log2_lt_of hj (by decide)
  omega)
theorem divI_small {i j : Int} {st : Sto} (h : 0 < j) (hj : j.natAbs < 2 ^ 200) : divI (.int i) (.int j) st = .ok (.int (i / j)) st := divI_int h (by
  have h2 := log2_lt_of hj (by decide)
  omega)
theorem pick {ds : List D} {i : Int} (st : Sto) (h0 : 0 ≤ i) (h1 : i < (ds.length : Int)) : ∃ d, d ∈ ds ∧ ixD (.lst ds) (.int i) st = .ok d st := by
  have hl : i.toNat < ds.length := by omega
  exact ⟨ds[i.toNat], List.getElem_mem hl, ixD_lst (by rw [atI_of h0 hl, List.getElem?_eq_getElem hl])⟩
/-- one of a list of things that are encoded -/
theorem pickE {α : Type} (enc : α → D) {as : List α} {i : Int} (st : Sto) (h0 : 0 ≤ i) (h1 : i < (as.length : Int)) : ∃ a, a ∈ as ∧ ixD (.lst (as.map enc)) (.int i) st = .ok (enc a) st := by
  obtain ⟨d, hd, e⟩ := pick (ds := as.map enc) st h0 (by simpa using h1)
  obtain ⟨a, ha, rfl⟩ := List.mem_map.mp hd
  exact ⟨a, ha, e⟩
/-! ### len -/
theorem len_lst (ds : List D) (st : Sto) : lenD [.lst ds] st = .ok (.int ds.length) st := nrfl rfl
theorem len_tup (ds : List D) (st : Sto) : lenD [.tup ds] st = .ok (.int ds.length) st := nrfl rfl
theorem len_str (s : Str) (st : Sto) : lenD [.str s] st = .ok (.int s.length) st := nrfl rfl
theorem len_scr (ns : List Int) (st : Sto) : lenD [.scr ns] st = .ok (.int ns.length) st := by
  simp [lenD, itemsOf]
theorem tuple_lst (ds : List D) (st : Sto) : tupleD [.lst ds] st = .ok (.tup ds) st := nrfl rfl
theorem tuple_tup (ds : List D) (st : Sto) : tupleD [.tup ds] st = .ok (.tup ds) st := nrfl rfl
theorem list_lst (ds : List D) (st : Sto) : listD false [.lst ds] st = .ok (.lst ds) st := nrfl rfl
theorem list_tup (ds : List D) (st : Sto) : listD false [.tup ds] st = .ok (.lst ds) st := nrfl rfl
/-! ### a list just made at the end of the store -/
theorem get_new (st : Sto) (o : Ob) : (st ++ [o])[st.length]? = some o := by simp
theorem set_new (st : Sto) (o o' : Ob) : (st ++ [o]).set st.length o' = st ++ [o'] := by simp
theorem append_new {st : Sto} {xs : List D} (y : D) (h : xs.length < 1000000) : appendD (.loc st.length) [y] (st ++ [.lst xs]) = .ok .non (st ++ [.lst (xs ++ [y])]) := by
  unfold appendD
  dsimp only
  rw [get_new]
  dsimp only
  rw [if_pos h, set_new]
theorem chkL_new (st : Sto) (xs : List D) : chkL (st ++ [.lst xs]) (.loc st.length) = true := by
  unfold chkL itemsOf
  dsimp only
  rw [get_new]
  rfl
theorem items_new (st : Sto) (xs : List D) : itemsOf (st ++ [.lst xs]) (.loc st.length) = some xs := by
  unfold itemsOf
  dsimp only
  rw [get_new]
theorem tuple_new (st : Sto) (xs : List D) : tupleD [.loc st.length] (st ++ [.lst xs]) = .ok (.tup xs) (st ++ [.lst xs]) := by
  unfold tupleD
  dsimp only
  rw [items_new]
theorem len_new (st : Sto) (xs : List D) : lenD [.loc st.length] (st ++ [.lst xs]) = .ok (.int xs.length) (st ++ [.lst xs]) := by
  unfold lenD
  dsimp only
  rw [items_new]
/-! ### texts -/
theorem str_ext {a b : Str} (h : a.cps.toList = b.cps.toList) : a = b := by
  obtain ⟨a⟩ := a
  obtain ⟨b⟩ := b
  have : a = b := Array.toList_inj.mp h
  rw [this]
theorem str_len (s : Str) : s.length = s.cps.toList.length := by
  show s.cps.size = _
  simp
theorem join_nil : ∀ ss : List Str, (Str.join ⟨#[]⟩ ss).cps.toList = (ss.map fun s => s.cps.toList).flatten
  | [] => rfl
  | [x] => by show x.cps.toList = _; simp
  | x :: y :: r => by
    show (x ++ ⟨#[]⟩ ++ Str.join ⟨#[]⟩ (y :: r)).cps.toList = _
    rw [str_app_cps, str_app_cps, Array.toList_append, Array.toList_append, join_nil (y :: r)]
    simp
theorem cutS_to (z : Str) {n : Int} (h : 0 ≤ n) : (cutS z none (some n)).cps.toList = z.cps.toList.take n.toNat := by
  show ((z.cps.toList.drop (HT.sIx z.length 0 none)).take (HT.sIx z.length z.length (some n) - HT.sIx z.length 0 none)) = _
  have e1 : HT.sIx z.length 0 none = 0 := rfl
  have e2 : HT.sIx z.length z.length (some n) = min n.toNat z.length := by
    unfold HT.sIx
    dsimp only
    rw [if_neg (by omega)]
  rw [e1, e2, List.drop_zero, Nat.sub_zero]
  by_cases hl : n.toNat ≤ z.length
  · rw [Nat.min_eq_left hl]
  · rw [Nat.min_eq_right (by omega), str_len, List.take_length, List.take_of_length_le (by rw [← str_len]; omega)]
theorem cutD_to (z : List D) {n : Int} (h : 0 ≤ n) : cutD z none (some n) = z.take n.toNat := by
  show ((z.drop (HT.sIx z.length 0 none)).take (HT.sIx z.length z.length (some n) - HT.sIx z.length 0 none)) = _
  have e1 : HT.sIx z.length 0 none = 0 := rfl
  have e2 : HT.sIx z.length z.length (some n) = min n.toNat z.length := by
    unfold HT.sIx
    dsimp only
    rw [if_neg (by omega)]
  rw [e1, e2, List.drop_zero, Nat.sub_zero]
  by_cases hl : n.toNat ≤ z.length
  · rw [Nat.min_eq_left hl]
  · rw [Nat.min_eq_right (by omega), List.take_length, List.take_of_length_le (by omega)]
theorem cutD_from (z : List D) {n : Int} (h : 0 ≤ n) : cutD z (some n) none = z.drop n.toNat := by
  show ((z.drop (HT.sIx z.length 0 (some n))).take (HT.sIx z.length z.length none - HT.sIx z.length 0 (some n))) = _
  have e1 : HT.sIx z.length z.length none = z.length := rfl
  have e2 : HT.sIx z.length 0 (some n) = min n.toNat z.length := by
    unfold HT.sIx
    dsimp only
    rw [if_neg (by omega)]
  rw [e1, e2]
  by_cases hl : n.toNat ≤ z.length
  · rw [Nat.min_eq_left hl, List.take_of_length_le (by rw [List.length_drop]; omega)]
  · rw [Nat.min_eq_right (by omega), List.drop_length, List.drop_of_length_le (by omega)]
    simp
/-- signs 0 and 1 alone, so many at most -/
def Bit (n : Nat) (s : Str) : Prop := s.length ≤ n ∧ ∀ c ∈ s.cps.toList, c = 48 ∨ c = 49
theorem Bit.app {a b : Str} {n m : Nat} (ha : Bit n a) (hb : Bit m b) : Bit (n + m) (a ++ b) := by
  refine ⟨by rw [str_app_len]; have := ha.1; have := hb.1; omega, fun c hc => ?_⟩
  rw [str_app_cps, Array.toList_append, List.mem_append] at hc
  exact hc.elim (ha.2 c) (hb.2 c)
theorem Bit.mono {a : Str} {n m : Nat} (ha : Bit n a) (h : n ≤ m) : Bit m a := ⟨Nat.le_trans ha.1 h, ha.2⟩
theorem Bit.cut {a : Str} {n : Nat} (ha : Bit n a) {k : Int} (hk : 0 ≤ k) : Bit (min n k.toNat) (cutS a none (some k)) := by
  refine ⟨?_, fun c hc => ?_⟩
  · rw [str_len, cutS_to a hk, List.length_take, ← str_len]
    have := ha.1
    omega
  · rw [cutS_to a hk] at hc
    exact ha.2 c (List.mem_of_mem_take hc)
theorem starts_eq (a b : Str) : Txt.startswith a b = (cutS a none (some (b.length : Int)) == b) := by
  have e : Txt.startswith a b = (decide (0 + b.length ≤ a.length) && Builtin.Str.subAt a b 0) := rfl
  rw [e, StrLaws.subAt_eq, Bool.eq_iff_iff]
  simp only [Bool.and_eq_true, decide_eq_true_eq, beq_iff_eq, List.drop_zero]
  constructor
  · rintro ⟨_, h⟩
    refine str_ext ?_
    rw [cutS_to a (by omega), Int.toNat_natCast]
    exact h
  · intro h
    have h2 : a.cps.toList.take b.length = b.cps.toList := by
      have h3 := cutS_to a (n := (b.length : Int)) (by omega)
      rw [h, Int.toNat_natCast] at h3
      exact h3.symm
    refine ⟨?_, h2⟩
    have := congrArg List.length h2
    rw [List.length_take, ← str_len, ← str_len] at this
    omega
end DL

/-! DL17: lists walked while an exception is handled: comprehensions, sum. -/
namespace DL
open PySem PySem.Spec PyProof.Rows L2 HotX L2H

section
variable {prog : Program} {w : World} {A : Around} {E : Value → Shared → Prop} {s : Shared}
theorem list_end_hot {it l x1 : Addr} {i : Nat} {items : Array Value} {Q : Option Value → Shared → Prop} (hot : HotAt A x1 s.heap) (nx : x1 ≠ it) (hit : s.heap.IsListIter it l i) (hl : s.heap.IsList l items) (hx : items[i]? = none)
    (hQ : ∀ h', Heap.ExtBut it s.heap h' → Q none { s with heap := h' }) : wpAny (model prog w) A (pyNext (.ref it)) Q E s := by
  obtain ⟨o, ho, hc, hd⟩ := id hit
  obtain ⟨ol, hol, _, nl, hdl⟩ := hl
  obtain ⟨hh, o1, vs1, h1, d1, c1⟩ := hot
  unfold pyNext
  refine wpAny_bind (wpAny_attempt (wpAny_callSpecial?_slot (name := Str.ofString "__next__") hit.typeIs slot_listiter_next
    (wpAny_call_entry slot_listiter_next hit.typeIs entry_listiter_next ?_ (args_listiter_next _))))
  show wpAny _ _ (field (.ref it) 0 >>= _) _ _ s
  refine wpAny_bind (wpAny_field ho hd (x := .ref l) rfl ?_)
  show wpAny _ _ (if (Value.ref l == Value.none) = true then _ else _) _ _ s
  rw [if_neg (show ¬ ((Value.ref l == Value.none) = true) from Bool.false_ne_true)]
  show wpAny _ _ (field (.ref it) 1 >>= _) _ _ s
  refine wpAny_bind (wpAny_field ho hd (x := .int i 0) rfl ?_)
  show wpAny _ _ (seqItems? (.ref l) >>= _) _ _ s
  refine wpAny_bind (wpAny_seqItems hol hdl ?_)
  simp only [Int.toNat_natCast, hx]
  refine wpAny_bind (wpAny_rule (wpAny_bind (wpAny_setField ho hd (by simp) ?_)))
  show wpAny _ _ (newExc (.type "StopIteration") [] >>= _) _ _ _
  refine wpAny_bind ?_
  simp only [newExc, newTuple]
  refine wpAny_bind (wpAny_newObj_type ?_ (by size_fits))
  refine wpAny_bind (m := firstArgMember _ _) (wpAny_of_eq (a := Value.none) (by first | rfl | (simp only [firstArgMember]; rfl)) ?_)
  refine wpAny_newObj_type ?_ (by size_fits)
  have h1' := Heap.get?_push_of_some { cls := .type "tuple", data := .seq ([] : List Value).toArray } ((Heap.get?_update_other s.heap (Obj.mapFields (·.setIfInBounds 0 Value.none)) nx.symm).trans h1)
  refine raiseNew_hot (x1 := x1) ⟨hh, o1, vs1, Heap.get?_push_of_some _ h1', d1, c1⟩ (Nat.ne_of_lt (Heap.lt_size h1')) (Heap.get?_push_size _ rfl) rfl (by first | (simp; done) | (simp; omega) | (simp only [Array.size_append]; simp; omega)) ?_
  refine wpAny_bind (wpAny_isInstance (T := "StopIteration") (b := true) ⟨_, Heap.get?_update_self _ (Heap.get?_push_size _ rfl) rfl, rfl⟩ isSubtype_stop ?_)
  refine wpAny_pure (hQ _ fun b o hb e => ?_)
  have e2 := Heap.get?_push_of_some { cls := .type "tuple", data := .seq ([] : List Value).toArray } (((Heap.SameBut.update s.heap it (Obj.mapFields (·.setIfInBounds 0 Value.none))).extBut) b o hb e)
  rw [Heap.get?_update_other _ _ (Nat.ne_of_gt (Heap.lt_size e2))]
  exact Heap.get?_push_of_some _ e2
theorem walks_listH {x1 : Addr} {o1 : Obj} {vs1 : Array Value} (hh : A.handled = some (.ref x1)) (d1 : o1.data = .fields vs1) (c1 : vs1[2]? = some .none) (I ax : Addr) (hne : ax ≠ I) (nx : x1 ≠ I) (items : Array Value) :
    Walks prog w A I [I, ax, x1] [I] items.size (fun i v => items[i]? = some v) (fun i h => (h.IsListIter I ax i ∧ h.IsList ax items) ∧ h.get? x1 = some o1) where
  sub := fun b hb => by simp at hb; simp [hb]
  frame := fun _ _ _ st hk => ⟨⟨st.1.1.at fun o e => hk I (by simp) o e, st.1.2.at fun o e => hk ax (by simp) o e⟩, hk x1 (by simp) _ st.2⟩
  item := fun i s Q E hi st hQ => by
    refine wpAny_pyNext_list_item st.1.1 st.1.2 (x := items[i]) (by simp [hi]) fun h' hit' hs' => ?_
    exact hQ _ h' s.toks (by simp [hi]) ⟨⟨hit', st.1.2.extBut hs'.extBut hne⟩, hs'.extBut x1 o1 nx st.2⟩ fun b o hb e => hs'.extBut b o (fun h => hb (by simp [h])) e
  done := fun s Q E st hQ => list_end_hot ⟨hh, o1, vs1, st.2, d1, c1⟩ nx st.1.1 st.1.2 (by simp) fun h' he' => hQ h' s.toks fun b o hb e => he' b o (fun h => hb (by simp [h])) e
  self := fun _ _ _ _ st hQ => wpAny_pyIter_listiter st.1.1 hQ
theorem sum_hot {l x1 : Addr} {its : List Value} {ns : List Int} {Q : Value → Shared → Prop} (hot : HotAt A x1 s.heap) (hl : s.heap.IsList l its.toArray) (hi : IntsAre its ns)
    (h : ∀ h' tk t', (∀ b o, s.heap.get? b = some o → h'.get? b = some o) → Q (.int ns.sum t') { s with heap := h', toks := tk }) : wpAny (model prog w) A (call (.builtin "sum") [.ref l]) Q E s := by
  obtain ⟨xs, e⟩ := hi.allInts.items
  have hn : numsOf (intItems xs).toList = ns := by rw [← e]; exact hi.numsOf
  rw [nums_intItems] at hn
  rw [e] at hl
  obtain ⟨hh, o1, vs1, h1, d1, c1⟩ := hot
  refine call_sum_walkG (iter_intList hl fun s₂ e st hfp hlI => ?_)
  subst e
  have nx : x1 ≠ s.heap.objs.size := Nat.ne_of_lt (Heap.lt_size h1)
  refine ⟨_, _, _, _, _, _, numAt xs, rfl, walks_listH (A := A.in1) hh d1 c1 _ l hlI nx (intItems xs), ⟨st, Heap.get?_push_of_some _ h1⟩, fun b hb => ?_, (fun _ _ => intItems_at), fun h' tk t' hk => ?_⟩
  · rcases List.mem_cons.mp hb with rfl | hb
    · exact hfp _ (by simp)
    · rcases List.mem_cons.mp hb with rfl | hb
      · exact hfp _ (by simp)
      · rw [List.mem_singleton.mp hb]
        exact Heap.lt_size (Heap.get?_push_of_some _ h1)
  · have := h h' tk t' (old_kept hk)
    rw [show (intItems xs).size = xs.size by simp [intItems], preSum_eq, List.take_of_length_le (by simp), hn]
    exact this
end
section
variable {X : Cx}
theorem cr_sumH (hc : HotC X) : CallR X (.builtin "sum") (rSum X.K) := by
  intro pins s σ H vs us Q I r h
  obtain ⟨a, ns, rfl, hs, q⟩ := h
  obtain ⟨its, rv, hl, _⟩ := I.list hs
  rw [Vals.ref1 r]
  obtain ⟨x1, hot⟩ := hc.at I
  exact sum_hot hot hl.isList rv.ints fun h' tk t' hk => ⟨.int _, H, I.kept hk, ⟨_, rfl⟩, q⟩
theorem inv_pin {pins pins' : List (Addr × Obj)} {σ : L2.St} {H : Hp} {s : Shared} (I : Inv X pins σ H s) (h : ∀ p ∈ X.pn ++ pins', s.heap.get? p.1 = some p.2 ∧ H p.1 = none ∧ p.1 ≠ X.env.locals ∧ p.1 ∉ X.fs ∧ ∀ v, p.2.data ≠ .cell v) : Inv X pins' σ H s :=
  ⟨I.ok, I.os, I.bare, I.base, I.loc, I.cell, I.free, I.freeC, h, I.hok, I.len⟩
end
end DL

/-! DL18: minus, all, sum, zip, raise, the top's tuples of texts. -/
namespace DL
open PySem PySem.Spec PyProof.Rows L2

section
variable {X : Cx} {g : Gh} {W : WX}
def negD : D → Sto → Rs D
  | .int i, st => .ok (.int (-i)) st
  | _, _ => .bad
theorem de_neg {a : Expr} {pos : Pos} {f : DE} (ha : PE X a (tD g W f)) : PE X (.UnaryOp .USub a pos) (tD g W (dU negD f)) :=
  pe_imp (pe_un un_neg ha) fun σ H Q q => by
    obtain ⟨A, env, st, M, q⟩ := q
    refine (tR.bind (rel := Rep g) M q).mono fun v H1 ⟨A1, d, st1, x, s, r, M1, q1⟩ => ?_
    unfold negD at q1
    split at q1
    · exact ⟨_, rep_int_inv r, q1 A1 _ H1 (.refl _ _) s (rep_int _)⟩
    · exact q1.elim
@[simp] theorem negD_int (i : Int) (st : Sto) : negD (.int i) st = .ok (.int (-i)) st := nrfl rfl

/-! all, sum -/
def bls? : List D → Option (List Bool)
  | [] => some []
  | .bl b :: ds => (bls? ds).map (b :: ·)
  | _ :: _ => none
theorem bls?_rep {A : List Addr} {H : Hp} : ∀ {ds : List D} {bs : List Bool} {vs : List V}, bls? ds = some bs → Reps g A H ds vs → vs = bs.map V.bl
  | [], bs, vs, h, r => by cases h; exact r.nil_inv
  | d :: ds, bs, vs, h, r => by
    cases d with
    | bl b =>
      unfold bls? at h
      obtain ⟨cs, e1, e2⟩ := Option.map_eq_some_iff.mp h
      obtain ⟨v, ws, rfl, r1, r2⟩ := r.cons_inv
      rw [rep_bl_inv r1, bls?_rep e1 r2, ← e2]; rfl
    | _ => cases h
theorem bls?_map (bs : List Bool) : bls? (bs.map D.bl) = some bs := by
  induction bs with
  | nil => rfl
  | cons b bs ih => show (bls? (bs.map D.bl)).map _ = _; rw [ih]; rfl
def allD : List D → Sto → Rs D
  | [.lst xs], st => match bls? xs with
    | some bs => .ok (.bl (bs.all id)) st
    | none => .bad
  | _, _ => .bad
theorem allD_ok : OpC g (rAll g.K) allD := by
  intro W A st σ H ds vs Q s r q
  unfold allD at q
  split at q
  · rename_i xs
    obtain ⟨v, rfl, r1⟩ := reps1 r
    obtain ⟨a, ws, rfl, h1, _, r2⟩ := rep_lst_inv r1
    split at q
    · rename_i bs e
      rw [bls?_rep e r2] at h1
      exact ⟨a, bs, rfl, SqL.of h1, q A _ H (.refl _ _) s (rep_bl _)⟩
    · exact q.elim
  · exact q.elim
def sumD : List D → Sto → Rs D
  | [.lst xs], st => match ints? xs with
    | some ns => .ok (.int ns.sum) st
    | none => .bad
  | _, _ => .bad
theorem sumD_ok : OpC g (rSum g.K) sumD := by
  intro W A st σ H ds vs Q s r q
  unfold sumD at q
  split at q
  · rename_i xs
    obtain ⟨v, rfl, r1⟩ := reps1 r
    obtain ⟨a, ws, rfl, h1, _, r2⟩ := rep_lst_inv r1
    split at q
    · rename_i ns e
      rw [ints?_rep e r2] at h1
      exact ⟨a, ns, rfl, SqL.of h1, q A _ H (.refl _ _) s (rep_int _)⟩
    · exact q.elim
  · exact q.elim

/-! zip of two lists, of two tuples -/
def pairD (x y : D) : D := .tup [x, y]
def asZip : List D → Sto → Rs (List D)
  | [.lst xs, .lst ys], st => .ok (List.zipWith pairD xs ys) st
  | [.tup xs, .tup ys], st => .ok (List.zipWith pairD xs ys) st
  | _, _ => .bad
def dIterZ (fs : List DE) : DA := fun env st => (runL fs env st).bind asZip
theorem zip_at {xs ys : List D} {i : Nat} {x y : D} (h1 : xs[i]? = some x) (h2 : ys[i]? = some y) : (List.zipWith pairD xs ys)[i]? = some (pairD x y) := by
  rw [List.getElem?_zipWith, h1, h2]
theorem reps_two {A : List Addr} {H : Hp} {x y : D} {v w : V} (r1 : Rep g A H x v) (r2 : Rep g A H y w) : Reps g A H [x, y] [v, w] := .cons r1 (.cons r2 .nil)
/-- one pair told -/
theorem yield_pair {A A2 M : List Addr} {H H2 H' : Hp} {st : Sto} {xs ys : List D} {vs ws : List V} {i : Nat} {z : V} {hi : i < (List.zipWith pairD xs ys).length} (x : Ext A H A2 H2) (hM : ∀ m ∈ M, m ∈ g.M ∨ H m = none) (s : StOk (g.wm M) A2 st H2)
    (r1 : Reps g A H xs vs) (r2 : Reps g A H ys ws) (y : ∃ T a b, z = .ref T ∧ H2 T = none ∧ H' = upd H2 T (.tup [a, b]) ∧ vs[i]? = some a ∧ ws[i]? = some b) :
    ∃ d, (List.zipWith pairD xs ys)[i]? = some d ∧ Ext A2 H2 A2 H' ∧ StOk (g.wm M) A2 st H' ∧ Rep (g.wm M) A2 H' d z := by
  obtain ⟨T, a, b, rfl, hT, rfl, ea, eb⟩ := y
  obtain ⟨d1, e1, q1⟩ := ((r1.wm hM).ext x).get' ea
  obtain ⟨d2, e2, q2⟩ := ((r2.wm hM).ext x).get' eb
  exact ⟨pairD d1 d2, zip_at e1 e2, ext_val s hT, s.val hT, rep_tup_new s (reps_two q1 q2) hT⟩
theorem yields_zipL {A : List Addr} {H : Hp} {xs ys : List D} {vs ws : List V} {a b : Addr} (h1 : H a = some (.lst vs)) (n1 : a ∉ A) (r1 : Reps g A H xs vs) (h2 : H b = some (.lst ws)) (n2 : b ∉ A) (r2 : Reps g A H ys ws) : Yields g (Itz g.K a b) A H (List.zipWith pairD xs ys) := fun i M A2 H2 st x hM s => by
  have k1 := (x.keep a _ n1 h1).2
  have k2 := (x.keep b _ n2 h2).2
  have l1 := r1.len
  have l2 := r2.len
  refine ⟨fun hi => ?_, fun hi => ⟨vs, ws, SqL.of k1, SqL.of k2, by rw [List.length_zipWith] at hi; omega⟩⟩
  have hi2 := hi
  rw [List.length_zipWith] at hi2
  refine ⟨⟨vs, ws, vs[i]'(by omega), ws[i]'(by omega), SqL.of k1, SqL.of k2, by simp, by simp⟩, fun v H' y => ?_⟩
  obtain ⟨T, p, q, e1, e2, e3, e4, e5⟩ := y
  exact yield_pair (hi := hi) x hM s r1 r2 ⟨T, p, q, e1, e2, e3, e4 vs (SqL.of k1), e5 ws (SqL.of k2)⟩
theorem yields_zipT {A : List Addr} {H : Hp} {xs ys : List D} {vs ws : List V} {a b : Addr} (h1 : H a = some (.tup vs)) (n1 : a ∉ A) (r1 : Reps g A H xs vs) (h2 : H b = some (.tup ws)) (n2 : b ∉ A) (r2 : Reps g A H ys ws) : Yields g (RZ.ItzT g.K a b) A H (List.zipWith pairD xs ys) := fun i M A2 H2 st x hM s => by
  have k1 := (x.keep a _ n1 h1).2
  have k2 := (x.keep b _ n2 h2).2
  have l1 := r1.len
  have l2 := r2.len
  refine ⟨fun hi => ?_, fun hi => ⟨vs, ws, SqT.of k1, SqT.of k2, by rw [List.length_zipWith] at hi; omega⟩⟩
  have hi2 := hi
  rw [List.length_zipWith] at hi2
  refine ⟨⟨vs, ws, vs[i]'(by omega), ws[i]'(by omega), SqT.of k1, SqT.of k2, by simp, by simp⟩, fun v H' y => ?_⟩
  obtain ⟨T, p, q, e1, e2, e3, e4, e5⟩ := y
  exact yield_pair (hi := hi) x hM s r1 r2 ⟨T, p, q, e1, e2, e3, e4 vs (SqT.of k1), e5 ws (SqT.of k2)⟩
theorem di_zip {e e2 : Expr} {fs : List DE} {p pos tpos : Pos} {elts : List Expr} {kk : Nat} (hK : g.K = X.K) (hg : Gl X "zip") (hm : X.mg "zip" = none) (ha : PA X [e, e2] (tL g W (runL fs)))
    (hs : starEach [e, e2] X.env = (false, eval e X.env) :: starEach [e2] X.env) (hpl : (backTo pos (starEach [e2] X.env)).any (·.1) = false) : PI X (.Tuple elts kk tpos) (.Call (.Name "zip" p) [e, e2] [] pos) (tY g W (dIterZ fs)) :=
  pi_imp (RZ.pi_zipA hg hm ha hs hpl) fun σ H R q => by
    obtain ⟨A, env, st, M, q⟩ := q
    unfold dIterZ at q
    refine ⟨A, env, st, M, ?_⟩
    cases ef : runL fs env st with
    | exc c st1 => rw [ef] at q; exact q
    | bad => rw [ef] at q; exact q
    | ok ds st1 =>
      rw [ef, Rs.bind_ok] at q
      intro A1 vs H1 x s r
      cases eh : asZip ds st1 with
      | exc c st2 =>
        unfold asZip at eh
        split at eh <;> cases eh
      | bad => rw [eh] at q; exact q.elim
      | ok zs st2 =>
        rw [eh] at q
        unfold asZip at eh
        split at eh
        · rename_i xs ys
          cases eh
          obtain ⟨v, w, rfl, p1, p2⟩ := reps2 r
          obtain ⟨a, vs, rfl, h1, n1, r1⟩ := rep_lst_inv p1
          obtain ⟨b, ws, rfl, h2, n2, r2⟩ := rep_lst_inv p2
          exact ⟨a, b, vs, ws, rfl, .inl ⟨SqL.of h1, SqL.of h2, q A1 H1 _ x s (hK ▸ yields_zipL h1 n1.1 r1 h2 n2.1 r2)⟩⟩
        · rename_i xs ys
          cases eh
          obtain ⟨v, w, rfl, p1, p2⟩ := reps2 r
          obtain ⟨a, vs, rfl, h1, n1, r1⟩ := rep_tup_inv' p1
          obtain ⟨b, ws, rfl, h2, n2, r2⟩ := rep_tup_inv' p2
          exact ⟨a, b, vs, ws, rfl, .inr ⟨SqT.of h1, SqT.of h2, q A1 H1 _ x s (hK ▸ yields_zipT h1 n1 r1 h2 n2 r2)⟩⟩
        · cases eh

/-! ### raise C('text') -/
abbrev mroVE : List Value := [.type "ValueError", .type "Exception", .type "BaseException", .type "object"]
/-- the top's name x holds the class at C, an own kind of ValueError -/
structure ExD (K : PySem.W.Frag) (mg : Str → Option Value) (x : Str) (C : Addr) : Prop where
  at_ : mg x = some (.ref C)
  exc : PySem.W.excIn K C mroVE "ValueError.__new__" = true
  keep : PySem.W.keepIn K (.ref C) = true
  sub : PySem.W.subIn K (.ref C) (.type "BaseException") = some true
  ty : PySem.W.typeIn K (.ref C) = some (.type "type")
def dRaise (c : Nat) : DS := fun env st => .exc c env st
theorem ds_raise {x m : Str} {j c : Nat} {p p2 pos pos' : Pos} (hK : g.K = X.K) (hc : X.calm = true) (tk : L2N.Takes X W) (E : ExD g.K X.mg x (g.cA c)) (hg : Gl X x) (hdb : (x == ("__debug__" : Str)) = false) : PS X (.Raise (some (.Call (.Name x p) [.Constant (.str m) j p2] [] pos)) none pos') (tS g W (dRaise c)) :=
  ps_imp (L2N.ps_raise hc tk (L2N.pmk_own PySem.F.excBase_ValueError (hK ▸ E.exc) E.at_ (hK ▸ E.keep) (raises_own (hK ▸ E.sub) (hK ▸ E.ty)) hg hdb)) fun D σ H q => by
    obtain ⟨A, env, st, M, q⟩ := q
    exact q A σ H () (.refl _ _) M
end
/-! ### a tuple of texts of the top -/
def GKt (K : PySem.W.Frag) (mg : Str → Option Value) (x : Str) (ss : List Str) : Prop := ∃ a, mg x = some (.ref a) ∧ KTup K a (ss.map V.str)
section
variable {X : Cx} {g : Gh} {W : WX}
theorem de_gkt {x : Str} {ss : List Str} {pos : Pos} (G : GKt g.K X.mg x ss) (hg : Gl X x) (hd : (x == ("__debug__" : Str)) = false) : PE X (.Name x pos) (tD g W (dC (.kt ss))) := by
  obtain ⟨a, hm, k⟩ := G
  exact de_const (v := .ref a) (pe_glob hg hm rfl hd) fun A H => by unfold Rep; exact ⟨a, rfl, k⟩
theorem in_kt (s : Str) (ss : List Str) (st : Sto) : inD (.str s) (.kt ss) st = .ok (.bl (ss.any fun z => z == s)) st := nrfl rfl
theorem notIn_kt (s : Str) (ss : List Str) (st : Sto) : notInD (.str s) (.kt ss) st = .ok (.bl (!ss.any fun z => z == s)) st := nrfl rfl
end
end DL

/-! DL19: instances: attributes, methods, new ones. -/
namespace DL
open PySem PySem.Spec PyProof.Rows L2

/-- what is known of the class with number c -/
structure ClsD (g : Gh) (c : Nat) : Prop where
  cls : Cls g.K (g.cA c)
  noA : ∀ f ∈ g.fld c, NoAttr g.K (g.cA c) f
  nd : (g.fld c).Nodup
  few : (g.fld c).length < 1000
theorem zip_look {F : List Str} (nd : F.Nodup) : ∀ {vs : List V} {i : Nat} {f : Str} {v : V}, F[i]? = some f → vs[i]? = some v → (F.zip vs).lookup f = some v := by
  induction F with
  | nil => intro vs i f v h; simp at h
  | cons x F ih =>
    intro vs i f v h1 h2
    obtain ⟨hn, nd'⟩ := List.nodup_cons.mp nd
    cases vs with
    | nil => simp at h2
    | cons w vs =>
      rw [List.zip_cons_cons]
      cases i with
      | zero =>
        simp at h1 h2
        subst h1; subst h2
        simp [List.lookup]
      | succ i =>
        simp at h1 h2
        have hne : (f == x) = false := beq_eq_false_iff_ne.mpr fun e => hn (by rw [← e]; exact List.mem_of_getElem? h1)
        rw [List.lookup_cons, hne]
        exact ih nd' h1 h2
theorem zip_none {F : List Str} {m : Str} : ∀ {vs : List V}, m ∉ F → (F.zip vs).lookup m = none := by
  induction F with
  | nil => intro vs _; rfl
  | cons x F ih =>
    intro vs h
    cases vs with
    | nil => rfl
    | cons w vs =>
      have hne : (m == x) = false := beq_eq_false_iff_ne.mpr fun e => h (by rw [e]; exact List.mem_cons_self)
      rw [List.zip_cons_cons, List.lookup_cons, hne]
      exact ih fun z => h (List.mem_cons_of_mem _ z)
def putAt {α : Type} (i : Nat) (y : α) (fs : List α) : List α := if i < fs.length then fs.set i y else fs ++ [y]
theorem zip_put {F : List Str} (nd : F.Nodup) : ∀ {vs : List V} {i : Nat} {f : Str} {v : V}, F[i]? = some f → i ≤ vs.length → putF f v (F.zip vs) = F.zip (putAt i v vs) := by
  induction F with
  | nil => intro vs i f v h; simp at h
  | cons x F ih =>
    intro vs i f v h1 h2
    obtain ⟨hn, nd'⟩ := List.nodup_cons.mp nd
    cases vs with
    | nil =>
      have hi : i = 0 := by simpa using h2
      subst hi
      simp at h1
      subst h1
      rw [show putAt 0 v ([] : List V) = [v] from rfl, List.zip_nil_right, List.zip_cons_cons, List.zip_nil_right]
      rfl
    | cons w vs =>
      cases i with
      | zero =>
        simp at h1
        subst h1
        show putF x v ((x, w) :: F.zip vs) = _
        unfold putF
        rw [if_pos rfl]
        rfl
      | succ i =>
        simp at h1 h2
        have hne : ¬ x = f := fun e => hn (by rw [e]; exact List.mem_of_getElem? h1)
        show putF f v ((x, w) :: F.zip vs) = _
        unfold putF
        rw [if_neg hne, ih nd' h1 h2]
        unfold putAt
        by_cases hl : i < vs.length
        · rw [if_pos hl, if_pos (by simpa using hl)]; rfl
        · rw [if_neg hl, if_neg (by simpa using hl)]; rfl
theorem reps_set {g : Gh} {A : List Addr} {H : Hp} : ∀ {ds : List D} {vs : List V} {d : D} {v : V} (i : Nat), Reps g A H ds vs → Rep g A H d v → Reps g A H (ds.set i d) (vs.set i v)
  | [], vs, d, v, i, r, _ => by rw [r.nil_inv]; exact .nil
  | x :: ds, vs, d, v, 0, r, q => by
    obtain ⟨w, ws, rfl, _, r2⟩ := r.cons_inv
    exact .cons q r2
  | x :: ds, vs, d, v, i + 1, r, q => by
    obtain ⟨w, ws, rfl, r1, r2⟩ := r.cons_inv
    exact .cons r1 (reps_set i r2 q)
theorem reps_put {g : Gh} {A : List Addr} {H : Hp} {ds : List D} {vs : List V} {d : D} {v : V} (i : Nat) (r : Reps g A H ds vs) (q : Rep g A H d v) : Reps g A H (putAt i d ds) (putAt i v vs) := by
  unfold putAt
  rw [r.len]
  split
  · exact reps_set i r q
  · exact r.append (.cons q .nil)

section
variable {X : Cx} {g : Gh} {W : WX}
/-! ### e.f -/
def fldD (c i : Nat) : D → Sto → Rs D
  | .loc l, st => match st[l]? with
    | some (.ins c' fs) => if c' = c then (match fs[i]? with
      | some d => .ok d st
      | none => .bad) else .bad
    | _ => .bad
  | _, _ => .bad
theorem de_fld {e : Expr} {f : Str} {pos : Pos} {f0 : DE} (c i : Nat) (hK : g.K = X.K) (C : ClsD g c) (hi : (g.fld c)[i]? = some f) (he : PE X e (tD g W f0)) (hb : attributeBase e f X.env (eval e X.env) = eval e X.env) : PE X (.Attribute e f pos) (tD g W (dU (fldD c i) f0)) :=
  pe_imp (pe_fld he hb) fun σ H Q q => by
    obtain ⟨A, env, st, M, q⟩ := q
    refine (tR.bind (rel := Rep g) M q).mono fun v H1 ⟨A1, d, st1, x, s, r, M1, q1⟩ => ?_
    unfold fldD at q1
    split at q1
    · rename_i l
      obtain ⟨a, rfl, ea⟩ := rep_loc_inv r
      split at q1
      · rename_i _ c' fs e1
        split at q1
        · rename_i hc
          subst hc
          split at q1
          · rename_i _ y ey
            obtain ⟨dx, vs, h1, hl, rr⟩ := s.obj l a _ ea e1
            obtain ⟨w, ew, rw'⟩ := rr.get ey
            exact ⟨a, _, dx, _, w, rfl, h1, hK ▸ C.cls, hK ▸ C.noA f (List.mem_of_getElem? hi), zip_look C.nd hi ew, q1 A1 w H1 (.refl _ _) s rw'⟩
          · exact q1.elim
        · exact q1.elim
      · exact q1.elim
    · exact q1.elim
/-! ### o.f = e -/
def dSetF (c i n : Nat) (fo fv : DE) : DS := fun env st => (fv env st).thn env fun y st => (fo env st).thn env fun x st => match x with
  | .loc l => match st[l]? with
    | some (.ins c' fs) => if c' = c ∧ i ≤ fs.length ∧ i < n then .nx env (st.set l (.ins c (putAt i y fs))) else .bad
    | _ => .bad
  | _ => .bad
theorem ds_fld {o value : Expr} {f : Str} {pos pos' : Pos} {fo fv : DE} (c i : Nat) {n : Nat} (hK : g.K = X.K) (C : ClsD g c) (hi : (g.fld c)[i]? = some f) (hn : (g.fld c).length = n) (ho : PE X o (tD g W fo)) (hv : PE X value (tD g W fv)) (hs : swapsWith value (some (.Attribute o f pos')) pos.line X.env = pure false) :
    PS X (.Assign [.Attribute o f pos'] value pos) (tS g W (dSetF c i n fo fv)) :=
  ps_imp (ps_fld ho hv hs) fun D σ H q => by
    obtain ⟨A, env, st, M, q⟩ := q
    refine (tS.bind (rel := Rep g) M q).mono fun v H1 ⟨A1, y, st1, _, x1, s1, r1, M1, q1⟩ => ?_
    refine (tS.bind (rel := Rep g) M1 q1).mono fun u H2 ⟨A2, d, st2, _, x2, s2, r2, M2, q2⟩ => ?_
    split at q2
    · rename_i l _
      obtain ⟨a, rfl, ea⟩ := rep_loc_inv r2
      split at q2
      · rename_i _ c' fs e1
        split at q2
        · rename_i hc
          obtain ⟨hc, h1, h2⟩ := hc
          subst hc
          obtain ⟨dx, vs, h3, hl, rr⟩ := s2.obj l a _ ea e1
          have hll := rr.len
          refine ⟨a, _, dx, _, rfl, h3, hK ▸ C.cls, hK ▸ C.noA f (List.mem_of_getElem? hi), ?_, ?_⟩
          · rw [List.length_zip]
            have := C.few
            omega
          · rw [zip_put C.nd hi (by omega)]
            have x3 : Ext A2 H2 A2 (upd H2 a (.ins (g.cA c') dx ((g.fld c').zip (putAt i v vs)))) := ext_set ea (fun _ _ z => by rw [h3] at z; cases z)
            refine q2 A2 σ _ x3 ⟨M2.env.ext x3, s2.set ea ⟨dx, putAt i v vs, upd_same, ?_, (reps_put i rr (r1.ext x2)).ext x3⟩⟩
            unfold putAt
            split
            · rw [List.length_set]; exact hl
            · rw [List.length_append, List.length_singleton]; omega
        · exact q2.elim
      · exact q2.elim
    · exact q2.elim
/-! ### methods -/
structure GMt (P : Program) (w : World) (g : Gh) (mg : Str → Option Value) (base : Heap) (c : Nat) (m : Str) (k n : Nat) (F : Fn) : Prop where
  ex : ∃ f fd ps, Meth g.K (g.cA c) m f ∧ FnOk P w g.K mg base (L2N.CX P w) k f fd ps (spD g n F) ∧ Binds g.K fd ps []
  no : m ∉ g.fld c
theorem GMt.wm {P : Program} {w : World} {mg : Str → Option Value} {base : Heap} {c : Nat} {m : Str} {k n : Nat} {F : Fn} (G : GMt P w g mg base c m k n F) (M : List Addr) : GMt P w (g.wm M) mg base c m k n F := ⟨G.ex, G.no⟩
theorem GMt.pure {P : Program} {w : World} {mg : Str → Option Value} {base : Heap} {c : Nat} {m : Str} {k n : Nat} {F F' : Fn} (G : GMt P w g mg base c m k n F) (h : Fn.pure F' F) : GMt P w g mg base c m k n F' := by
  obtain ⟨f, fd, ps, h1, h3, h4⟩ := G.ex
  exact ⟨⟨f, fd, ps, h1, h3.imp fun vs H Q E q => spD_pure h q, h4⟩, G.no⟩
def isIns (c : Nat) (st : Sto) : D → Bool
  | .loc l => match st[l]? with
    | some (.ins c' _) => c' == c
    | _ => false
  | _ => false
theorem isIns_rep {A : List Addr} {st : Sto} {H : Hp} {c : Nat} {d : D} {v : V} (s : StOk g A st H) (r : Rep g A H d v) (h : isIns c st d = true) : ∃ a dx vs, v = .ref a ∧ H a = some (.ins (g.cA c) dx ((g.fld c).zip vs)) := by
  cases d with
  | loc l =>
    obtain ⟨a, rfl, ea⟩ := rep_loc_inv r
    unfold isIns at h
    dsimp only at h
    split at h
    · rename_i c' fs e
      obtain ⟨dx, vs, h1, _, _⟩ := s.obj l a _ ea e
      rw [eq_of_beq h] at h1
      exact ⟨a, dx, vs, rfl, h1⟩
    · cases h
  | _ => cases h
def dMth (c : Nat) (F : Fn) (fo : DE) (fs : List DE) : DE := fun env st => (fo env st).bind fun x st => if isIns c st x = true then (runL fs env st).bind fun ds st => F (x :: ds) st else .bad
theorem mth_fin {n : Nat} {F : Fn} {A : List Addr} {st : Sto} {σ : L2.St} {H : Hp} {x : D} {v : V} {ds : List D} {vs : List V} {Q : VK} (s : StOk g A st H) (rx : Rep g A H x v) (r : Reps g A H ds vs) (hn : ds.length + 1 = n) (q : RP g W (Rep g) A σ H (F (x :: ds) st) Q) : spD g n F (v :: vs) H Q (WE W σ) := by
  refine ⟨g.M, A, st, x :: ds, s, .cons rx r, hn, ?_⟩
  cases eF : F (x :: ds) st with
  | ok d st2 => rw [eF] at q; exact q
  | exc c st2 => rw [eF] at q; exact q
  | bad => rw [eF] at q; exact q
theorem de_mth {m : Str} {apos pos : Pos} {o e : Expr} {es : List Expr} {c k n : Nat} {F : Fn} {fo : DE} {fs : List DE} {pl : Sem Bool} (hK : g.K = X.K) (C : ClsD g c) (G : GMt X.prog X.w g X.mg X.base c m k n F) (hr : Room k X.A) (tk : L2N.Takes X W) (ho : PE X o (tD g W fo)) (ha : PA X (e :: es) (tL g W (runL fs))) (hn : fs.length + 1 = n)
    (hst : starEach (e :: es) X.env = (false, eval e X.env) :: starEach es X.env) (hpl : (backTo pos (starEach es X.env)).any (·.1) = false)
    (ht : eval (.Call (.Attribute o m apos) (e :: es) [] pos) X.env = (do
      let ov ← eval o X.env
      standAt apos.atName
      let fx ← holding [ov] (getMethod ov m pl)
      callWith pos fx.1 fx.2 (backTo pos (starEach (e :: es) X.env)) (backToKw pos (keywordEach [] X.env)))) : PE X (.Call (.Attribute o m apos) (e :: es) [] pos) (tD g W (dMth c F fo fs)) := by
  obtain ⟨f, fd, ps, hm, hF, hb⟩ := G.ex
  rw [hK] at hm hF hb
  refine ⟨fun pins s σ H Q I q => ?_⟩
  obtain ⟨A, env, st, M, q⟩ := q
  refine PySem.W.methodCall_KW (pl := pl) (thn (ho.run pins s σ H _ I (tR.bind (rel := Rep g) M q)) fun u s1 ⟨x, H1, I1, rx, A1, d, st1, x1, sk, r1, M1, q1⟩ => ?_) ht
  split at q1
  · rename_i hc
    obtain ⟨a, dx, vs0, rfl, h1⟩ := isIns_rep sk r1 hc
    obtain rfl : u = Value.ref a := rx
    refine getmeth_ok I1 h1 (hK ▸ C.cls) hm (zip_none G.no) ?_
    refine PySem.W.callWith_K (first := [.ref a]) (h₀ := X.base) I1.ok.mod.kin hm.kp (thn (ha.run pos pins s1 σ H1 _ I1 (tR.bindE (rel := Reps g) M1 q1)) fun us s2 ⟨vs, H2, I2, r, A2, ds, st2, e2, x2, s3, r3, M2, q2⟩ => ⟨I2.kIn, ?_⟩) hst hpl
    exact run_fnS (E := WE W) (us := .ref a :: us) (vs := .ref a :: vs) hF hr hb (L2N.passAt tk σ) I2 (.cons rfl r) (mth_fin s3 (r1.ext x2) r3 (by rw [runL_len e2]; exact hn) q2)
  · exact q1.elim
theorem de_mth0 {m : Str} {apos pos : Pos} {o : Expr} {c k : Nat} {F : Fn} {fo : DE} {pl : Sem Bool} (hK : g.K = X.K) (C : ClsD g c) (G : GMt X.prog X.w g X.mg X.base c m k 1 F) (hr : Room k X.A) (tk : L2N.Takes X W) (ho : PE X o (tD g W fo))
    (ht : eval (.Call (.Attribute o m apos) [] [] pos) X.env = (do
      let ov ← eval o X.env
      standAt apos.atName
      let fx ← holding [ov] (getMethod ov m pl)
      callWith pos fx.1 fx.2 (backTo pos (starEach [] X.env)) (backToKw pos (keywordEach [] X.env)))) : PE X (.Call (.Attribute o m apos) [] [] pos) (tD g W (dMth c F fo [])) := by
  obtain ⟨f, fd, ps, hm, hF, hb⟩ := G.ex
  rw [hK] at hm hF hb
  refine ⟨fun pins s σ H Q I q => ?_⟩
  obtain ⟨A, env, st, M, q⟩ := q
  refine PySem.W.methodCall_KW (pl := pl) (thn (ho.run pins s σ H _ I (tR.bind (rel := Rep g) M q)) fun u s1 ⟨x, H1, I1, rx, A1, d, st1, x1, sk, r1, M1, q1⟩ => ?_) ht
  split at q1
  · rename_i hc
    obtain ⟨a, dx, vs0, rfl, h1⟩ := isIns_rep sk r1 hc
    obtain rfl : u = Value.ref a := rx
    refine getmeth_ok I1 h1 (hK ▸ C.cls) hm (zip_none G.no) ?_
    exact PySem.W.callWith_K0 (first := [.ref a]) I1.kIn hm.kp (run_fnS (E := WE W) (us := [.ref a]) (vs := [.ref a]) hF hr hb (L2N.passAt tk σ) I1 (.cons rfl .nil) (mth_fin sk r1 .nil rfl q1))
  · exact q1.elim
end
end DL

/-! DL20: new instances; dicts made, stored to, asked, emptied. -/
namespace DL
open PySem PySem.Spec PyProof.Rows L2

section
variable {X : Cx} {g : Gh} {W : WX}
/-! ### C(..) -/
structure GNew (P : Program) (w : World) (g : Gh) (mg : Str → Option Value) (base : Heap) (c : Nat) (x : Str) (k n : Nat) (F : Fn) : Prop where
  ex : ∃ f fd ps, Mk g.K (g.cA c) f ∧ FnOk P w g.K mg base (L2N.CX P w) k f fd ps (spD g n F) ∧ Binds g.K fd ps []
  at_ : mg x = some (.ref (g.cA c))
theorem GNew.wm {P : Program} {w : World} {mg : Str → Option Value} {base : Heap} {c : Nat} {x : Str} {k n : Nat} {F : Fn} (G : GNew P w g mg base c x k n F) (M : List Addr) : GNew P w (g.wm M) mg base c x k n F := ⟨G.ex, G.at_⟩
def newD (c : Nat) (F : Fn) (ds : List D) (st : Sto) : Rs D := (noX (F (.loc st.length :: ds) (st ++ [.ins c []]))).bind fun v st' => match v with
  | .non => .ok (.loc st.length) st'
  | _ => .bad
def dNew (c : Nat) (F : Fn) (fs : List DE) : DE := fun env st => (runL fs env st).bind fun ds st => newD c F ds st
theorem new_fin {n c : Nat} {F : Fn} {A : List Addr} {st : Sto} {σ : L2.St} {H : Hp} {ds : List D} {vs : List V} {Q : VK} (s : StOk g A st H) (r : Reps g A H ds vs) (hn : ds.length + 1 = n) (q : RP g W (Rep g) A σ H (newD c F ds st) Q) (x dx : Addr) (hx : H x = none) (hdx : H dx = none) (hne : dx ≠ x) :
    spD g n F (.ref x :: vs) (upd (upd H dx (.own x)) x (.ins (g.cA c) dx [])) (fun v H2 => v = .non ∧ Q (.ref x) H2) fun _ _ _ => False := by
  have s1 : StOk g A st (upd H dx (.own x)) := s.val hdx
  have x1 : Ext A H A (upd H dx (.own x)) := ext_val s hdx
  have hx1 : (upd H dx (.own x)) x = none := by rw [upd_ne hne.symm]; exact hx
  have x2 : Ext A (upd H dx (.own x)) (A ++ [x]) (upd (upd H dx (.own x)) x (.ins (g.cA c) dx [])) := ext_new s1 hx1
  have s2 : StOk g (A ++ [x]) (st ++ [.ins c []]) (upd (upd H dx (.own x)) x (.ins (g.cA c) dx [])) := s1.new hx1 ⟨dx, [], by rw [List.zip_nil_right]; exact upd_same, Nat.zero_le _, .nil⟩
  have rl : Rep g (A ++ [x]) (upd (upd H dx (.own x)) x (.ins (g.cA c) dx [])) (.loc st.length) (.ref x) := by
    unfold Rep
    exact ⟨x, rfl, by rw [← s.len]; simp⟩
  refine ⟨g.M, A ++ [x], st ++ [.ins c []], .loc st.length :: ds, s2, .cons rl ((r.ext x1).ext x2), hn, ?_⟩
  unfold newD at q
  cases eF : F (.loc st.length :: ds) (st ++ [.ins c []]) with
  | exc c st2 => rw [eF] at q; exact q.elim
  | bad => rw [eF] at q; exact q.elim
  | ok d st2 =>
    rw [eF, noX_ok, Rs.bind_ok] at q
    split at q
    · intro A' v H' x3 s3 r3
      refine ⟨rep_non_inv r3, q A' (.ref x) H' ((x1.trans x2).trans x3) s3 ?_⟩
      exact rl.ext x3
    · exact q.elim
theorem never_passes : Passes (L2N.CX X.prog X.w) X (fun _ _ _ => False) := fun _ _ _ _ _ _ _ ⟨_, _, _, _, _, _, _, _, _, _, _, _, z⟩ => z.elim
theorem de_new {x : Str} {p pos : Pos} {e : Expr} {es : List Expr} {c k n : Nat} {F : Fn} {fs : List DE} (hK : g.K = X.K) (G : GNew X.prog X.w g X.mg X.base c x k n F) (hr : Room (k + 1) X.A) (hg : Gl X x) (ha : PA X (e :: es) (tL g W (runL fs))) (hn : fs.length + 1 = n)
    (hdb : (x == ("__debug__" : Str)) = false) (he : starEach (e :: es) X.env = (false, eval e X.env) :: starEach es X.env) (hpl : (backTo pos (starEach es X.env)).any (·.1) = false) : PE X (.Call (.Name x p) (e :: es) [] pos) (tD g W (dNew c F fs)) := by
  obtain ⟨f, fd, ps, hm, hF, hb⟩ := G.ex
  rw [hK] at hm hF hb
  refine pe_imp (pe_make (dvs := []) (ds := []) hm hF hr hg G.at_ hb .nil never_passes ha hdb he hpl) fun σ H Q q => ?_
  obtain ⟨A, env, st, M, q⟩ := q
  refine (tR.bindE (rel := Reps g) M q).mono fun vs H1 ⟨A1, ds, st1, e1, x1, s1, r1, M1, q1⟩ => fun y dy hy hdy hne => ?_
  rw [List.append_nil]
  exact new_fin s1 r1 (by rw [runL_len e1]; exact hn) q1 y dy hy hdy hne
theorem de_new0 {x : Str} {p pos : Pos} {c k : Nat} {F : Fn} (hK : g.K = X.K) (G : GNew X.prog X.w g X.mg X.base c x k 1 F) (hr : Room (k + 1) X.A) (hg : Gl X x) (hdb : (x == ("__debug__" : Str)) = false) : PE X (.Call (.Name x p) [] [] pos) (tD g W (dNew c F [])) := by
  obtain ⟨f, fd, ps, hm, hF, hb⟩ := G.ex
  rw [hK] at hm hF hb
  refine pe_imp (pe_make0 (dvs := []) (ds := []) hm hF hr hg G.at_ hb .nil never_passes hdb) fun σ H Q q => ?_
  obtain ⟨A, env, st, M, q⟩ := q
  exact fun y dy hy hdy hne => new_fin M.sto .nil rfl q y dy hy hdy hne

/-! ### dicts -/
def dDk : DE := fun _ st => .ok (.loc st.length) (st ++ [.dk false []])
def dDt : DE := fun _ st => .ok (.loc st.length) (st ++ [.dt false []])
theorem loc_new {A : List Addr} {st : Sto} {H : Hp} {p : Addr} {o : HO} (s : StOk g A st H) : Rep g (A ++ [p]) (upd H p o) (.loc st.length) (.ref p) := by
  unfold Rep
  exact ⟨p, rfl, by rw [← s.len]; simp⟩
theorem de_dk {pos : Pos} : PE X (.Dict [] [] pos) (tD g W dDk) := pe_imp pe_dnewK fun σ H Q q => by
  obtain ⟨A, env, st, M, q⟩ := q
  exact fun p hp => q _ (.ref p) _ (ext_new M.sto hp) (M.sto.new (ob := .dk false []) hp ⟨[], by simpa using upd_same, .nil, fun _ h => by cases h⟩) (loc_new M.sto)
theorem de_dt {pos : Pos} : PE X (.Dict [] [] pos) (tD g W dDt) := pe_imp pe_dnewT fun σ H Q q => by
  obtain ⟨A, env, st, M, q⟩ := q
  exact fun p hp => q _ (.ref p) _ (ext_new M.sto hp) (M.sto.new (ob := .dt false []) hp ⟨[], by simpa using upd_same, .nil, fun _ h => by cases h⟩) (loc_new M.sto)
end
section
variable {κ : Type} [DecidableEq κ] {g : Gh} {A : List Addr} {H : Hp}
abbrev PrR (g : Gh) (A : List Addr) (H : Hp) (κ : Type) : κ × D → κ × V → Prop := fun p q => p.1 = q.1 ∧ Rep g A H p.2 q.2
def putD (kvs : List (κ × D)) (k : κ) (d : D) : List (κ × D) := if kvs.any (fun kv => decide (kv.1 = k)) = true then kvs.map fun kv => if kv.1 = k then (kv.1, d) else kv else kvs ++ [(k, d)]
def dropD (kvs : List (κ × D)) (k : κ) : List (κ × D) := kvs.filter fun kv => decide (kv.1 ≠ k)
theorem prd_any {k : κ} : ∀ {kvs : List (κ × D)} {kv' : List (κ × V)}, Paired (PrR g A H κ) kvs kv' → (kvs.any fun kv => decide (kv.1 = k)) = kv'.any fun kv => decide (kv.1 = k)
  | _, _, .nil => rfl
  | _, _, .cons h t => by rw [List.any_cons, List.any_cons, h.1, prd_any t]
theorem prd_map {k : κ} {d : D} {v : V} (r : Rep g A H d v) : ∀ {kvs : List (κ × D)} {kv' : List (κ × V)}, Paired (PrR g A H κ) kvs kv' → Paired (PrR g A H κ) (kvs.map fun kv => if kv.1 = k then (kv.1, d) else kv) (kv'.map fun kv => if kv.1 = k then (kv.1, v) else kv)
  | _, _, .nil => .nil
  | (a, x) :: _, (b, y) :: _, .cons h t => by
    have e : a = b := h.1
    subst e
    refine .cons ?_ (prd_map r t)
    show PrR g A H κ (if a = k then (a, d) else (a, x)) (if a = k then (a, v) else (a, y))
    by_cases c : a = k
    · rw [if_pos c, if_pos c]; exact ⟨rfl, r⟩
    · rw [if_neg c, if_neg c]; exact h
theorem prd_app {a b : List (κ × D)} {a' b' : List (κ × V)} : Paired (PrR g A H κ) a a' → Paired (PrR g A H κ) b b' → Paired (PrR g A H κ) (a ++ b) (a' ++ b')
  | .nil, q => q
  | .cons h t, q => .cons h (prd_app t q)
theorem prd_put {k : κ} {d : D} {v : V} {kvs : List (κ × D)} {kv' : List (κ × V)} (p : Paired (PrR g A H κ) kvs kv') (r : Rep g A H d v) : Paired (PrR g A H κ) (putD kvs k d) (putK kv' k v) := by
  unfold putD putK
  rw [prd_any p]
  split
  · exact prd_map r p
  · exact prd_app p (.cons ⟨rfl, r⟩ .nil)
theorem prd_drop {k : κ} : ∀ {kvs : List (κ × D)} {kv' : List (κ × V)}, Paired (PrR g A H κ) kvs kv' → Paired (PrR g A H κ) (dropD kvs k) (dropK kv' k)
  | _, _, .nil => .nil
  | (a, x) :: r, (b, y) :: r', .cons h t => by
    have e : a = b := h.1
    subst e
    have ih := prd_drop (k := k) t
    unfold dropD dropK at ih ⊢
    by_cases c : a = k
    · rw [List.filter_cons_of_neg (by simpa using c), List.filter_cons_of_neg (by simpa using c)]; exact ih
    · rw [List.filter_cons_of_pos (by simpa using c), List.filter_cons_of_pos (by simpa using c)]; exact .cons h ih
theorem putD_keys {kvs : List (κ × D)} {k : κ} {d : D} {p : κ × D} (h : p ∈ putD kvs k d) : p.1 = k ∨ ∃ q ∈ kvs, q.1 = p.1 := by
  unfold putD at h
  split at h
  · obtain ⟨q, hq, e⟩ := List.mem_map.mp h
    by_cases c : q.1 = k
    · rw [if_pos c] at e; exact .inl (by rw [← e]; exact c)
    · rw [if_neg c] at e; exact .inr ⟨q, hq, by rw [e]⟩
  · rcases List.mem_append.mp h with h | h
    · exact .inr ⟨p, h, rfl⟩
    · rw [List.mem_singleton.mp h]; exact .inl rfl
end
section
variable {X : Cx} {g : Gh} {W : WX}
theorem keyOf_ok {A : List Addr} {H : Hp} {d : D} {k : Key} {v : V} (h : keyOf d = some k) (r : Rep g A H d v) : KOk k := by
  cases d <;> cases h
  · trivial
  · exact (rep_str_inv r).2
theorem keysOf_ok {A : List Addr} {H : Hp} : ∀ {ds : List D} {ks : List Key} {vs : List V}, keysOf ds = some ks → Reps g A H ds vs → ∀ k ∈ ks, KOk k
  | [], ks, vs, h, r => by cases h; exact fun _ h => by cases h
  | d :: ds, ks, vs, h, r => by
    unfold keysOf at h
    obtain ⟨k, e1, e2⟩ := Option.bind_eq_some_iff.mp h
    obtain ⟨ls, e3, e4⟩ := Option.map_eq_some_iff.mp e2
    obtain ⟨v, ws, rfl, r1, r2⟩ := r.cons_inv
    subst e4
    intro j hj
    rcases List.mem_cons.mp hj with e | hj
    · rw [e]; exact keyOf_ok e1 r1
    · exact keysOf_ok e3 r2 j hj
/-- d[k] = v -/
def putS (l : Nat) (k v : D) (st : Sto) : Option Sto := match st[l]? with
  | some (.dk false kvs) => match keyOf k with
    | some key => if kvs.length < 1000000 then some (st.set l (.dk false (putD kvs key v))) else none
    | none => none
  | some (.dt false kvs) => match k with
    | .tup ks => match keysOf ks with
      | some key => if kvs.length < 1000000 then some (st.set l (.dt false (putD kvs key v))) else none
      | none => none
    | _ => none
  | _ => none
def dPut (fd fk fv : DE) : DS := fun env st => (fv env st).thn env fun v st => (fd env st).thn env fun d st => (fk env st).thn env fun k st => match d with
  | .loc l => match putS l k v st with
    | some st' => .nx env st'
    | none => .bad
  | _ => .bad
theorem prd_len {κ : Type} {A : List Addr} {H : Hp} : ∀ {kvs : List (κ × D)} {kv' : List (κ × V)}, Paired (PrR g A H κ) kvs kv' → kvs.length = kv'.length
  | _, _, .nil => rfl
  | _, _, .cons _ t => by rw [List.length_cons, List.length_cons, prd_len t]
theorem putS_ok {A : List Addr} {st st' : Sto} {H : Hp} {l : Nat} {a : Addr} {k d : D} {v u : V} (s : StOk g A st H) (ea : A[l]? = some a) (rk : Rep g A H k u) (rd : Rep g A H d v) (h : putS l k d st = some st') : ∃ H', DPut H a u v H' ∧ Ext A H A H' ∧ StOk g A st' H' := by
  unfold putS at h
  split at h
  · rename_i kvs e
    split at h
    · rename_i _ key ek
      split at h
      · rename_i hl
        cases h
        obtain ⟨kv', h1, p, ko⟩ := s.obj l a _ ea e
        have h1' : H a = some (.dK kv') := by simpa using h1
        have x1 : Ext A H A (upd H a (.dK (putK kv' key v))) := ext_set ea (fun _ _ z => by rw [h1'] at z; cases z)
        refine ⟨_, by rw [keyOf_rep ek rk]; exact .k h1' (by rw [← prd_len p, sizeLine_eq]; omega), x1, s.set ea ⟨putK kv' key v, by simpa using upd_same, prd_mono (prd_put p rd) fun _ _ q => ⟨q.1, q.2.ext x1⟩, fun q hq => ?_⟩⟩
        rcases putD_keys hq with e2 | ⟨q', hq', e2⟩
        · rw [e2]; exact keyOf_ok ek rk
        · rw [← e2]; exact ko q' hq'
      · cases h
    · cases h
  · rename_i kvs e
    split at h
    · rename_i ks
      split at h
      · rename_i _ key ek
        split at h
        · rename_i hl
          cases h
          obtain ⟨kv', h1, p, ko⟩ := s.obj l a _ ea e
          have h1' : H a = some (.dT kv') := by simpa using h1
          have x1 : Ext A H A (upd H a (.dT (putK kv' key v))) := ext_set ea (fun _ _ z => by rw [h1'] at z; cases z)
          obtain ⟨b, vs, rfl, hb, rr⟩ := rep_tup_inv rk
          have kk := keysOf_ok ek rr
          rw [keysOf_rep ek rr] at hb
          refine ⟨_, .t h1' hb (by rw [← prd_len p, sizeLine_eq]; omega), x1, s.set ea ⟨putK kv' key v, by simpa using upd_same, prd_mono (prd_put p rd) fun _ _ q => ⟨q.1, q.2.ext x1⟩, fun q hq => ?_⟩⟩
          rcases putD_keys hq with e2 | ⟨q', hq', e2⟩
          · rw [e2]; exact kk
          · rw [← e2]; exact ko q' hq'
        · cases h
      · cases h
    · cases h
  · cases h
theorem ds_put {o i value : Expr} {pos pos' : Pos} {fd fk fv : DE} (hu : X.A.units + 1 < cLine) (ho : PE X o (tD g W fd)) (hi : PE X i (tD g W fk)) (hv : PE X value (tD g W fv)) (hs : swapsWith value (some (.Subscript o i pos')) pos.line X.env = pure false) : PS X (.Assign [.Subscript o i pos'] value pos) (tS g W (dPut fd fk fv)) :=
  ps_imp (ps_dput hu ho hi hv hs) fun D σ H q => by
    obtain ⟨A, env, st, M, q⟩ := q
    refine (tS.bind (rel := Rep g) M q).mono fun v H1 ⟨A1, y, st1, _, x1, s1, r1, M1, q1⟩ => ?_
    refine (tS.bind (rel := Rep g) M1 q1).mono fun u H2 ⟨A2, d, st2, _, x2, s2, r2, M2, q2⟩ => ?_
    refine (tS.bind (rel := Rep g) M2 q2).mono fun w H3 ⟨A3, k, st3, _, x3, s3, r3, M3, q3⟩ => ?_
    split at q3
    · rename_i l _
      obtain ⟨a, rfl, ea⟩ := rep_loc_inv (r2.ext x3)
      split at q3
      · rename_i _ st' e
        obtain ⟨H4, h1, h2, h3⟩ := putS_ok s3 ea r3 (r1.ext (x2.trans x3)) e
        exact ⟨a, H4, rfl, h1, q3 A3 σ H4 h2 ⟨M3.env.ext h2, h3⟩⟩
      · exact q3.elim
    · exact q3.elim
end
end DL

/-! DL21: dicts walked (locked the while), asked, copied, sorted. -/
namespace DL
open PySem PySem.Spec PyProof.Rows L2

def keyD : Key → D
  | .inl i => .int i
  | .inr s => .str s
section
variable {g : Gh} {A A' : List Addr} {H H' : Hp} {st : Sto}
theorem key_rep {k : Key} (h : KOk k) : Rep g A H (keyD k) (kV k) := by
  cases k with
  | inl i => exact rep_int i
  | inr s => exact rep_str h
theorem keys_rep : ∀ {ks : List Key}, (∀ k ∈ ks, KOk k) → Reps g A H (ks.map keyD) (ks.map kV)
  | [], _ => .nil
  | k :: ks, h => .cons (key_rep (h k List.mem_cons_self)) (keys_rep fun j hj => h j (List.mem_cons_of_mem _ hj))
theorem prd_at {κ : Type} : ∀ {kvs : List (κ × D)} {kv' : List (κ × V)} {i : Nat} {k : κ} {v : V}, Paired (PrR g A H κ) kvs kv' → kv'[i]? = some (k, v) → ∃ d, kvs[i]? = some (k, d) ∧ Rep g A H d v
  | _, _, i, k, v, .nil, h => by simp at h
  | (a, x) :: _, (b, y) :: _, 0, k, v, .cons p t, h => by
    simp at h
    obtain ⟨rfl, rfl⟩ := h
    have e : a = b := p.1
    subst e
    exact ⟨x, rfl, p.2⟩
  | _ :: _, _ :: _, i + 1, k, v, .cons p t, h => by
    obtain ⟨d, e, r⟩ := prd_at (i := i) t (by simpa using h)
    exact ⟨d, by simpa using e, r⟩
theorem sto_notup (s : StOk g A st H) {a : Addr} {xs : List V} (h : H a = some (.tup xs)) : a ∉ A := fun m => by
  obtain ⟨l, hl, e⟩ := List.getElem_of_mem m
  have e1 : A[l]? = some a := List.getElem?_eq_some_iff.mpr ⟨hl, e⟩
  have hl2 : l < st.length := by rw [← s.len]; exact hl
  have o := s.obj l a st[l] e1 (List.getElem?_eq_getElem hl2)
  cases e3 : st[l] with
  | lst ds => rw [e3] at o; obtain ⟨vs, e2, _⟩ := o; rw [h] at e2; cases e2
  | ins c fs => rw [e3] at o; obtain ⟨dx, vs, e2, _⟩ := o; rw [h] at e2; cases e2
  | dk z kvs =>
    rw [e3] at o
    obtain ⟨kv', e2, _⟩ := o
    cases z with
    | true => obtain ⟨x, e2⟩ := (by simpa using e2 : ∃ o, H a = some (.frz o (.dK kv'))); rw [h] at e2; cases e2
    | false => rw [h] at e2; simp at e2
  | dt z kvs =>
    rw [e3] at o
    obtain ⟨kv', e2, _⟩ := o
    cases z with
    | true => obtain ⟨x, e2⟩ := (by simpa using e2 : ∃ o, H a = some (.frz o (.dT kv'))); rw [h] at e2; cases e2
    | false => rw [h] at e2; simp at e2
/-! ### the keys of a locked dict -/
theorem yields_keys {d : Addr} {o : Obj} {kvs : List (Key × D)} {kv' : List (Key × V)} (h : H d = some (.frz o (.dK kv'))) (p : Paired (PrR g A H Key) kvs kv') (ko : ∀ q ∈ kvs, KOk q.1) : Yields g (Itk d o kv') A H (kvs.map fun q => keyD q.1) := fun i M A2 H2 st x hM s => by
  have h2 := x.frz d o _ h
  have hl := prd_len p
  rw [List.length_map]
  refine ⟨fun hi => ⟨⟨h2, by omega⟩, fun v H' y => ?_⟩, fun hi => ⟨h2, by omega⟩⟩
  obtain ⟨rfl, k, w, e, rfl⟩ := y
  obtain ⟨dd, e2, _⟩ := prd_at p e
  exact ⟨keyD k, by rw [List.getElem?_map, e2]; rfl, .refl _ _, s, key_rep (ko _ (List.mem_of_getElem? e2))⟩
theorem yields_keysT {d : Addr} {o : Obj} {kvs : List (List Key × D)} {kv' : List (List Key × V)} (h : H d = some (.frz o (.dT kv'))) (p : Paired (PrR g A H (List Key)) kvs kv') (ko : ∀ q ∈ kvs, ∀ k ∈ q.1, KOk k) : Yields g (Itkt d o kv') A H (kvs.map fun q => .tup (q.1.map keyD)) := fun i M A2 H2 st x hM s => by
  have h2 := x.frz d o _ h
  have hl := prd_len p
  rw [List.length_map]
  refine ⟨fun hi => ⟨⟨h2, by omega⟩, fun v H' y => ?_⟩, fun hi => ⟨h2, by omega⟩⟩
  obtain ⟨rfl, k, w, q, e, rfl, hq⟩ := y
  obtain ⟨dd, e2, _⟩ := prd_at p e
  refine ⟨.tup (k.map keyD), by rw [List.getElem?_map, e2]; rfl, .refl _ _, s, ?_⟩
  unfold Rep
  exact ⟨q, _, rfl, hq, sto_notup s hq, keys_rep (ko _ (List.mem_of_getElem? e2))⟩
/-! ### locked, let go -/
theorem mutK {kv : List (Key × V)} : Mut (some (.dK kv)) := by first | trivial | exact True.intro
theorem mutT {kv : List (List Key × V)} : Mut (some (.dT kv)) := by first | trivial | exact True.intro
theorem lock_ext {a : Addr} {u : HO} {od : Obj} (ha : a ∈ A) (h : H a = some u) (nf : ∀ x w, u ≠ .frz x w) (x : Ext A (upd H a (.frz od u)) A' H') : Ext A H A' H' :=
  ⟨⟨x.pre, fun b o n e => x.keep b o n (by
    have hb : b ≠ a := fun z => n (z ▸ ha)
    rw [upd_ne hb]; exact e)⟩, fun b o w e => by
    have hb : b ≠ a := fun z => by rw [z, h] at e; cases e; exact nf _ _ rfl
    exact x.frz b o w (by rw [upd_ne hb]; exact e)⟩
theorem unlock_ext {a : Addr} {u : HO} {od : Obj} (ha : a ∈ A) (h : H a = some u) (nf : ∀ x w, u ≠ .frz x w) (x : Ext A (upd H a (.frz od u)) A' H') : Ext A H A' (upd H' a u) :=
  ⟨⟨x.pre, fun b o n e => by
    have hb : b ≠ a := fun z => n (z ▸ ha)
    obtain ⟨k1, k2⟩ := x.keep b o n (by rw [upd_ne hb]; exact e)
    exact ⟨k1, by rw [upd_ne hb]; exact k2⟩⟩, fun b o w e => by
    have hb : b ≠ a := fun z => by rw [z, h] at e; cases e; exact nf _ _ rfl
    rw [upd_ne hb]
    exact x.frz b o w (by rw [upd_ne hb]; exact e)⟩
end
def unl (l : Nat) (o : Ob) : SR → SR
  | .nx e st => .nx e (st.set l o)
  | .rt d st => .rt d (st.set l o)
  | .bk e st => .bk e (st.set l o)
  | .ct e st => .ct e (st.set l o)
  | .exc c e st => .exc c e st
  | .bad => .bad
def unlR {α : Type} (l : Nat) (o : Ob) : Rs α → Rs α
  | .ok a st => .ok a (st.set l o)
  | .exc c st => .exc c st
  | .bad => .bad
abbrev Lc := En → Sto → Option Nat
def dLock (lc : Lc) (b : DS) : DS := fun env st => match lc env st with
  | some l => match st[l]? with
    | some (.dk false kvs) => unl l (.dk false kvs) (b env (st.set l (.dk true kvs)))
    | some (.dt false kvs) => unl l (.dt false kvs) (b env (st.set l (.dt true kvs)))
    | _ => .bad
  | none => .bad
def dLockE (lc : Lc) (f : DE) : DE := fun env st => match lc env st with
  | some l => match st[l]? with
    | some (.dk false kvs) => unlR l (.dk false kvs) (f env (st.set l (.dk true kvs)))
    | some (.dt false kvs) => unlR l (.dt false kvs) (f env (st.set l (.dt true kvs)))
    | _ => .bad
  | none => .bad
/-- the dict that stands in a name; in an attribute of a name -/
def lcV (i : Nat) : Lc := fun env _ => match env[i]? with
  | some (some (.loc l)) => some l
  | _ => none
def lcF (c i : Nat) (lc : Lc) : Lc := fun env st => match lc env st with
  | some l => match st[l]? with
    | some (.ins c' fs) => if c' = c then (match fs[i]? with
      | some (.loc m) => some m
      | _ => none) else none
    | _ => none
  | none => none
section
variable {X : Cx} {g : Gh} {W : WX}
/-- what locking a thing and letting it go means for the readings -/
structure LockF (g : Gh) (A : List Addr) (H : Hp) (st : Sto) (l : Nat) (a : Addr) (u : HO) (o o1 : Ob) : Prop where
  at_ : A[l]? = some a
  was : H a = some u
  mu : Mut (some u)
  nf : ∀ x w, u ≠ .frz x w
  on : ∀ od, StOk g A (st.set l o1) (upd H a (.frz od u))
  off : ∀ od A' st' H', Ext A (upd H a (.frz od u)) A' H' → StOk g A' st' H' → StOk g A' (st'.set l o) (upd H' a u)
theorem lockK {A : List Addr} {st : Sto} {H : Hp} {l : Nat} {kvs : List (Key × D)} {a : Addr} (s : StOk g A st H) (ea : A[l]? = some a) (e : st[l]? = some (.dk false kvs)) : ∃ u, LockF g A H st l a u (.dk false kvs) (.dk true kvs) := by
  obtain ⟨kv', h1, p, ko⟩ := s.obj l a _ ea e
  have h1' : H a = some (.dK kv') := by simpa using h1
  refine ⟨.dK kv', ea, h1', mutK, (fun _ _ z => nomatch z), fun od => s.set ea ⟨kv', by simp [upd_same], prd_mono p fun _ _ q => ⟨q.1, Rep.ext0 (ext_set0 ea) q.2⟩, ko⟩, fun od A' st' H' x s' => ?_⟩
  exact s'.set (x.at ea) ⟨kv', by simpa using upd_same, prd_mono p fun _ _ q => ⟨q.1, q.2.ext (unlock_ext (List.mem_of_getElem? ea) h1' (fun _ _ z => nomatch z) x)⟩, ko⟩
theorem lockT {A : List Addr} {st : Sto} {H : Hp} {l : Nat} {kvs : List (List Key × D)} {a : Addr} (s : StOk g A st H) (ea : A[l]? = some a) (e : st[l]? = some (.dt false kvs)) : ∃ u, LockF g A H st l a u (.dt false kvs) (.dt true kvs) := by
  obtain ⟨kv', h1, p, ko⟩ := s.obj l a _ ea e
  have h1' : H a = some (.dT kv') := by simpa using h1
  refine ⟨.dT kv', ea, h1', mutT, (fun _ _ z => nomatch z), fun od => s.set ea ⟨kv', by simp [upd_same], prd_mono p fun _ _ q => ⟨q.1, Rep.ext0 (ext_set0 ea) q.2⟩, ko⟩, fun od A' st' H' x s' => ?_⟩
  exact s'.set (x.at ea) ⟨kv', by simpa using upd_same, prd_mono p fun _ _ q => ⟨q.1, q.2.ext (unlock_ext (List.mem_of_getElem? ea) h1' (fun _ _ z => nomatch z) x)⟩, ko⟩
theorem EnOk.ext0 {A A' : List Addr} {env : En} {σ : L2.St} {H H' : Hp} (x : Ext0 A H A' H') (e : EnOk g A env σ H) : EnOk g A' env σ H' :=
  ⟨e.len, fun i d h => let ⟨v, a, b⟩ := e.slot i d h; ⟨v, a, Rep.ext0 x b⟩⟩
theorem lockS_imp {b : DS} {D : Ends} {σ : L2.St} {H : Hp} {A : List Addr} {env : En} {st : Sto} {l : Nat} {a : Addr} {u : HO} {o o1 : Ob} (M : Mt g A env st σ H) (L : LockF g A H st l a u o o1) (q : SPd g W D A H (unl l o (b env (st.set l o1)))) : tLock (tS g W b) D σ H := by
  have ha := List.mem_of_getElem? L.at_
  refine ⟨a, u, L.was, L.mu, fun od => ?_⟩
  refine ⟨A, env, st.set l o1, ⟨M.env.ext0 (ext_set0 L.at_), L.on od⟩, ?_⟩
  cases e : b env (st.set l o1) with
  | nx e' st' =>
    rw [e] at q
    exact fun A' σ' H' x M' => ⟨x.frz a od u upd_same, q A' σ' _ (unlock_ext ha L.was L.nf x) ⟨M'.env.ext0 (ext_set0 (x.at L.at_)), L.off od A' st' H' x M'.sto⟩⟩
  | rt d st' =>
    rw [e] at q
    exact fun A' v H' x s' r => ⟨x.frz a od u upd_same, q A' v _ (unlock_ext ha L.was L.nf x) (L.off od A' st' H' x s') (Rep.ext0 (ext_set0 (x.at L.at_)) r)⟩
  | bk e' st' =>
    rw [e] at q
    exact fun A' σ' H' x M' => ⟨x.frz a od u upd_same, q A' σ' _ (unlock_ext ha L.was L.nf x) ⟨M'.env.ext0 (ext_set0 (x.at L.at_)), L.off od A' st' H' x M'.sto⟩⟩
  | ct e' st' =>
    rw [e] at q
    exact fun A' σ' H' x M' => ⟨x.frz a od u upd_same, q A' σ' _ (unlock_ext ha L.was L.nf x) ⟨M'.env.ext0 (ext_set0 (x.at L.at_)), L.off od A' st' H' x M'.sto⟩⟩
  | exc c e' st' =>
    rw [e] at q
    exact fun A' σ' H' dx x M' => q A' σ' H' dx (lock_ext ha L.was L.nf x) M'
  | bad => rw [e] at q; exact q.elim
theorem lcV_ok {A : List Addr} {env : En} {st : Sto} {σ : L2.St} {H : Hp} {i l : Nat} (M : Mt g A env st σ H) (h : lcV i env st = some l) : ∃ a, A[l]? = some a := by
  unfold lcV at h
  split at h
  · rename_i l' e
    cases h
    obtain ⟨v, _, r⟩ := M.env.slot i _ e
    obtain ⟨a, _, ea⟩ := rep_loc_inv r
    exact ⟨a, ea⟩
  · cases h
/-- a locator tells places that stand -/
def LcOk (g : Gh) (lc : Lc) : Prop := ∀ (A : List Addr) (env : En) (st : Sto) (σ : L2.St) (H : Hp) (l : Nat), Mt g A env st σ H → lc env st = some l → ∃ a, A[l]? = some a
theorem LcOk.v (i : Nat) : LcOk g (lcV i) := fun _ _ _ _ _ _ M h => lcV_ok M h
theorem LcOk.f (c i : Nat) {lc : Lc} (ok : LcOk g lc) : LcOk g (lcF c i lc) := fun A env st σ H l M h => by
  unfold lcF at h
  split at h
  · rename_i m e
    obtain ⟨a, ea⟩ := ok A env st σ H m M e
    split at h
    · rename_i c' fs e2
      split at h
      · split at h
        · rename_i m' e3
          cases h
          obtain ⟨dx, vs, h1, hl, rr⟩ := M.sto.obj m a _ ea e2
          obtain ⟨v, _, r⟩ := rr.get e3
          obtain ⟨b, _, eb⟩ := rep_loc_inv r
          exact ⟨b, eb⟩
        · cases h
      · cases h
    · cases h
  · cases h
theorem ds_lock {s : Stmt} {lc : Lc} {b : DS} (ok : LcOk g lc) (h : PS X s (tS g W b)) : PS X s (tS g W (dLock lc b)) :=
  ps_imp (ps_lock h) fun D σ H q => by
    obtain ⟨A, env, st, M, q⟩ := q
    unfold dLock at q
    split at q
    · rename_i l e
      obtain ⟨a, ea⟩ := ok A env st σ H l M e
      split at q
      · rename_i kvs e2
        obtain ⟨u, L⟩ := lockK M.sto ea e2
        exact lockS_imp M L q
      · rename_i kvs e2
        obtain ⟨u, L⟩ := lockT M.sto ea e2
        exact lockS_imp M L q
      · exact q.elim
    · exact q.elim
theorem lockE_imp {f : DE} {σ : L2.St} {H : Hp} {Q : VK} {A : List Addr} {env : En} {st : Sto} {l : Nat} {a : Addr} {u : HO} {o o1 : Ob} (M : Mt g A env st σ H) (L : LockF g A H st l a u o o1) (q : RP g W (Rep g) A σ H (unlR l o (f env (st.set l o1))) Q) : tLockE (tD g W f) σ H Q := by
  have ha := List.mem_of_getElem? L.at_
  refine ⟨a, u, L.was, L.mu, fun od => ⟨A, env, st.set l o1, ⟨M.env.ext0 (ext_set0 L.at_), L.on od⟩, ?_⟩⟩
  cases e : f env (st.set l o1) with
  | ok d st' =>
    rw [e] at q
    exact fun A' v H' x s' r => ⟨x.frz a od u upd_same, q A' v _ (unlock_ext ha L.was L.nf x) (L.off od A' st' H' x s') (Rep.ext0 (ext_set0 (x.at L.at_)) r)⟩
  | exc c st' =>
    rw [e] at q
    exact fun A' H' dx x s' => q A' H' dx (lock_ext ha L.was L.nf x) s'
  | bad => rw [e] at q; exact q.elim
theorem de_lock {e : Expr} {lc : Lc} {f : DE} (ok : LcOk g lc) (h : PE X e (tD g W f)) : PE X e (tD g W (dLockE lc f)) :=
  pe_imp (pe_lock h) fun σ H Q q => by
    obtain ⟨A, env, st, M, q⟩ := q
    unfold dLockE at q
    split at q
    · rename_i l e
      obtain ⟨a, ea⟩ := ok A env st σ H l M e
      split at q
      · rename_i kvs e2
        obtain ⟨u, L⟩ := lockK M.sto ea e2
        exact lockE_imp M L q
      · rename_i kvs e2
        obtain ⟨u, L⟩ := lockT M.sto ea e2
        exact lockE_imp M L q
      · exact q.elim
    · exact q.elim
/-! ### for k in d -/
def asKeys : D → Sto → Rs (List D)
  | .loc l, st => match st[l]? with
    | some (.dk true kvs) => .ok (kvs.map fun q => keyD q.1) st
    | some (.dt true kvs) => .ok (kvs.map fun q => .tup (q.1.map keyD)) st
    | _ => .bad
  | _, _ => .bad
def dIterK (f : DE) : DA := fun env st => (f env st).bind asKeys
theorem di_keys {tg e : Expr} {f : DE} (he : PE X e (tD g W f)) : PI X tg e (tY g W (dIterK f)) :=
  pi_imp (pi_keys he) fun σ H R q => tY.of (rel := Rep g) (fun _ _ => rfl) (fun A d st1 v H1 s r => by
    unfold asKeys
    cases d with
    | loc l =>
      obtain ⟨a, rfl, ea⟩ := rep_loc_inv r
      dsimp only
      cases e : st1[l]? with
      | none => exact ⟨fun _ _ e => (nomatch e), fun _ e => (nomatch e), fun _ _ e => (nomatch e)⟩
      | some o =>
        cases o with
        | dk z kvs =>
          cases z with
          | false => exact ⟨fun _ _ e => (nomatch e), fun _ e => (nomatch e), fun _ _ e => (nomatch e)⟩
          | true =>
            refine ⟨fun _ _ e => by cases e; rfl, fun ds' e3 k => ?_, fun _ _ e => (nomatch e)⟩
            cases e3
            obtain ⟨kv', h1, p, ko⟩ := s.obj l a _ ea e
            obtain ⟨od, h1⟩ := (by simpa using h1 : ∃ o, H1 a = some (.frz o (.dK kv')))
            exact ⟨a, od, rfl, .inl ⟨kv', h1, k _ (yields_keys h1 p ko)⟩⟩
        | dt z kvs =>
          cases z with
          | false => exact ⟨fun _ _ e => (nomatch e), fun _ e => (nomatch e), fun _ _ e => (nomatch e)⟩
          | true =>
            refine ⟨fun _ _ e => by cases e; rfl, fun ds' e3 k => ?_, fun _ _ e => (nomatch e)⟩
            cases e3
            obtain ⟨kv', h1, p, ko⟩ := s.obj l a _ ea e
            obtain ⟨od, h1⟩ := (by simpa using h1 : ∃ o, H1 a = some (.frz o (.dT kv')))
            exact ⟨a, od, rfl, .inr ⟨kv', h1, k _ (yields_keysT h1 p ko)⟩⟩
        | _ => exact ⟨fun _ _ e => (nomatch e), fun _ e => (nomatch e), fun _ _ e => (nomatch e)⟩
    | _ => exact ⟨fun _ _ e => (nomatch e), fun _ e => (nomatch e), fun _ _ e => (nomatch e)⟩) q
end
end DL

/-! DL22: get, pop, list, sorted, dict of dicts; min of data. -/
namespace DL
open PySem PySem.Spec PyProof.Rows L2

section
variable {X : Cx} {g : Gh} {W : WX}
/-- what a dict in the store holds at a key -/
def getO (l : Nat) (k : D) (st : Sto) : Option (Option D) := match st[l]? with
  | some (.dk _ kvs) => (keyOf k).map fun key => look kvs key
  | some (.dt _ kvs) => match k with
    | .tup ks => (keysOf ks).map fun key => look kvs key
    | _ => none
  | _ => none
def OptR (g : Gh) (A : List Addr) (H : Hp) : Option D → Option V → Prop
  | some d, some v => Rep g A H d v
  | none, none => True
  | _, _ => False
theorem getO_rep {A : List Addr} {st : Sto} {H : Hp} {l : Nat} {a : Addr} {k : D} {u : V} {o : Option D} (s : StOk g A st H) (ea : A[l]? = some a) (rk : Rep g A H k u) (h : getO l k st = some o) : ∃ o', DGet H a u o' ∧ OptR g A H o o' := by
  unfold getO at h
  split at h
  · rename_i z kvs e
    obtain ⟨key, ek, h⟩ := Option.map_eq_some_iff.mp h
    subst h
    have gg := dget_rep (k := key) s ea e
    rw [keyOf_rep ek rk]
    cases hl : look kvs key with
    | some d => rw [hl] at gg; obtain ⟨v, g1, r⟩ := gg; exact ⟨_, g1, r⟩
    | none => rw [hl] at gg; exact ⟨_, gg, trivial⟩
  · rename_i z kvs e
    split at h
    · rename_i ks
      obtain ⟨key, ek, h⟩ := Option.map_eq_some_iff.mp h
      subst h
      obtain ⟨b, vs, rfl, hb, rr⟩ := rep_tup_inv rk
      rw [keysOf_rep ek rr] at hb
      have gg := dtget_rep (k := key) s ea e hb
      cases hl : look kvs key with
      | some d => rw [hl] at gg; obtain ⟨v, g1, r⟩ := gg; exact ⟨_, g1, r⟩
      | none => rw [hl] at gg; exact ⟨_, gg, trivial⟩
    · cases h
  · cases h
def isDi (st : Sto) : D → Bool
  | .loc l => match st[l]? with
    | some (.dk _ _) => true
    | some (.dt _ _) => true
    | _ => false
  | _ => false
theorem isDi_rep {A : List Addr} {st : Sto} {H : Hp} {d : D} {v : V} (s : StOk g A st H) (r : Rep g A H d v) (h : isDi st d = true) : ∃ l a, d = .loc l ∧ v = .ref a ∧ A[l]? = some a ∧ IsD H a := by
  cases d with
  | loc l =>
    obtain ⟨a, rfl, ea⟩ := rep_loc_inv r
    refine ⟨l, a, rfl, rfl, ea, ?_⟩
    unfold isDi at h
    dsimp only at h
    split at h
    · rename_i z kvs e
      obtain ⟨kv', h1, _⟩ := s.obj l a _ ea e
      cases z with
      | true => obtain ⟨o, h1⟩ := (by simpa using h1 : ∃ o, H a = some (.frz o (.dK kv'))); exact .inl ⟨kv', .inr ⟨o, h1⟩⟩
      | false => exact .inl ⟨kv', .inl (by simpa using h1)⟩
    · rename_i z kvs e
      obtain ⟨kv', h1, _⟩ := s.obj l a _ ea e
      cases z with
      | true => obtain ⟨o, h1⟩ := (by simpa using h1 : ∃ o, H a = some (.frz o (.dT kv'))); exact .inr ⟨kv', .inr ⟨o, h1⟩⟩
      | false => exact .inr ⟨kv', .inl (by simpa using h1)⟩
    · cases h
  | _ => cases h
/-! ### d.get(k) -/
def getD1 : D → D → Sto → Rs D
  | .loc l, k, st => match getO l k st with
    | some (some d) => .ok d st
    | some none => .ok .non st
    | none => .bad
  | _, _, _ => .bad
def dGet1 (fd fk : DE) : DE := fun env st => (fd env st).bind fun x st => if isDi st x = true then (fk env st).bind fun k st => getD1 x k st else .bad
theorem de_get1 {o e : Expr} {apos cpos : Pos} {fd fk : DE} (hu : X.A.units + 1 < cLine) (ho : PE X o (tD g W fd)) (he : PE X e (tD g W fk)) (m : M1 X o "get" apos e cpos) : PE X (.Call (.Attribute o "get" apos) [e] [] cpos) (tD g W (dGet1 fd fk)) :=
  pe_imp (pe_dget1 hu ho he m) fun σ H Q q => by
    obtain ⟨A, env, st, M, q⟩ := q
    refine (tR.bind (rel := Rep g) M q).mono fun v H1 ⟨A1, d, st1, x1, s1, r1, M1, q1⟩ => ?_
    split at q1
    · rename_i hc
      obtain ⟨l, a, rfl, rfl, ea, hd⟩ := isDi_rep s1 r1 hc
      refine ⟨a, rfl, hd, ?_⟩
      refine (tR.bind (rel := Rep g) M1 q1).mono fun u H2 ⟨A2, k, st2, x2, s2, r2, M2, q2⟩ => ?_
      unfold getD1 at q2
      dsimp only at q2
      cases eg : getO l k st2 with
      | none => rw [eg] at q2; exact q2.elim
      | some o =>
        rw [eg] at q2
        obtain ⟨o', g1, g2⟩ := getO_rep s2 (x2.at ea) r2 eg
        cases o with
        | some d =>
          cases o' with
          | some w => exact ⟨_, g1, q2 A2 _ H2 (.refl _ _) s2 g2⟩
          | none => exact g2.elim
        | none =>
          cases o' with
          | some w => exact g2.elim
          | none => exact ⟨_, g1, q2 A2 _ H2 (.refl _ _) s2 rep_non⟩
    · exact q1.elim
/-! ### d.pop(k), d.pop(k, x): keys that are numbers or texts -/
def popD1 : D → D → Sto → Rs D
  | .loc l, k, st => match st[l]? with
    | some (.dk false kvs) => match keyOf k with
      | some key => match look kvs key with
        | some d => .ok d (st.set l (.dk false (dropD kvs key)))
        | none => .bad
      | none => .bad
    | _ => .bad
  | _, _, _ => .bad
def popD2 : D → D → D → Sto → Rs D
  | .loc l, k, z, st => match st[l]? with
    | some (.dk false kvs) => match keyOf k with
      | some key => match look kvs key with
        | some d => .ok d (st.set l (.dk false (dropD kvs key)))
        | none => .ok z st
      | none => .bad
    | _ => .bad
  | _, _, _, _ => .bad
theorem drop_ok {A : List Addr} {st : Sto} {H : Hp} {l : Nat} {a : Addr} {kvs : List (Key × D)} (key : Key) (s : StOk g A st H) (ea : A[l]? = some a) (e : st[l]? = some (.dk false kvs)) :
    ∃ kv', H a = some (.dK kv') ∧ (match look kvs key with
      | some d => ∃ v, valV kv' key = some v ∧ Rep g A H d v
      | none => valV kv' key = none) ∧ Ext A H A (upd H a (.dK (dropK kv' key))) ∧ StOk g A (st.set l (.dk false (dropD kvs key))) (upd H a (.dK (dropK kv' key))) := by
  obtain ⟨kv', h1, p, ko⟩ := s.obj l a _ ea e
  have h1' : H a = some (.dK kv') := by simpa using h1
  have x1 : Ext A H A (upd H a (.dK (dropK kv' key))) := ext_set ea (fun _ _ z => by rw [h1'] at z; cases z)
  refine ⟨kv', h1', look_rep key p, x1, s.set ea ⟨dropK kv' key, by simpa using upd_same, prd_mono (prd_drop p) fun _ _ q => ⟨q.1, q.2.ext x1⟩, fun q hq => ?_⟩⟩
  unfold dropD at hq
  exact ko q (List.mem_filter.mp hq).1
def dPop1 (fd fk : DE) : DE := fun env st => (fd env st).bind fun x st => if isDi st x = true then (fk env st).bind fun k st => popD1 x k st else .bad
def dPop2 (fd fk fz : DE) : DE := fun env st => (fd env st).bind fun x st => if isDi st x = true then (fk env st).bind fun k st => (fz env st).bind fun z st => popD2 x k z st else .bad
theorem de_pop1 {o e : Expr} {apos cpos : Pos} {fd fk : DE} (ho : PE X o (tD g W fd)) (he : PE X e (tD g W fk)) (m : M1 X o "pop" apos e cpos) : PE X (.Call (.Attribute o "pop" apos) [e] [] cpos) (tD g W (dPop1 fd fk)) :=
  pe_imp (pe_dpop1 ho he m) fun σ H Q q => by
    obtain ⟨A, env, st, M, q⟩ := q
    refine (tR.bind (rel := Rep g) M q).mono fun v H1 ⟨A1, d, st1, x1, s1, r1, M1, q1⟩ => ?_
    split at q1
    · rename_i hc
      obtain ⟨l, a, rfl, rfl, ea, hd⟩ := isDi_rep s1 r1 hc
      refine ⟨a, rfl, hd, ?_⟩
      refine (tR.bind (rel := Rep g) M1 q1).mono fun u H2 ⟨A2, k, st2, x2, s2, r2, M2, q2⟩ => ?_
      unfold popD1 at q2
      dsimp only at q2
      split at q2
      · rename_i kvs e
        split at q2
        · rename_i _ key ek
          obtain ⟨kv', h1, h2, h3, h4⟩ := drop_ok key s2 (x2.at ea) e
          split at q2
          · rename_i _ dd el
            rw [el] at h2
            obtain ⟨w, hw, rw'⟩ := h2
            exact ⟨kv', key, w, h1, keyOf_rep ek r2, hw, q2 A2 w _ h3 h4 (rw'.ext h3)⟩
          · exact q2.elim
        · exact q2.elim
      · exact q2.elim
    · exact q1.elim
theorem de_pop2 {o e f : Expr} {apos cpos : Pos} {fd fk fz : DE} (ho : PE X o (tD g W fd)) (he : PE X e (tD g W fk)) (hf : PE X f (tD g W fz)) (m : M2 X o "pop" apos e f cpos) : PE X (.Call (.Attribute o "pop" apos) [e, f] [] cpos) (tD g W (dPop2 fd fk fz)) :=
  pe_imp (pe_dpop2 ho he hf m) fun σ H Q q => by
    obtain ⟨A, env, st, M, q⟩ := q
    refine (tR.bind (rel := Rep g) M q).mono fun v H1 ⟨A1, d, st1, x1, s1, r1, M1, q1⟩ => ?_
    split at q1
    · rename_i hc
      obtain ⟨l, a, rfl, rfl, ea, hd⟩ := isDi_rep s1 r1 hc
      refine ⟨a, rfl, hd, ?_⟩
      refine (tR.bind (rel := Rep g) M1 q1).mono fun u H2 ⟨A2, k, st2, x2, s2, r2, M2, q2⟩ => ?_
      refine (tR.bind (rel := Rep g) M2 q2).mono fun z H3 ⟨A3, zd, st3, x3, s3, r3, M3, q3⟩ => ?_
      unfold popD2 at q3
      dsimp only at q3
      split at q3
      · rename_i kvs e
        split at q3
        · rename_i _ key ek
          obtain ⟨kv', h1, h2, h3, h4⟩ := drop_ok key s3 ((x2.trans x3).at ea) e
          refine ⟨kv', key, h1, keyOf_rep ek (r2.ext x3), fun w hw => ?_, fun hn => ?_⟩
          · split at q3
            · rename_i _ dd el
              rw [el] at h2
              obtain ⟨w', hw', rw'⟩ := h2
              rw [hw] at hw'
              cases hw'
              exact q3 A3 w _ h3 h4 (rw'.ext h3)
            · rename_i _ el
              rw [el] at h2
              rw [hw] at h2
              cases h2
          · split at q3
            · rename_i _ dd el
              rw [el] at h2
              obtain ⟨w', hw', _⟩ := h2
              rw [hn] at hw'
              cases hw'
            · exact q3 A3 z H3 (.refl _ _) s3 r3
        · exact q3.elim
      · exact q3.elim
    · exact q1.elim

/-! ### list(d), dict(d) -/
def dkeysF : D → Sto → Option (List (Key × D))
  | .loc l, st => match st[l]? with
    | some (.dk false kvs) => some kvs
    | _ => none
  | _, _ => none
theorem dkeysF_rep {A : List Addr} {st : Sto} {H : Hp} {d : D} {v : V} {kvs : List (Key × D)} (s : StOk g A st H) (r : Rep g A H d v) (h : dkeysF d st = some kvs) : ∃ a kv', v = .ref a ∧ H a = some (.dK kv') ∧ Paired (PrR g A H Key) kvs kv' ∧ ∀ q ∈ kvs, KOk q.1 := by
  cases d with
  | loc l =>
    obtain ⟨a, rfl, ea⟩ := rep_loc_inv r
    unfold dkeysF at h
    dsimp only at h
    split at h
    · rename_i kvs' e
      cases h
      obtain ⟨kv', h1, p, ko⟩ := s.obj l a _ ea e
      exact ⟨a, kv', rfl, by simpa using h1, p, ko⟩
    · cases h
  | _ => cases h
def dkeys : D → Sto → Option (List (Key × D))
  | .loc l, st => match st[l]? with
    | some (.dk _ kvs) => some kvs
    | _ => none
  | _, _ => none
theorem dkeys_rep {A : List Addr} {st : Sto} {H : Hp} {d : D} {v : V} {kvs : List (Key × D)} (s : StOk g A st H) (r : Rep g A H d v) (h : dkeys d st = some kvs) : ∃ a kv', v = .ref a ∧ Rd H a (.dK kv') ∧ Paired (PrR g A H Key) kvs kv' ∧ ∀ q ∈ kvs, KOk q.1 := by
  cases d with
  | loc l =>
    obtain ⟨a, rfl, ea⟩ := rep_loc_inv r
    unfold dkeys at h
    dsimp only at h
    split at h
    · rename_i z kvs' e
      cases h
      obtain ⟨kv', h1, p, ko⟩ := s.obj l a _ ea e
      cases z with
      | true =>
        obtain ⟨o, h1⟩ := (by simpa using h1 : ∃ o, H a = some (.frz o (.dK kv')))
        exact ⟨a, kv', rfl, .inr ⟨o, h1⟩, p, ko⟩
      | false => exact ⟨a, kv', rfl, .inl (by simpa using h1), p, ko⟩
    · cases h
  | _ => cases h
theorem prd_keys {κ : Type} {A : List Addr} {H : Hp} : ∀ {kvs : List (κ × D)} {kv' : List (κ × V)}, Paired (PrR g A H κ) kvs kv' → kvs.map (·.1) = kv'.map (·.1)
  | _, _, .nil => rfl
  | _, _, .cons h t => by rw [List.map_cons, List.map_cons, h.1, prd_keys t]
theorem prd_reps {A : List Addr} {H : Hp} : ∀ {kvs : List (Key × D)} {kv' : List (Key × V)}, Paired (PrR g A H Key) kvs kv' → (∀ q ∈ kvs, KOk q.1) → Reps g A H (kvs.map fun q => keyD q.1) (kv'.map fun q => kV q.1)
  | _, _, .nil, _ => .nil
  | (k, x) :: _, (k', y) :: _, .cons h t, ko => .cons (by have e : k = k' := h.1; subst e; exact key_rep (ko (k, x) List.mem_cons_self)) (prd_reps t fun q hq => ko q (List.mem_cons_of_mem _ hq))
def listKD (m : Bool) : List D → Sto → Rs D
  | [d], st => match dkeysF d st with
    | some kvs => mk m (kvs.map fun q => keyD q.1) st
    | none => .bad
  | _, _ => .bad
theorem listKD_ok (m : Bool) : OpC g rListD (listKD m) := by
  intro W A st σ H ds vs Q s r q
  unfold listKD at q
  split at q
  · rename_i d
    obtain ⟨v, rfl, r1⟩ := reps1 r
    split at q
    · rename_i kvs e
      obtain ⟨a, kv', rfl, h1, p, ko⟩ := dkeysF_rep s r1 e
      exact ⟨a, kv', rfl, h1, fun l hl => mk_ok s (prd_reps p ko) q hl⟩
    · exact q.elim
  · exact q.elim
/-- list(x) of whatever is -/
def listAD (m : Bool) (ds : List D) (st : Sto) : Rs D := match ds with
  | [d] => match itemsOf st d with
    | some xs => mk m xs st
    | none => listKD m [d] st
  | _ => .bad
theorem listAD_ok (m : Bool) : OpC g (fun xs H Q => (fun xs H Q => ∃ p ys, xs = [.ref p] ∧ (SqL g.K H p ys ∨ SqT g.K H p ys) ∧ ∀ l, H l = none → Q (.ref l) (upd H l (.lst ys))) xs H Q ∨ rListD xs H Q) (listAD m) :=
  OpC.or (listAD m) (listD_ok m) (listKD_ok m) fun ds st => by
    unfold listAD listD
    cases ds with
    | nil => exact .inl rfl
    | cons d ds =>
      cases ds with
      | cons _ _ => exact .inl rfl
      | nil =>
        dsimp only
        cases itemsOf st d with
        | some xs => exact .inl rfl
        | none => exact .inr rfl
theorem cr_listA (hc : X.calm = true) : CallR X (.type "list") (fun xs H Q => (fun xs H Q => ∃ p ys, xs = [.ref p] ∧ (SqL X.K H p ys ∨ SqT X.K H p ys) ∧ ∀ l, H l = none → Q (.ref l) (upd H l (.lst ys))) xs H Q ∨ rListD xs H Q) := call_list_of.or (call_list_dK hc)
def rCopyK : List V → Hp → VK → Prop := fun xs H Q => ∃ a kvs, xs = [.ref a] ∧ Rd H a (.dK kvs) ∧ ∀ p, H p = none → Q (.ref p) (upd H p (.dK kvs))
theorem cr_dictK : CallR X (.type "dict") rCopyK := by
  intro pins s σ H xs us Q I r h
  obtain ⟨a, kvs, rfl, hd, q⟩ := h
  obtain ⟨u, rfl, ru⟩ := vals1 r
  cases ru
  exact d_copyOf I hd fun p s' hp I' => ⟨.ref p, _, I', rfl, q p hp⟩
def dictD : List D → Sto → Rs D
  | [d], st => match dkeys d st with
    | some kvs => .ok (.loc st.length) (st ++ [.dk false kvs])
    | none => .bad
  | _, _ => .bad
theorem dictD_ok : OpC g rCopyK dictD := by
  intro W A st σ H ds vs Q s r q
  unfold dictD at q
  split at q
  · rename_i d
    obtain ⟨v, rfl, r1⟩ := reps1 r
    split at q
    · rename_i kvs e
      obtain ⟨a, kv', rfl, h1, p, ko⟩ := dkeys_rep s r1 e
      exact ⟨a, kv', rfl, h1, fun l hl => q _ _ _ (ext_new s hl) (s.new (ob := .dk false kvs) hl ⟨kv', by simpa using upd_same, prd_mono p fun _ _ h => ⟨h.1, h.2.ext (ext_new s hl)⟩, ko⟩) (loc_new s)⟩
    · exact q.elim
  · exact q.elim
end
end DL

/-! DL23: sorted(d). -/
namespace DL
open PySem PySem.Spec PyProof.Rows L2

/-- two rows in order with the same things are one -/
theorem rows_one {α : Type} (le : α → α → Prop) (anti : ∀ a b, le a b → le b a → a = b) : ∀ {l m : List α}, l.Perm m → l.Pairwise le → m.Pairwise le → l = m
  | [], m, p, _, _ => p.nil_eq
  | a :: l, [], p, _, _ => by cases p.length_eq
  | a :: l, b :: m, p, hl, hm => by
    have e : a = b := by
      rcases List.mem_cons.mp (p.symm.subset (List.mem_cons_self (a := b))) with h | h
      · exact h.symm
      · rcases List.mem_cons.mp (p.subset (List.mem_cons_self (a := a))) with h' | h'
        · exact h'
        · exact anti a b ((List.pairwise_cons.mp hl).1 b h) ((List.pairwise_cons.mp hm).1 a h')
    subst e
    rw [rows_one le anti (List.Perm.cons_inv p) (List.pairwise_cons.mp hl).2 (List.pairwise_cons.mp hm).2]
/-- the order of texts -/
def leS (a b : Str) : Prop := a.cps.toList ≤ b.cps.toList
instance (a b : Str) : Decidable (leS a b) := by unfold leS; exact inferInstance
theorem leS_iff (a b : Str) : leS a b ↔ Spec.ltCps b.cps.toList a.cps.toList = false := by
  unfold leS
  rw [ltCps_eq, decide_eq_false_iff_not, List.not_lt]
theorem leS_total (a b : Str) : leS a b ∨ leS b a := by unfold leS; exact List.le_total _ _
theorem leS_trans {a b c : Str} (h : leS a b) (k : leS b c) : leS a c := by unfold leS at *; exact List.le_trans h k
theorem leS_anti (a b : Str) (h : leS a b) (k : leS b a) : a = b := by
  unfold leS at *
  have e : a.cps.toList = b.cps.toList := List.le_antisymm h k
  obtain ⟨a⟩ := a
  obtain ⟨b⟩ := b
  have : a = b := Array.toList_inj.mp e
  rw [this]
def srtS (ss : List Str) : List Str := ss.mergeSort fun a b => decide (leS a b)
theorem srtS_perm (ss : List Str) : (srtS ss).Perm ss := List.mergeSort_perm _ _
theorem srtS_sorted (ss : List Str) : (srtS ss).Pairwise leS := by
  have h := List.pairwise_mergeSort (le := fun a b : Str => decide (leS a b)) (fun a b c h1 h2 => by simp only [decide_eq_true_eq] at *; exact leS_trans h1 h2) (fun a b => by simp only [Bool.or_eq_true, decide_eq_true_eq]; exact leS_total a b) ss
  exact h.imp fun h => by simpa using h
theorem rising_pw : ∀ (l : List Str) (p : Str), risingS p l = true → (∀ x ∈ l, leS p x) ∧ l.Pairwise leS
  | [], p, _ => ⟨(fun _ h => by cases h), .nil⟩
  | x :: r, p, h => by
    unfold risingS at h
    rw [Bool.and_eq_true, Bool.not_eq_true'] at h
    have px : leS p x := (leS_iff p x).mpr h.1
    obtain ⟨h1, h2⟩ := rising_pw r x h.2
    refine ⟨fun y hy => ?_, List.pairwise_cons.mpr ⟨h1, h2⟩⟩
    rcases List.mem_cons.mp hy with e | hy
    · rw [e]; exact px
    · exact leS_trans px (h1 y hy)
theorem sorted_pw {l : List Str} (h : sortedS l = true) : l.Pairwise leS := by
  cases l with
  | nil => exact .nil
  | cons x r =>
    obtain ⟨h1, h2⟩ := rising_pw r x h
    exact List.pairwise_cons.mpr ⟨h1, h2⟩
theorem srtS_one {l m : List Str} (p : l.Perm m) (h : sortedS l = true) : l = srtS m := rows_one leS leS_anti (p.trans (srtS_perm m).symm) (sorted_pw h) (srtS_sorted m)
def srtI (ns : List Int) : List Int := ns.mergeSort fun a b => decide (a ≤ b)
theorem srtI_perm (ns : List Int) : (srtI ns).Perm ns := List.mergeSort_perm _ _
theorem srtI_sorted (ns : List Int) : (srtI ns).Pairwise (· ≤ ·) := by
  have h := List.pairwise_mergeSort (le := fun a b : Int => decide (a ≤ b)) (fun a b c h1 h2 => by simp at *; omega) (fun a b => by simp; omega) ns
  exact h.imp fun h => by simpa using h
theorem srtI_one {l m : List Int} (p : l.Perm m) (h : l.Pairwise (· ≤ ·)) : l = srtI m := rows_one (· ≤ ·) (fun a b h k => by omega) (p.trans (srtI_perm m).symm) h (srtI_sorted m)
/-! the keys of one kind -/
def txtKeys : List Key → Option (List Str)
  | [] => some []
  | .inr s :: ks => (txtKeys ks).map (s :: ·)
  | .inl _ :: _ => none
def intKeys : List Key → Option (List Int)
  | [] => some []
  | .inl i :: ks => (intKeys ks).map (i :: ·)
  | .inr _ :: _ => none
theorem txtKeys_eq : ∀ {ks : List Key} {ss : List Str}, txtKeys ks = some ss → ks = ss.map Sum.inr
  | [], ss, h => by cases h; rfl
  | .inl _ :: _, ss, h => by cases h
  | .inr s :: ks, ss, h => by
    unfold txtKeys at h
    obtain ⟨ms, e1, e2⟩ := Option.map_eq_some_iff.mp h
    rw [txtKeys_eq e1, ← e2]; rfl
theorem intKeys_eq : ∀ {ks : List Key} {ss : List Int}, intKeys ks = some ss → ks = ss.map Sum.inl
  | [], ss, h => by cases h; rfl
  | .inr _ :: _, ss, h => by cases h
  | .inl s :: ks, ss, h => by
    unfold intKeys at h
    obtain ⟨ms, e1, e2⟩ := Option.map_eq_some_iff.mp h
    rw [intKeys_eq e1, ← e2]; rfl
section
variable {X : Cx} {g : Gh} {W : WX}
def sortKD (m : Bool) : List D → Sto → Rs D
  | [d], st => match dkeys d st with
    | some kvs => match txtKeys (kvs.map (·.1)) with
      | some ss => if ss.length < 64 then mk m ((srtS ss).map D.str) st else .bad
      | none => match intKeys (kvs.map (·.1)) with
        | some ns => if ns.length < 64 then mk m ((srtI ns).map D.int) st else .bad
        | none => .bad
    | none => .bad
  | _, _ => .bad
def rSortK : List V → Hp → VK → Prop := fun xs H Q => (fun xs H Q => ∃ (a : Addr) (kvs : List (Key × V)) (ks : List Str), xs = [.ref a] ∧ Rd H a (.dK kvs) ∧ kvs.map (·.1) = ks.map Sum.inr ∧ ks.length < 64 ∧
    ∀ ys p, ys.Perm ks → sortedS ys = true → H p = none → Q (.ref p) (upd H p (.lst (ys.map V.str)))) xs H Q ∨ (fun xs H Q => ∃ (a : Addr) (kvs : List (Key × V)) (ks : List Int), xs = [.ref a] ∧ Rd H a (.dK kvs) ∧ kvs.map (·.1) = ks.map Sum.inl ∧ ks.length < 64 ∧
    ∀ (ys : List Int) (p : Addr), ys.Perm ks → ys.Pairwise (· ≤ ·) → H p = none → Q (.ref p) (upd H p (.lst (ys.map V.int)))) xs H Q
theorem cr_sortK (hc : X.calm = true) : CallR X (.builtin "sorted") rSortK := (call_sortedD hc).or (call_sortedDI hc)
theorem strs_reps {A : List Addr} {H : Hp} : ∀ {ss : List Str}, (∀ s ∈ ss, SOk s) → Reps g A H (ss.map D.str) (ss.map V.str)
  | [], _ => .nil
  | s :: ss, h => .cons (rep_str (h s List.mem_cons_self)) (strs_reps fun j hj => h j (List.mem_cons_of_mem _ hj))
theorem sortKD_ok (m : Bool) : OpC g rSortK (sortKD m) := by
  intro W A st σ H ds vs Q s r q
  unfold sortKD at q
  split at q
  · rename_i d
    obtain ⟨v, rfl, r1⟩ := reps1 r
    split at q
    · rename_i _ kvs e
      obtain ⟨a, kv', rfl, h1, p, ko⟩ := dkeys_rep s r1 e
      have ek := prd_keys p
      split at q
      · rename_i _ ss et
        split at q
        · rename_i hl
          have e1 := txtKeys_eq et
          refine .inl ⟨a, kv', ss, rfl, h1, by rw [← ek]; exact e1, hl, fun ys l hp hs hl' => ?_⟩
          rw [srtS_one hp hs]
          refine mk_ok s (strs_reps fun z hz => ?_) q hl'
          have hz2 : (Sum.inr z : Key) ∈ kvs.map (·.1) := by rw [e1]; exact List.mem_map_of_mem ((srtS_perm ss).subset hz)
          obtain ⟨w, hw, ew⟩ := List.mem_map.mp hz2
          have := ko w hw
          rw [ew] at this
          exact this
        · exact q.elim
      · split at q
        · rename_i _ ns en
          split at q
          · rename_i hl
            have e1 := intKeys_eq en
            refine .inr ⟨a, kv', ns, rfl, h1, by rw [← ek]; exact e1, hl, fun ys l hp hs hl' => ?_⟩
            rw [srtI_one hp hs]
            exact mk_ok s (Reps.of_ints _) q hl'
          · exact q.elim
        · exact q.elim
    · exact q.elim
  · exact q.elim
/-- sorted of whatever is -/
noncomputable def sortAD (m : Bool) (ds : List D) (st : Sto) : Rs D := match ds with
  | [d] => match dkeys d st with
    | some _ => sortKD m [d] st
    | none => sortedD m [d] st
  | _ => .bad
theorem sortAD_ok (m : Bool) : OpC g (fun xs H Q => rSortK xs H Q ∨ rSortX g.K xs H Q) (sortAD m) := OpC.or (sortAD m) (sortKD_ok m) (sortedD_ok m) fun ds st => by
  unfold sortAD
  cases ds with
  | nil => exact .inl rfl
  | cons d ds =>
    cases ds with
    | cons _ _ => exact .inl rfl
    | nil =>
      dsimp only
      cases dkeys d st with
      | some xs => exact .inl rfl
      | none => exact .inr rfl
theorem cr_sortA (hc : X.calm = true) (hu : X.A.units + 64 < cLine) : CallR X (.builtin "sorted") (fun xs H Q => rSortK xs H Q ∨ rSortX X.K xs H Q) := (cr_sortK hc).or (cr_sortX hu)
end
end DL

/-! DL24: min of a list of data. -/
namespace DL
open PySem PySem.Spec PyProof.Rows L2
open PySem.W (AlikeAll dataLt minD min_list_data alike alike_unique readsAll_at EachIs)

section
variable {X : Cx} {g : Gh} {W : WX}
def rMinX (K : PySem.W.Frag) : List V → Hp → VK → Prop := fun vs H Q => ∃ (β : Type) (b0 : β) (bs : List β) (val : β → V) (enc : β → PyData) (a : Addr), vs = [.ref a] ∧ SqL K H a ((b0 :: bs).map val) ∧ DpAll K H ((b0 :: bs).map val) ((b0 :: bs).map enc) ∧ AlikeAll ((b0 :: bs).map enc) ∧ PyData.depthAll ((b0 :: bs).map enc) ≤ 40 ∧
  ∀ b ∈ b0 :: bs, enc b = minD (enc b0) (bs.map enc) → Q (val b) H
theorem minD_mem (x : PyData) : ∀ (xs : List PyData), minD x xs ∈ x :: xs := fun xs => by
  have : ∀ (ys : List PyData) (a : PyData), ys.foldl (fun a y => if dataLt y a then y else a) a ∈ a :: ys := fun ys => by
    induction ys with
    | nil => intro a; exact List.mem_cons_self
    | cons y ys ih =>
      intro a
      rw [List.foldl_cons]
      rcases List.mem_cons.mp (ih (if dataLt y a then y else a)) with h | h
      · rw [h]
        split
        · exact List.mem_cons_of_mem _ List.mem_cons_self
        · exact List.mem_cons_self
      · exact List.mem_cons_of_mem _ (List.mem_cons_of_mem _ h)
  exact this xs x
theorem cr_minX (hc : X.calm = true) (hu : X.A.units + 64 < cLine) : CallR X (.builtin "min") (rMinX X.K) := by
  intro pins s σ H vs us Q I r h
  obtain ⟨β, b0, bs, val, enc, a, rfl, hs, hd, hal, hdep, q⟩ := h
  obtain ⟨its, rv, hl, hz⟩ := I.list hs
  rw [Vals.ref1 r]
  obtain ⟨as, hr⟩ := Dp.readsAll I _ _ _ hd rv
  refine min_list_data (x := enc b0) (xs := bs.map enc) (I.ok.hd hc) hl.isList (by rw [List.toList_toArray]; exact hr) hal (by have : PyData.depthAll (enc b0 :: bs.map enc) ≤ 40 := hdep; omega) fun i v h' tk cs hv hm hk => ?_
  have hv' : its[i]? = some v := by simpa using hv
  have hil : i < (b0 :: bs).length := by
    have h1 := (List.getElem?_eq_some_iff.mp hv').1
    have h2 := rv.length
    rw [List.length_map] at h2
    omega
  obtain ⟨ds, hr2, _, hmem, _⟩ := readsAll_at hr i v hv'
  have e1 : ((b0 :: bs).map enc).getD i .none = enc ((b0 :: bs)[i]) := by
    rw [List.getD_eq_getElem?_getD, List.getElem?_map, List.getElem?_eq_getElem hil]; rfl
  rw [e1] at hr2 hmem
  have hb : (b0 :: bs)[i] ∈ b0 :: bs := List.getElem_mem hil
  have em : enc ((b0 :: bs)[i]) = minD (enc b0) (bs.map enc) :=
    alike_unique _ _ _ _ _ (hal.1 _ hmem _ (minD_mem (enc b0) (bs.map enc))) (PyProof.Rows.Reads.keeps hk hr2) hm
  have rr : RelV (val ((b0 :: bs)[i])) v := by
    have e2 : ((b0 :: bs).map val)[i]? = some (val ((b0 :: bs)[i])) := by rw [List.getElem?_map, List.getElem?_eq_getElem hil]; rfl
    obtain ⟨u, hu2, ru⟩ := rv.get e2
    rw [hv'] at hu2
    cases hu2
    exact ru
  exact ⟨_, H, I.kept hk, rr, q _ hb em⟩
/-- the least, the first of those -/
def minOf (x : D) (xs : List D) : D := xs.foldl (fun a y => if dataLt (toP y) (toP a) then y else a) x
theorem minOf_toP : ∀ (xs : List D) (x : D), toP (minOf x xs) = minD (toP x) (xs.map toP) := fun xs => by
  have : ∀ (ys : List D) (a : D), toP (ys.foldl (fun a y => if dataLt (toP y) (toP a) then y else a) a) = (ys.map toP).foldl (fun a y => if dataLt y a then y else a) (toP a) := fun ys => by
    induction ys with
    | nil => intro a; rfl
    | cons y ys ih =>
      intro a
      rw [List.foldl_cons, List.map_cons, List.foldl_cons, ih]
      congr 1
      split <;> rfl
  exact fun x => this xs x
theorem minOf_mem (x : D) : ∀ (xs : List D), minOf x xs ∈ x :: xs := fun xs => by
  have : ∀ (ys : List D) (a : D), ys.foldl (fun a y => if dataLt (toP y) (toP a) then y else a) a ∈ a :: ys := fun ys => by
    induction ys with
    | nil => intro a; exact List.mem_cons_self
    | cons y ys ih =>
      intro a
      rw [List.foldl_cons]
      rcases List.mem_cons.mp (ih (if dataLt (toP y) (toP a) then y else a)) with h | h
      · rw [h]
        split
        · exact List.mem_cons_of_mem _ List.mem_cons_self
        · exact List.mem_cons_self
      · exact List.mem_cons_of_mem _ (List.mem_cons_of_mem _ h)
  exact this xs x
open Classical in
noncomputable def minLD : List D → Sto → Rs D
  | [.lst (x :: xs)], st => if (x :: xs).all (good 39) = true ∧ AlikeAll ((x :: xs).map toP) ∧ (∀ a ∈ x :: xs, ∀ b ∈ x :: xs, toP a = toP b → a = b) then .ok (minOf x xs) st else .bad
  | _, _ => .bad
theorem minLD_ok : OpC g (rMinX g.K) minLD := by
  intro W A st σ H ds vs Q s r q
  unfold minLD at q
  split at q
  · rename_i x xs
    obtain ⟨v, rfl, r1⟩ := reps1 r
    obtain ⟨a, ws, rfl, h1, _, r2⟩ := rep_lst_inv r1
    split at q
    · rename_i hc
      obtain ⟨c1, c2, c3⟩ := hc
      obtain ⟨w, wr, rfl, p1, p2⟩ := r2.cons_inv
      have hl : wr.length = xs.length := p2.len.symm
      have e1 : (wr.zip xs).map (·.1) = wr := zip_fst hl
      have e2 : (wr.zip xs).map (·.2) = xs := zip_snd hl
      have e3 : (wr.zip xs).map (fun b => toP b.2) = xs.map toP := by
        rw [← e2, List.map_map, e2]; rfl
      have lays := lays_all (lays_of 39) (x :: xs) (w :: wr) c1 r2
      rw [toPs_map] at lays
      have m1 : (((w, x) :: wr.zip xs).map fun b : V × D => b.1) = w :: wr := by rw [List.map_cons, e1]
      have m2 : (((w, x) :: wr.zip xs).map fun b : V × D => toP b.2) = (x :: xs).map toP := by rw [List.map_cons, e3, List.map_cons]
      refine ⟨V × D, (w, x), wr.zip xs, fun b => b.1, fun b => toP b.2, a, rfl, by rw [m1]; exact SqL.of h1, by rw [m1, m2]; exact lays.dp, by rw [m2]; exact c2, by rw [m2]; exact Nat.le_trans lays.deep (by decide), fun b hb hm => ?_⟩
      have hm' : toP b.2 = toP (minOf x xs) := by
        rw [minOf_toP]
        have : (wr.zip xs).map (fun b : V × D => toP b.2) = xs.map toP := e3
        rw [← this]
        exact hm
      have hb2 : b.2 ∈ x :: xs := by
        rcases List.mem_cons.mp hb with e | hb
        · rw [e]; exact List.mem_cons_self
        · exact List.mem_cons_of_mem _ (by rw [← e2]; exact List.mem_map_of_mem hb)
      have eb : b.2 = minOf x xs := c3 _ hb2 _ (minOf_mem x xs) hm'
      have rb : Rep g A H b.2 b.1 := by
        rcases List.mem_cons.mp hb with e | hb
        · rw [e]; exact p1
        · exact p2.pairs b hb
      rw [eb] at rb
      exact q A _ H (.refl _ _) s rb
    · exact q.elim
  · exact q.elim
end
end DL

/-! DL25: list(range(n)), reversed(a list or a tuple) walked. -/
namespace DL
open PySem PySem.Spec PyProof.Rows L2 RT

section
variable {X : Cx} {g : Gh} {W : WX}
theorem reps_rg : ∀ (n : Nat) {A : List Addr} {H : Hp}, Reps g A H (rngD n) (rgV 0 n) := fun n A H => by
  have e : rgV 0 (n : Int) = (List.range n).map fun i => V.int ((i : Nat) : Int) := by
    unfold rgV
    rw [show ((n : Int) - 0).toNat = n by omega]
    exact List.map_congr_left fun i _ => by rw [Int.zero_add]
  rw [e]
  unfold rngD
  generalize List.range n = l
  induction l with
  | nil => exact Reps.nil
  | cons a l ih => exact Reps.cons (rep_int _) ih
def lrD : D → Sto → Rs D
  | .int n, st => if 0 ≤ n ∧ n ≤ 16777216 then .ok (.lst (rngD n.toNat)) st else .bad
  | _, _ => .bad
theorem de_listR {e : Expr} {f : DE} {p pos p2 pos2 : Pos} (hc : X.calm = true) (hg : Gl X "list") (hm : X.mg "list" = none) (hg2 : Gl X "range") (hm2 : X.mg "range" = none) (he : PE X e (tD g W f)) (na : starEach [e] X.env = (false, eval e X.env) :: starEach [] X.env)
    (na2 : starEach [.Call (.Name "range" p2) [e] [] pos2] X.env = (false, eval (.Call (.Name "range" p2) [e] [] pos2) X.env) :: starEach [] X.env) : PE X (.Call (.Name "list" p) [.Call (.Name "range" p2) [e] [] pos2] [] pos) (tD g W (dU lrD f)) :=
  pe_imp (pe_listRg hc hg hm (prg_1 hg2 hm2 he na) na2) fun σ H Q q => by
    obtain ⟨A, env, st, M, q⟩ := q
    refine (tR.bind (rel := Rep g) M q).mono fun v H1 ⟨A1, d, st1, x, s, r, M1, q1⟩ => ?_
    unfold lrD at q1
    split at q1
    · rename_i n
      split at q1
      · rename_i h
        refine ⟨n, rep_int_inv r, .of_le (Int.le_refl 0) h.2 (by omega) h.1, fun p hp => ?_⟩
        have e : n = (n.toNat : Int) := by omega
        have rr : Reps g A1 H1 (rngD n.toNat) (rgV 0 n) := by
          have h1 := reps_rg (g := g) (A := A1) (H := H1) n.toNat
          rw [← e] at h1
          exact h1
        exact q1 A1 _ _ (ext_val s hp) (s.val hp) (rep_lst_new s rr hp)
      · exact q1.elim
    · exact q1.elim

/-! reversed -/
def asRev : D → Sto → Rs (List D)
  | .lst ds, st => .ok ds.reverse st
  | .tup ds, st => .ok ds.reverse st
  | _, _ => .bad
def dIterV (f : DE) : DA := fun env st => (f env st).bind asRev
theorem yields_revL {A : List Addr} {H : Hp} {ds : List D} {vs : List V} {a : Addr} (h : H a = some (.lst vs)) (na : a ∉ A ∧ a ∉ g.M) (r : Reps g A H ds vs) : Yields g (Itv g.K a vs.length) A H ds.reverse := fun i M A2 H2 st x hM s => by
  have h2 := (x.keep a _ na.1 h).2
  have hl := r.len
  refine ⟨fun hi => ?_, fun hi => ?_⟩
  · have hi2 : i < vs.length := by rw [← hl]; simpa using hi
    refine ⟨⟨hi2, vs, vs[vs.length - 1 - i]'(by omega), SqL.of h2, by simp⟩, fun v H' y => ?_⟩
    obtain ⟨e, y⟩ := y
    subst e
    obtain ⟨d, e1, e2⟩ := ((r.wm hM).ext x).get' (y vs (SqL.of h2))
    exact ⟨d, by rw [List.getElem?_reverse (by omega), hl]; exact e1, .refl _ _, s, e2⟩
  · show vs.length ≤ i
    rw [← hl]
    simpa using hi
theorem yields_revT {A : List Addr} {H : Hp} {ds : List D} {vs : List V} {a : Addr} (h : H a = some (.tup vs)) (na : a ∉ A) (r : Reps g A H ds vs) : Yields g (ItvT g.K a vs.length) A H ds.reverse := fun i M A2 H2 st x hM s => by
  have h2 := (x.keep a _ na h).2
  have hl := r.len
  refine ⟨fun hi => ?_, fun hi => ?_⟩
  · have hi2 : i < vs.length := by rw [← hl]; simpa using hi
    refine ⟨⟨hi2, vs, vs[vs.length - 1 - i]'(by omega), SqT.of h2, by simp⟩, fun v H' y => ?_⟩
    obtain ⟨e, y⟩ := y
    subst e
    obtain ⟨d, e1, e2⟩ := ((r.wm hM).ext x).get' (y vs (SqT.of h2))
    exact ⟨d, by rw [List.getElem?_reverse (by omega), hl]; exact e1, .refl _ _, s, e2⟩
  · show vs.length ≤ i
    rw [← hl]
    simpa using hi
theorem di_rev {tg e : Expr} {f : DE} {p pos : Pos} (hK : g.K = X.K) (hg : Gl X "reversed") (hm : X.mg "reversed" = none) (he : PE X e (tD g W f)) (hs : starEach [e] X.env = (false, eval e X.env) :: starEach [] X.env) : PI X tg (.Call (.Name "reversed" p) [e] [] pos) (tY g W (dIterV f)) :=
  pi_imp (pi_revA hg hm he hs) fun σ H R q => tY.of (rel := Rep g) (fun _ _ => rfl) (fun A d st1 v H1 s r => by
    unfold asRev
    cases d with
    | lst ds =>
      refine ⟨fun _ _ e => by cases e; rfl, fun ds' e k => ?_, fun _ _ e => (nomatch e)⟩
      cases e
      obtain ⟨a, vs, rfl, h, na, rr⟩ := rep_lst_inv r
      exact ⟨a, vs, rfl, .inl ⟨SqL.of h, k _ (hK ▸ yields_revL h na rr)⟩⟩
    | tup ds =>
      refine ⟨fun _ _ e => by cases e; rfl, fun ds' e k => ?_, fun _ _ e => (nomatch e)⟩
      cases e
      obtain ⟨a, vs, rfl, h, na, rr⟩ := rep_tup_inv' r
      exact ⟨a, vs, rfl, .inr ⟨SqT.of h, k _ (hK ▸ yields_revT h na rr)⟩⟩
    | _ => exact ⟨fun _ _ e => (nomatch e), fun _ e => (nomatch e), fun _ _ e => (nomatch e)⟩) q
@[simp] theorem lrD_def (n : Int) (st : Sto) : lrD (.int n) st = if 0 ≤ n ∧ n ≤ 16777216 then .ok (.lst (rngD n.toNat)) st else .bad := nrfl rfl
@[simp] theorem dIterV_def (f : DE) (env : En) (st : Sto) : dIterV f env st = (f env st).bind asRev := nrfl rfl
@[simp] theorem asRev_lst (ds : List D) (st : Sto) : asRev (.lst ds) st = .ok ds.reverse st := nrfl rfl
@[simp] theorem asRev_tup (ds : List D) (st : Sto) : asRev (.tup ds) st = .ok ds.reverse st := nrfl rfl
end
end DL

/-! DL26: methods and classes by the names of the top. -/
namespace DL
open PySem PySem.Spec PyProof.Rows L2

/-- the class C has a plain method m -/
structure MthOk (K : PySem.W.Frag) (C : Addr) (m qual : Str) (st : Stmt) (ps : List Str) : Prop where
  ex : ∃ (f : Addr) (fd : FuncData), Fun K m qual st f fd ∧ Meth K C m f ∧ Binds K fd ps []
theorem MthOk.mk' {K : PySem.W.Frag} {C f : Addr} {m qual : Str} {st : Stmt} {oc : Value} {od an : Option Addr} {osl : Array (Option Value)} {kV doc pm cdv ct : Value} {ps : List Str} (a : PySem.W.findIn K (.ref C) m = some (some (.ref f))) (i : PySem.W.isFn K (.ref f) = true)
    (l : K.lookup f = some ⟨oc, od, .func (PySem.W.fnOf m qual (defArgs st) (defBody st) (defScope st) .none kV doc pm an cdv ct), osl⟩) (c : PySem.W.codeIn K cdv qual = true) (k : PySem.W.keepIn K (.ref f) = true)
    (hb : ∀ (kV doc pm : Value) (an : Option Addr) (cdv ct : Value) (us : List Value), us.length = ps.length → bindArgs (PySem.W.fnOf m qual (defArgs st) (defBody st) (defScope st) .none kV doc pm an cdv ct) ⟨us, []⟩ = pure (ps.zip us)) : MthOk K C m qual st ps :=
  ⟨f, _, fun_mk l c k, ⟨a, i, k⟩, (fun_mk l c k).binds hb⟩
/-- the top's name x holds the class C, whose __init__ is the def st -/
structure NewOk (K : PySem.W.Frag) (mg : Str → Option Value) (C : Addr) (x qual : Str) (st : Stmt) (ps : List Str) : Prop where
  ex : ∃ (f : Addr) (fd : FuncData), Fun K "__init__" qual st f fd ∧ Mk K C f ∧ Binds K fd ps []
  at_ : mg x = some (.ref C)
theorem NewOk.mk' {K : PySem.W.Frag} {h : Heap} {mg : Str → Option Value} {C f : Addr} {x qual : Str} {st : Stmt} {oc : Value} {od an : Option Addr} {osl : Array (Option Value)} {kV doc pm cdv ct : Value} {ps : List Str} (X : K.In h) (G : h.Ns mainGlobals mg) (aC : PySem.W.nsIn K mainGlobals x = some (some (.ref C)))
    (mk : PySem.W.makesIn K C = true) (kc : PySem.W.keepIn K (.ref C) = true) (a : PySem.W.findIn K (.ref C) "__init__" = some (some (.ref f))) (i : PySem.W.isFn K (.ref f) = true)
    (l : K.lookup f = some ⟨oc, od, .func (PySem.W.fnOf "__init__" qual (defArgs st) (defBody st) (defScope st) .none kV doc pm an cdv ct), osl⟩) (c : PySem.W.codeIn K cdv qual = true) (k : PySem.W.keepIn K (.ref f) = true)
    (hb : ∀ (kV doc pm : Value) (an : Option Addr) (cdv ct : Value) (us : List Value), us.length = ps.length → bindArgs (PySem.W.fnOf "__init__" qual (defArgs st) (defBody st) (defScope st) .none kV doc pm an cdv ct) ⟨us, []⟩ = pure (ps.zip us)) : NewOk K mg C x qual st ps :=
  ⟨⟨f, _, fun_mk l c k, ⟨mk, a, i, kc⟩, (fun_mk l c k).binds hb⟩, PySem.W.mg_of X G aC⟩
section
variable {P : Program} {w : World} {g : Gh} {mg : Str → Option Value} {base : Heap}
theorem GMt.of {cn : Nat} {m qual : Str} {st : Stmt} {N ps : List Str} {k n nn : Nat} {b : DS} (F : MthOk g.K (g.cA cn) m qual st ps) (no : m ∉ g.fld cn) (S : FnScope N ps (defScope st)) (hn : ps.length = n) (hnn : N.length = nn)
    (hbody : ∀ (f : Addr) (M : List Addr) (cdv : Value) (A : Around) (outer : List Env) (s : Shared) (H : Hp) (E : XK), Room k (A.deeper (envOfC qual (defScope st) s.heap.objs.size f cdv)) →
      L2N.Takes (cxOf (L2N.CX P w) P w g.K mg base N qual (defScope st) f cdv A outer s H E) (fun cls d _ H => E cls d H) →
      PassesOwn (model P w) (A.deeper (envOfC qual (defScope st) s.heap.objs.size f cdv)) (envOfC qual (defScope st) s.heap.objs.size f cdv) (cxOf (L2N.CX P w) P w g.K mg base N qual (defScope st) f cdv A outer s H E).xe →
      PSs (cxOf (L2N.CX P w) P w g.K mg base N qual (defScope st) f cdv A outer s H E) (defBody st) (tS (g.wm M) (fun cls d _ H => E cls d H) b)) : GMt P w g mg base cn m (k + 1) n (runF nn b) := by
  obtain ⟨f, fd, hF, hm, hb⟩ := F.ex
  exact ⟨⟨f, fd, ps, hm, fn_rule hF S hn hnn (hbody f), hb⟩, no⟩
theorem GNew.of {cn : Nat} {x qual : Str} {st : Stmt} {N ps : List Str} {k n nn : Nat} {b : DS} (F : NewOk g.K mg (g.cA cn) x qual st ps) (S : FnScope N ps (defScope st)) (hn : ps.length = n) (hnn : N.length = nn)
    (hbody : ∀ (f : Addr) (M : List Addr) (cdv : Value) (A : Around) (outer : List Env) (s : Shared) (H : Hp) (E : XK), Room k (A.deeper (envOfC qual (defScope st) s.heap.objs.size f cdv)) →
      L2N.Takes (cxOf (L2N.CX P w) P w g.K mg base N qual (defScope st) f cdv A outer s H E) (fun cls d _ H => E cls d H) →
      PassesOwn (model P w) (A.deeper (envOfC qual (defScope st) s.heap.objs.size f cdv)) (envOfC qual (defScope st) s.heap.objs.size f cdv) (cxOf (L2N.CX P w) P w g.K mg base N qual (defScope st) f cdv A outer s H E).xe →
      PSs (cxOf (L2N.CX P w) P w g.K mg base N qual (defScope st) f cdv A outer s H E) (defBody st) (tS (g.wm M) (fun cls d _ H => E cls d H) b)) : GNew P w g mg base cn x (k + 1) n (runF nn b) := by
  obtain ⟨⟨f, fd, hF, hm, hb⟩, a⟩ := F
  exact ⟨⟨f, fd, ps, hm, fn_rule hF S hn hnn (hbody f), hb⟩, a⟩
/-- the class that the top's name x holds -/
def gaN (K : PySem.W.Frag) (x : Str) : Addr := match PySem.W.nsIn K mainGlobals x with
  | some (some (.ref a)) => a
  | _ => 0
theorem gaN_of {K : PySem.W.Frag} {x : Str} {C : Addr} (a : PySem.W.nsIn K mainGlobals x = some (some (.ref C))) : gaN K x = C := by unfold gaN; rw [a]
theorem ClsD.wm {c : Nat} (C : ClsD g c) (M : List Addr) : ClsD (g.wm M) c := ⟨C.cls, C.noA, C.nd, C.few⟩
end
end DL

/-! DL27: classes and exceptions from what the end finds. -/
namespace DL
open PySem PySem.Spec PyProof.Rows L2
section
variable {g : Gh} {mg : Str → Option Value}
theorem ClsD.mk' {c : Nat} {C : Addr} {F : List Str} (h : g.cA c = C) (hf : g.fld c = F) (cls : Cls g.K C) (noA : ∀ f ∈ F, NoAttr g.K C f) (nd : F.Nodup) (few : F.length < 1000) : ClsD g c := by
  subst h hf; exact ⟨cls, noA, nd, few⟩
theorem ExD.mk' {h : Heap} {x : Str} {C : Addr} {c : Nat} (X : g.K.In h) (G : h.Ns mainGlobals mg) (hc : g.cA c = C) (a : PySem.W.nsIn g.K mainGlobals x = some (some (.ref C))) (e : PySem.W.excIn g.K C mroVE "ValueError.__new__" = true) (k : PySem.W.keepIn g.K (.ref C) = true)
    (s : PySem.W.subIn g.K (.ref C) (.type "BaseException") = some true) (t : PySem.W.typeIn g.K (.ref C) = some (.type "type")) : ExD g.K mg x (g.cA c) := by
  subst hc; exact ⟨PySem.W.mg_of X G a, e, k, s, t⟩
end
end DL

/-! DL28: [int(x) for x in xs] while an exception is handled. -/
namespace DL
open PySem PySem.Spec PyProof.Rows L2 HotX L2H
/-- what int tells of a truth -/
def tI (b : Bool) : V := .int (if b then 1 else 0)
theorem neA {b N C : Nat} (h1 : b < N) (h2 : N ≤ C) : b ≠ C := by omega
section
variable {prog : Program} {w : World} {A : Around} {env : Env} {s : Shared} {E : Value → Shared → Prop}
theorem comp_bools {iter : Expr} {x : Str} {scope : Scope} {l x1 : Addr} {o1 : Obj} {vs1 : Array Value} {bs : List Bool} {p1 p2 p3 p4 pos : Pos} {mg mb : Str → Option Value} {Q : Value → Shared → Prop}
    (hot : A.handled = some (.ref x1)) (g1 : s.heap.get? x1 = some o1) (d1 : o1.data = .fields vs1) (c1 : vs1[2]? = some .none)
    (hclos : closureFor scope env = pure []) (hcell : ∀ y ∈ scope.names, y.2 ≠ .cell) (hkind : scope.kind = .function) (hnames : ∀ y ∈ scope.names, y.2 = .local → scope.names.lookup y.1 = some .local)
    (hx : scope.names.lookup x = some .local) (hint : ∀ C, (compEnvC scope [] C env).kindOf "int" = some .globalImplicit) (hxd : (x == ("__debug__" : Str)) = false) (hxc : (x == ("__classdict__" : Str)) = false)
    (hg : s.heap.Ns env.globals mg) (hgi : mg "int" = none) (hb : s.heap.Ns env.builtins mb) (hbi : mb "int" = some (.type "int"))
    (hl : s.heap.IsList l ((bs.map Value.bool).toArray)) (hsz : bs.length ≤ sizeLine)
    (hi : ∀ {R : Value → Shared → Prop}, R (.ref l) s → wpAny (model prog w) A (eval iter env) R E s)
    (hs : ∀ x, foldedSetIterable iter env x = pure x)
    (h : ∀ D h' tk vs, s.heap.objs.size ≤ D → h'.PlainList D vs.toArray → Vals (bs.map tI) vs → (∀ b o, s.heap.get? b = some o → h'.get? b = some o) → Q (.ref D) { s with heap := h', toks := tk }) :
    wpAny (model prog w) A (eval (.ListComp (.Call (.Name "int" p1) [.Name x p2] [] p3) [⟨.Name x p4, iter, [], 0⟩] scope pos) env) Q E s := by
  refine ListComp_goes (cl := []) hclos hcell hkind hnames (hi ?_) hs
  have hlt : l < s.heap.objs.size := by obtain ⟨o, e, _⟩ := hl; exact Heap.lt_size e
  have h1t : x1 < s.heap.objs.size := Heap.lt_size g1
  refine wpAny_pyIter_list hl ?_
  have up0 : ∀ b o, s.heap.get? b = some o → (s.heap.push { cls := .type "list_iterator", data := .fields #[.ref l, .int 0 0] }).get? b = some o := fun b o e => Heap.get?_push_of_some _ e
  have hne : (l : Nat) ≠ s.heap.objs.size := Nat.ne_of_lt hlt
  have hne1 : (x1 : Nat) ≠ s.heap.objs.size := Nat.ne_of_lt h1t
  refine ⟨s.heap.objs.size, _, _, _, _, _, rfl, Goes.ofWalks (walks_listH (w := w) (A := A) hot d1 c1 s.heap.objs.size l hne hne1 ((bs.map Value.bool).toArray)) (fun i v s' R F st q => by
      obtain ⟨o, ho, hc, hd⟩ := st.1.1
      exact letGo_of_cls ho hc hd (by decide) q), by simpa using hsz, ⟨⟨⟨_, Heap.get?_push_size _ rfl, rfl, rfl⟩, hl.push _⟩, up0 _ _ g1⟩, fun b hb => ?_, fun D C s₃ hB => ?_⟩
  · show b < (s.heap.push _).objs.size
    rw [Heap.size_push]
    simp only [List.mem_cons, List.mem_nil_iff, or_false] at hb
    rcases hb with rfl | rfl | rfl
    · exact Nat.lt_succ_self _
    · exact Nat.lt_succ_of_lt hlt
    · exact Nat.lt_succ_of_lt h1t
  · obtain ⟨⟨h₃, tk₃, rfl⟩, old, nD, nC, hDC, hnm⟩ := hB
    have sz : (s.heap.push { cls := .type "list_iterator", data := .fields #[.ref l, .int 0 0] }).objs.size = s.heap.objs.size + 1 := Heap.size_push ..
    have nC' : (s.heap.objs.size + 1 : Nat) ≤ C := by rw [← sz]; exact nC
    have nD' : (s.heap.objs.size + 1 : Nat) ≤ D := by rw [← sz]; exact nD
    have kx : (compEnvC scope [] C env).kindOf x = some .local := lookup_relabel_local hx
    have hp : ((compEnvC scope [] C env).scope.kind == .class || ((compEnvC scope [] C env).scope.kind == .module && (compEnvC scope [] C env).locals != (compEnvC scope [] C env).globals)) = false := by
      show (scope.kind == .class || (scope.kind == .module && _)) = false
      rw [hkind]; rfl
    have offC : ∀ b : Addr, b < s.heap.objs.size + 1 → b ≠ C := fun b hb => neA hb nC'
    have offD : ∀ b : Addr, b < s.heap.objs.size + 1 → b ≠ D := fun b hb => neA hb nD'
    refine ⟨fun i vs s₁ => ∃ h' tk m, s₁ = { s with heap := h', toks := tk } ∧ h'.Ns C m ∧ Vals ((bs.take i).map tI) vs ∧ ∀ b o, s.heap.get? b = some o → h'.get? b = some o, ⟨h₃, tk₃, _, rfl, hnm, by rw [List.take_zero]; exact .nil, fun b o e => old b o (up0 b o e)⟩, ?_, ?_, ?_⟩
    · rintro i vs s₁ h' tk ⟨h₄, tk₄, m, rfl, n₄, e₄, k₄⟩ hk' _
      refine ⟨h', tk, m, rfl, n₄.at' fun o e => hk' _ o (fun z => ?_) e, e₄, fun b o e => hk' b o (fun z => ?_) (k₄ b o e)⟩
      · rcases List.mem_cons.mp z with z | z
        · exact hDC z.symm
        · exact (offC _ (Nat.lt_succ_self _)) (List.mem_singleton.mp z).symm
      · have hb := Heap.lt_size e
        rcases List.mem_cons.mp z with z | z
        · exact offD b (Nat.lt_succ_of_lt hb) z
        · exact absurd (List.mem_singleton.mp z) (Nat.ne_of_lt hb)
    · rintro i v vs s₁ hi2 hv st ⟨h₄, tk₄, m, rfl, n₄, e₄, k₄⟩ hpl
      have hv : ((bs.map Value.bool).toArray)[i]? = some v := hv
      obtain ⟨b, hbi2, rfl⟩ : ∃ b, bs[i]? = some b ∧ v = Value.bool b := by
        rw [List.getElem?_toArray, List.getElem?_map] at hv
        cases e : bs[i]? with
        | none => rw [e] at hv; cases hv
        | some b => rw [e] at hv; cases hv; exact ⟨b, rfl, rfl⟩
      refine wpAny_assign_Name (wpAny_storeName_local kx n₄ (fun h₅ n₅ s₅ => ?_) hp)
      refine wpAny_tests_nil ?_
      have up₅ : ∀ b o, b ≠ C → h₄.get? b = some o → h₅.get? b = some o := fun b o hb e => s₅.extBut _ _ hb e
      have keep : ∀ b o, s.heap.get? b = some o → h₅.get? b = some o := fun b o e => up₅ b o (offC b (Nat.lt_succ_of_lt (Heap.lt_size e))) (k₄ b o e)
      show wpAny _ _ _ _ _ _
      refine Call_ (Calls.Name_function_global hkind (hint C) (Calls.loadGlobal_builtin (hg.keeps keep) hgi (hb.keeps keep) hbi ?_))
      refine PyProof.Rows.callWith_type1 ?_ rfl rfl
      refine Calls.spliced_cons ?_
      rw [eval_Name _ _ _ hxd]
      refine wpAny_bind (wpAny_standAt (wpAny_loadName_local hkind kx n₅ (v := .bool b) (by simp) (Calls.spliced_nil ?_)))
      refine call_int_bool ⟨⟨h₅, _, _, rfl, n₅, ?_, keep⟩, ?_, hpl.at fun o e => up₅ _ o hDC e⟩
      · have : (bs.take (i + 1)).map tI = (bs.take i).map tI ++ [tI b] := by
          rw [List.take_add_one, hbi2]; simp
        rw [this]
        exact e₄.append (.cons ⟨_, rfl⟩ .nil)
      · obtain ⟨⟨z1, z2⟩, z3⟩ := st
        have oI : (s.heap.objs.size : Addr) ≠ C := offC _ (Nat.lt_succ_self _)
        exact ⟨⟨z1.at fun o e => up₅ _ o oI e, z2.at fun o e => up₅ _ o (offC _ (Nat.lt_succ_of_lt hlt)) e⟩, up₅ _ _ (offC _ (Nat.lt_succ_of_lt h1t)) z3⟩
    · rintro vs s₁ ⟨h₄, tk₄, m, rfl, n₄, e₄, k₄⟩ hpl
      refine ⟨m, n₄, fun h' hs' => h D h' tk₄ vs (Nat.le_of_succ_le nD') (hpl.extBut hs'.extBut hDC) ?_ fun b o e => hs'.extBut b o (offC b (Nat.lt_succ_of_lt (Heap.lt_size e))) (k₄ b o e)⟩
      have e₄ : Vals ((bs.take ((bs.map Value.bool).toArray).size).map tI) vs := e₄
      rw [show ((bs.map Value.bool).toArray).size = bs.length by simp, List.take_length] at e₄
      exact e₄
end
end DL

/-! DL29: readings where an exception is handled. -/
namespace DL
open PySem PySem.Spec PyProof.Rows L2 HotX L2H
section
variable {X : Cx} {g : Gh} {W : WX}
theorem name_at {pins : List (Addr × Obj)} {σ : L2.St} {H : Hp} {s : Shared} {i : Nat} {x : Str} {v : V} {pos : Pos} (I : Inv X pins σ H s) (hN : X.N[i]? = some x) (hv : Vis X.env.scope x) (e : σ[i]? = some (some v)) (hd : (x == ("__debug__" : Str)) = false) (hcd : (x == ("__classdict__" : Str)) = false) :
    ∃ u, RelV v u ∧ ∀ {R E : Value → Shared → Prop}, R u s → wpAny (model X.prog X.w) X.A (eval (.Name x pos) X.env) R E s := by
  obtain ⟨m, hn, hl⟩ := I.loc
  obtain ⟨u, r, l⟩ := hl i x v hN e hv
  refine ⟨u, r, fun {R E} q => ?_⟩
  rcases l with ⟨hk, hm⟩ | ⟨hk | hk, c, hc, hcell⟩
  · exact wpAny_Name (wpAny_loadName_local I.ok.kind hk hn hm q) hd
  · exact wpAny_Name (wpAny_loadName_cell I.ok.kind hk hc hcell q) hd
  · exact wpAny_Name (wpAny_loadName_free I.ok.kind hk hc hcell q hcd) hd
theorem vals_bools : ∀ {bs : List Bool} {us : List Value}, Vals (bs.map V.bl) us → us = bs.map Value.bool
  | [], us, h => by cases h; rfl
  | b :: bs, us, h => by
    cases h with
    | cons r t => cases r; rw [vals_bools t]; rfl
def boolD (b : Bool) : D := .int (if b then 1 else 0)
def dBoolsH (i : Nat) : DE := fun env st => match env[i]? with
  | some (some (.lst xs)) => match bls? xs with
    | some bs => .ok (.lst (bs.map boolD)) st
    | none => .bad
  | _ => .bad
theorem reps_tI {A : List Addr} {H : Hp} : ∀ bs : List Bool, Reps g A H (bs.map boolD) (bs.map tI)
  | [] => .nil
  | b :: bs => .cons (by unfold boolD tI; exact rep_int _) (reps_tI bs)
theorem de_boolsH {i : Nat} {x xs : Str} {scope : Scope} {p1 p2 p3 p4 p5 pos : Pos} (hc : HotC X) (hN : X.N[i]? = some xs) (hv : Vis X.env.scope xs) (hd : (xs == ("__debug__" : Str)) = false) (hcd : (xs == ("__classdict__" : Str)) = false)
    (hclos : closureFor scope X.env = pure []) (hcell : ∀ y ∈ scope.names, y.2 ≠ .cell) (hkind : scope.kind = .function) (hnames : ∀ y ∈ scope.names, y.2 = .local → scope.names.lookup y.1 = some .local)
    (hx : scope.names.lookup x = some .local) (hint : ∀ C, (compEnvC scope [] C X.env).kindOf "int" = some .globalImplicit) (hxd : (x == ("__debug__" : Str)) = false) (hxc : (x == ("__classdict__" : Str)) = false) (hm : X.mg "int" = none)
    (hs : ∀ v, foldedSetIterable (.Name xs p5) X.env v = pure v) :
    PE X (.ListComp (.Call (.Name "int" p1) [.Name x p2] [] p3) [⟨.Name x p4, .Name xs p5, [], 0⟩] scope pos) (tD g W (dBoolsH i)) := by
  refine ⟨fun pins s σ H Q I q => ?_⟩
  obtain ⟨A, env, st, M, q⟩ := q
  unfold dBoolsH at q
  split at q
  · rename_i ds he
    split at q
    · rename_i bs hb
      obtain ⟨v, e1, r1⟩ := M.env.slot i _ he
      obtain ⟨l, ws, rfl, h1, _, r2⟩ := rep_lst_inv r1
      have ew := bls?_rep hb r2
      obtain ⟨its, rv, hl, hz⟩ := I.list (SqL.of h1 : SqL X.K H l ws)
      rw [ew] at rv
      have ei := vals_bools rv
      obtain ⟨u, ru, hi⟩ := name_at (pos := p5) I hN hv e1 hd hcd
      cases ru
      obtain ⟨p, ⟨hh, v1, d1, c1⟩, hp⟩ := hc
      have g1 := (I.pin p (List.mem_append_left _ hp)).1
      obtain ⟨mb, b1, b2⟩ := I.mod.blt
      have hgl : s.heap.Ns X.env.globals X.mg := by rw [I.ok.glob]; exact I.mod.glob.keeps I.bk
      have hbl : s.heap.Ns X.env.builtins mb := by rw [I.ok.blt]; exact b1.keeps I.bk
      have hlen : bs.length ≤ sizeLine := by rw [ew, List.length_map] at hz; exact hz
      refine comp_bools (bs := bs) (l := l) hh g1 d1 c1 hclos hcell hkind hnames hx hint hxd hxc hgl hm hbl ((b2 _ (by decide)).trans rfl) (by rw [← ei]; exact hl.isList) hlen hi hs fun D h' tk vs hD hpl hvs hk => ?_
      have hDn : H D = none := I.hok.fresh hD
      obtain ⟨n, hpl⟩ := hpl
      refine ⟨.ref D, upd H D (.lst (bs.map tI)), I.laid hk hD ⟨by rw [List.length_map]; exact hlen, vs, n, hvs, hpl⟩, rfl, ?_⟩
      exact q A (.ref D) _ (ext_val M.sto hDn) (M.sto.val hDn) (rep_lst_new M.sto (reps_tI bs) hDn)
    · exact q.elim
  · exact q.elim
/-- isinstance of the handled exception -/
theorem call_isH {p : Addr × Obj} {C : Addr} (c : ExcC X.K C) (hp : p ∈ X.pn) (hz : Zc (.ref C) none p.2) (hf : ∃ vs, p.2.data = .fields vs) : CallR X (.builtin "isinstance") (rIsE X.K C p.1) := by
  intro pins s σ H xs us Q I r h
  obtain ⟨t, cv, b, rfl, hcv, e, q⟩ := h
  obtain ⟨u1, r1, e1, rx, rr⟩ : ∃ u1 r1, us = [u1, r1] ∧ RelV (.ref p.1) u1 ∧ RelV t r1 := by
    cases r with
    | cons rx rr => cases rr with
      | cons rt rn => cases rn; exact ⟨_, _, rfl, rx, rt⟩
  subst e1
  have e2 := hcv _ rr
  cases rx
  subst e2
  obtain ⟨hget, _⟩ := I.pin p (List.mem_append_left _ hp)
  obtain ⟨vs, hv⟩ := hf
  obtain ⟨pa, ⟨oc, od, oda, osl⟩⟩ := p
  obtain ⟨z1, z2⟩ := hz
  dsimp only at z1 z2 hv hget
  subst z1 z2 hv
  have J : PySem.W.InstAt s.heap pa ⟨.ref C, none, .fields vs, osl⟩ C none := ⟨hget, rfl, rfl, trivial⟩
  exact PySem.W.kia_one (PySem.W.handS_kitx_exc c.hg c.hk c.hs c.hd c.ha c.hn c.ht c.hm) I.kIn J e (fun z => nomatch z) fun tk => ⟨.bl b, H, I.kept (t' := tk) fun _ _ z => z, rfl, q⟩
end
end DL

/-! DL30: the class of a refusal as a word; try .. except. -/
namespace DL
open PySem PySem.Spec PyProof.Rows L2 HotX L2H
def dIsE (i : Nat) (b : Bool) : DE := fun env st => match env[i]? with
  | some (some (.fn _)) => .ok (.bl b) st
  | _ => .bad
section
variable {X : Cx} {g : Gh} {W : WX}
theorem isE_imp {i : Nat} {b : Bool} {p : Addr × Obj} {C : Addr} {t : V} {cv : Value} (hfA : ∀ k, g.fA k = p.1) (hcv : ∀ u, RelV t u → u = cv) (hk : PySem.W.kitOne X.K (.ref C) cv = some b) {σ : L2.St} {H : Hp} {Q : VK} (q : tD g W (dIsE i b) σ H Q) :
    tD g W (dV i) σ H fun v H1 => rIsE X.K C p.1 [v, t] H1 Q := by
  obtain ⟨A, env, st, M, q⟩ := q
  refine ⟨A, env, st, M, ?_⟩
  unfold dIsE at q
  split at q
  · rename_i k he
    have e : dV i env st = .ok (.fn k) st := by unfold dV; rw [he]
    rw [e]
    intro A1 v H1 x s r
    unfold Rep at r
    rw [hfA] at r
    subst r
    exact ⟨t, cv, b, rfl, hcv, hk, q A1 _ H1 x s (rep_bl b)⟩
  · exact q.elim
/-- isinstance(e, own class) -/
theorem de_isE {i : Nat} {b : Bool} {p : Addr × Obj} {C D : Addr} {x y : Str} {p1 p2 p3 pos : Pos} (c : ExcC X.K C) (hp : p ∈ X.pn) (hz : Zc (.ref C) none p.2) (hf : ∃ vs, p.2.data = .fields vs) (hfA : ∀ k, g.fA k = p.1)
    (hg : Gl X "isinstance") (hm : X.mg "isinstance" = none) (hx : PE X (.Name x p2) (tD g W (dV i))) (hy : Gl X y) (hmy : X.mg y = some (.ref D)) (hdy : (y == ("__debug__" : Str)) = false) (hk : PySem.W.kitOne X.K (.ref C) (.ref D) = some b)
    (hs : starEach [.Name x p2, .Name y p3] X.env = (false, eval (.Name x p2) X.env) :: starEach [.Name y p3] X.env) (hs2 : starEach [Expr.Name y p3] X.env = (false, eval (.Name y p3) X.env) :: starEach [] X.env) (hpl : (backTo pos (starEach [Expr.Name y p3] X.env)).any (·.1) = false) :
    PE X (.Call (.Name "isinstance" p1) [.Name x p2, .Name y p3] [] pos) (tD g W (dIsE i b)) :=
  pe_imp (pe_callB (call_isH c hp hz hf) hg hm boot_isinstance (pa_cons hx (pa_cons (pe_glob (v := .ref D) hy hmy rfl hdy) pa_nil hs2) hs) (he := hs) (hpl := hpl)) fun σ H Q qq => isE_imp (t := .ref D) (cv := .ref D) hfA (fun u r => r) hk qq
/-- isinstance(e, a built-in class) -/
theorem de_isEB {i : Nat} {b : Bool} {p : Addr × Obj} {C : Addr} {T : String} {x y : Str} {p1 p2 p3 pos : Pos} (c : ExcC X.K C) (hp : p ∈ X.pn) (hz : Zc (.ref C) none p.2) (hf : ∃ vs, p.2.data = .fields vs) (hfA : ∀ k, g.fA k = p.1)
    (hg : Gl X "isinstance") (hm : X.mg "isinstance" = none) (hx : PE X (.Name x p2) (tD g W (dV i))) (hy : Gl X y) (hmy : X.mg y = none) (hv : bootBuiltins y = some (.type T)) (hn : y ≠ "__name__") (hdy : (y == ("__debug__" : Str)) = false) (hk : PySem.W.kitOne X.K (.ref C) (.type T) = some b)
    (hs : starEach [.Name x p2, .Name y p3] X.env = (false, eval (.Name x p2) X.env) :: starEach [.Name y p3] X.env) (hs2 : starEach [Expr.Name y p3] X.env = (false, eval (.Name y p3) X.env) :: starEach [] X.env) (hpl : (backTo pos (starEach [Expr.Name y p3] X.env)).any (·.1) = false) :
    PE X (.Call (.Name "isinstance" p1) [.Name x p2, .Name y p3] [] pos) (tD g W (dIsE i b)) :=
  pe_imp (pe_callB (call_isH c hp hz hf) hg hm boot_isinstance (pa_cons hx (pa_cons (pe_bltn (v := .ty T) hy hmy hv rfl hn hdy) pa_nil hs2) hs) (he := hs) (hpl := hpl)) fun σ H Q qq => isE_imp (t := .ty T) (cv := .type T) hfA (fun u r => r) hk qq
/-! where True stands in a list of truths -/
def posT : List Bool → Option Nat
  | [] => none
  | true :: _ => some 0
  | false :: bs => (posT bs).map (· + 1)
def indexBD : D → List D → Sto → Rs D
  | .lst xs, [.bl true], st => match bls? xs with
    | some bs => match posT bs with
      | some j => .ok (.int (j : Int)) st
      | none => .bad
    | none => .bad
  | _, _, _ => .bad
theorem posT_at : ∀ {bs : List Bool} {j : Nat}, posT bs = some j → bs[j]? = some true ∧ ∀ m b, m < j → bs[m]? = some b → b = false
  | [], j, h => by cases h
  | true :: bs, j, h => by
    cases h
    exact ⟨rfl, fun m b hm => absurd hm (Nat.not_lt_zero m)⟩
  | false :: bs, j, h => by
    unfold posT at h
    obtain ⟨k, hk, rfl⟩ := Option.map_eq_some_iff.mp h
    obtain ⟨h1, h2⟩ := posT_at hk
    refine ⟨h1, fun m b hm e => ?_⟩
    cases m with
    | zero => cases e; rfl
    | succ m => exact h2 m b (by omega) e
theorem indexBD_ok : OpM g (rIndex g.K) indexBD := by
  intro W A st σ H d v ds vs Q s rd rs q
  unfold indexBD at q
  split at q
  · rename_i xs
    split at q
    · rename_i bs hb
      split at q
      · rename_i j hj
        obtain ⟨a, ws, rfl, h1, _, r2⟩ := rep_lst_inv rd
        rw [bls?_rep hb r2] at h1
        obtain ⟨t, rfl, rt⟩ := reps1 rs
        obtain ⟨p1, p2⟩ := posT_at hj
        refine ⟨a, bs.map V.bl, .bl true, j, .bl true, rfl, by rw [rep_bl_inv rt], SqL.of h1, rfl, ?_, by rw [List.getElem?_map, p1]; rfl, rfl, fun m z hm e => ?_, q A _ H (.refl _ _) s (rep_int _)⟩
        · rw [List.all_map]; exact List.all_eq_true.mpr fun _ _ => rfl
        · rw [List.getElem?_map] at e
          cases eb : bs[m]? with
          | none => rw [eb] at e; cases e
          | some b =>
            rw [eb] at e
            cases e
            rw [p2 m b hm eb]; rfl
      · exact q.elim
    · exact q.elim
  · exact q.elim
end
/-! ### the def -/
def wordS (c : Nat) : Str := if c = 1 then "BadRoute" else if c = 2 then "BadRule" else if c = 3 then "NoNeighbour" else "NoLine"
def excL : List Nat := [1, 2, 3, 6]
def excN (c : Nat) : Str := wordS c
/-- what is known of the four classes -/
structure WordF (g : Gh) (mg : Str → Option Value) : Prop where
  at_ : ∀ c ∈ excL, mg (excN c) = some (.ref (g.cA c))
  isC : ∀ c ∈ excL, ∀ j ∈ excL, PySem.W.kitOne g.K (.ref (g.cA c)) (.ref (g.cA j)) = some (c == j)
  isV : ∀ c ∈ excL, PySem.W.kitOne g.K (.ref (g.cA c)) (.type "ValueError") = some true
  ex : ∀ c ∈ excL, ExcC g.K (g.cA c)
  b_isinstance : mg "isinstance" = none
  b_int : mg "int" = none
  b_sum : mg "sum" = none
  b_ValueError : mg "ValueError" = none
structure GWord (P : Program) (w : World) (g : Gh) (mg : Str → Option Value) (base : Heap) (x : Str) (k : Nat) : Prop where
  ex : ∃ f fd ps, mg x = some (.ref f) ∧ PySem.W.keepIn g.K (.ref f) = true ∧ Binds g.K fd ps [] ∧ ps.length = 1 ∧
    ∀ (A : Around) (outer : List Env) (s : Shared) (H : Hp) (args : Args) (Q : VK) (E : XK) (p : Addr × Obj) (c : Nat), c ∈ excL → RoomH k A → Hot1 A p → Zc (.ref (g.cA c)) none p.2 → PinOk outer H s p → Env0 P w g.K mg base A outer s H → BindsTo s fd args (ps.zip [.ref p.1]) →
      (∀ H', (∀ b o, H b = some o → H' b = some o) → Q (.str (wordS c)) H') → codeAny (model P w) A (.call (.ref f) args) (CR (L2N.CX P w) outer P w H s Q E) s
def b_word (c : Nat) : DS :=
  (dSeq (dSet (tgN 1) (dLst [dIsE 0 (c == 1), dIsE 0 (c == 2), dIsE 0 (c == 3), dIsE 0 (c == 6)]))
    (dSeq (dSet (tgN 2) (dLst [(dC (.str "BadRoute")), (dC (.str "BadRule")), (dC (.str "NoNeighbour")), (dC (.str "NoLine"))]))
    (dSeq (dIfS (dOr (dTest (dB neD (dCall sumD [dBoolsH 1]) (dC (.int 1)))) (dNot (dTest (dIsE 0 true))))
      (dRet (dC (.str "other"))) dNext)
    (dRet (dB ixD (dV 2) (dMeth chkL indexBD (dV 1) [(dC (.bl true))]))))))
theorem word_run {c : Nat} (hc : c ∈ excL) (st : Sto) : ∃ env, b_word c [some (.fn 0), none, none, none] st = .rt (.str (wordS c)) st ∧ env = (0 : Nat) := by
  simp only [excL, List.mem_cons, List.mem_nil_iff, or_false] at hc
  refine ⟨0, ?_, rfl⟩
  rcases hc with rfl | rfl | rfl | rfl <;> rfl
/-- the ghosts with the handled exception in the place of a def -/
abbrev Gh.exc (g : Gh) (a : Addr) : Gh := { g with fA := fun _ => a, M := [] }
section
variable {P : Program} {w : World} {g : Gh} {mg : Str → Option Value} {base : Heap}
theorem sto_nil (g : Gh) (hM : g.M = []) (H : Hp) : StOk g [] [] H := ⟨rfl, List.nodup_nil, fun l a o e => by simp at e, fun m hm => by rw [hM] at hm; cases hm⟩
theorem word_rule {x qual : Str} {st : Stmt} {f : Addr} {fd : FuncData} {N ps : List Str} {k : Nat} (F : L2.Fun g.K x qual st f fd) (S : FnScope N ps (defScope st)) (hps : ps.length = 1) (hN : N.length = 4) (hmg : mg x = some (.ref f)) (hkeep : PySem.W.keepIn g.K (.ref f) = true) (hbd : Binds g.K fd ps [])
    (hbody : ∀ (cdv : Value) (A : Around) (outer : List Env) (s : Shared) (H : Hp) (E : XK) (p : Addr × Obj) (c : Nat), c ∈ excL → Hot1 A p → Zc (.ref (g.cA c)) none p.2 → RoomH k (A.deeper (envOfC qual (defScope st) s.heap.objs.size f cdv)) →
      PSs (cxH (L2N.CX P w) P w g.K mg base N qual (defScope st) f cdv A outer s H E p) (defBody st) (tS (g.exc p.1) W0 (b_word c))) : GWord P w g mg base x (k + 1) := by
  obtain ⟨oc, od, kV, doc, pm, an, cdv, ct, osl, rfl, lk, hcd⟩ := F.ex
  refine ⟨f, _, ps, hmg, hkeep, hbd, hps, fun A outer s H args Q E p c hc hr hot hz hpin e0 hb q => ?_⟩
  have KX : g.K.In s.heap := e0.mod.kin.keeps fun b o e => (e0.bs b o e).1
  have lim : s.heap.NoLimit := e0.mod.nolimit.keeps fun b o e => (e0.bs b o e).1
  have par : ∀ y ∈ ps.zip [Value.ref p.1], (defScope st).names.lookup y.1 = some .local ∨ ((defScope st).names.lookup y.1 = some .cell ∧ ((cellsFrom (s.heap.objs.size + 1) (defScope st).names []).lookup y.1).isSome = true) := fun ⟨n, v⟩ hy =>
    (S.par n (List.of_mem_zip hy).1).imp id fun z => ⟨z, PySem.W.cellsFrom_some _ _ _ (.inl z)⟩
  refine codeAny_call_function hr.depth (KX _ _ lk) rfl S.co S.gen rfl (PySem.W.codeRec_of KX hcd) (hb _ _ _ _ ?_)
  refine wpAny_newFunctionEnv_cells S.kind par fun env he s1 y => ?_
  subst he
  refine ⟨lim.keeps y.toInCall.keep, codeAny_func ?_⟩
  have I := inv_startH (CX := L2N.CX P w) (N := N) (ps := ps) (qual := qual) (f := f) (cd := cdv) (E := E) (vs := [V.ref p.1]) S hpin e0 (by rw [hps]; rfl) (.cons rfl .nil) y
  have ht := hbody cdv A outer s H E p c hc hot hz (hr.deeper _)
  have M : Mt (g.exc p.1) [] [some (.fn 0), none, none, none] [] (L2.start N [V.ref p.1]) H := by
    refine ⟨⟨?_, fun i d h => ?_⟩, sto_nil _ rfl H⟩
    · unfold L2.start; simp [hN]
    · cases i with
      | zero =>
        cases h
        exact ⟨.ref p.1, rfl, by unfold Rep; rfl⟩
      | succ i =>
        match i, h with
        | 0, h => cases h
        | 1, h => cases h
        | 2, h => cases h
        | (i + 3), h => simp at h
  obtain ⟨_, hrun, _⟩ := word_run hc []
  refine wpAny_mono (ht.run [] s1 (L2.start N [V.ref p.1]) H { nx := fun _ _ => False, rt := Q } I ⟨[], _, [], M, ?_⟩) (fun fl s' hs => ?_) fun e s' hs => hs
  · rw [hrun]
    intro A' v H' x _ r
    rw [(rep_str_inv r).1]
    exact q H' fun b o e => (x.keep b o (by simp) e).2
  · cases fl with
    | ret u =>
      obtain ⟨v, σ', H', J, rv, q'⟩ := hs
      exact ⟨v, H', J.os, J.bare, J.base, J.hok, rv, q'⟩
    | next => obtain ⟨_, _, _, z⟩ := hs; exact z.elim
    | brk => obtain ⟨_, _, _, z⟩ := hs; exact z.elim
    | cont => obtain ⟨_, _, _, z⟩ := hs; exact z.elim
end
theorem word_ok {c : Nat} (hc : c ∈ excL) : SOk (wordS c) := by
  simp only [excL, List.mem_cons, List.mem_nil_iff, or_false] at hc
  rcases hc with rfl | rfl | rfl | rfl <;> exact ⟨by decide +kernel, by decide +kernel⟩
theorem GWord.of {P : Program} {w : World} {g : Gh} {mg : Str → Option Value} {base : Heap} {x : Str} {st : Stmt} {N ps : List Str} {k : Nat} (D : DefOk g.K mg x st ps) (S : FnScope N ps (defScope st)) (hps : ps.length = 1) (hN : N.length = 4)
    (hbody : ∀ (f : Addr) (cdv : Value) (A : Around) (outer : List Env) (s : Shared) (H : Hp) (E : XK) (p : Addr × Obj) (c : Nat), c ∈ excL → Hot1 A p → Zc (.ref (g.cA c)) none p.2 → RoomH k (A.deeper (envOfC x (defScope st) s.heap.objs.size f cdv)) →
      PSs (cxH (L2N.CX P w) P w g.K mg base N x (defScope st) f cdv A outer s H E p) (defBody st) (tS (g.exc p.1) W0 (b_word c))) : GWord P w g mg base x (k + 1) := by
  obtain ⟨f, fd, hF, hm, hb⟩ := D.ex
  exact word_rule hF S hps hN hm hF.kp hb fun cdv A outer s H E p c hc hot hz hr => hbody f cdv A outer s H E p c hc hot hz hr
theorem GWord.wm {P : Program} {w : World} {g : Gh} {mg : Str → Option Value} {base : Heap} {x : Str} {k : Nat} (G : GWord P w g mg base x k) (M : List Addr) : GWord P w (g.wm M) mg base x k := ⟨G.ex⟩
/-! ### try -/
def dTry (i : Nat) (b : DS) : DS := fun env st => match b env st with
  | .exc c e st' => if c ∈ excL ∧ i < e.length then .rt (.str (wordS c)) st' else .bad
  | r => r
section
variable {X : Cx} {g : Gh} {W : WX}
def tWord (g : Gh) (i : Nat) (a : Addr) (cls : Value) (d : Option Addr) : TE := fun σ H Q => ∃ c ∈ excL, cls = .ref (g.cA c) ∧ d = none ∧ σ[i]? = some (some (.ref a)) ∧ ∀ H', (∀ b o, H b = some o → H' b = some o) → Q (.str (wordS c)) H'
/-- f(e) in a suite, f the word def -/
theorem word_call {x n : Str} {i k : Nat} {np q pos : Pos} {a : Addr} {oe : Obj} {cls : Value} {d : Option Addr} {pn : List (Addr × Obj)} (hK : g.K = X.K) (G : GWord X.prog X.w g X.mg X.base x k) (hr : RoomH k (X.A.mark (some (.ref a)))) (hgl : Gl (X.suite a ((a, oe) :: pn)) x) (hdb : (x == ("__debug__" : Str)) = false)
    (hz : L2N.Zn cls d oe) (hf : ∃ vs, oe.data = .fields vs) (hi : X.N[i]? = some n) (hv : Vis X.env.scope n) (hnd : (n == ("__debug__" : Str)) = false) (hnc : (n == ("__classdict__" : Str)) = false)
    (he : starEach [Expr.Name n np] X.env = (false, eval (.Name n np) X.env) :: starEach [] X.env) (hpl : (backTo pos (starEach [] X.env)).any (·.1) = false) :
    PE (X.suite a ((a, oe) :: pn)) (.Call (.Name x q) [.Name n np] [] pos) (tWord g i a cls d) := by
  obtain ⟨f, fd, ps, h1, h2, h3, h4, h5⟩ := G.ex
  rw [hK] at h2 h3 h5
  refine ⟨fun pins s σ H Q I h => ?_⟩
  obtain ⟨c, hc, rfl, rfl, hσ, hq⟩ := h
  have ha : PA (X.suite a ((a, oe) :: pn)) [.Name n np] _ := pa_cons (pe_var (X := X.suite a ((a, oe) :: pn)) (i := i) hi hv hnd hnc) pa_nil he
  refine wpAny_Call_Name_kw (ld_glob I hgl h1 ?_ hdb)
  refine PySem.W.callWith_K (h₀ := X.base) I.ok.mod.kin h2 (thn (ha.run pos pins s σ H (fun vs H' => vs = [.ref a] ∧ H' = H) I ⟨.ref a, hσ, rfl, rfl⟩) fun us s1 ⟨vs, H1, I1, r, hvs, hH⟩ => ⟨I1.kIn, ?_⟩) he hpl
  subst hvs hH
  have eu : us = [.ref a] := by
    cases r with
    | cons r0 rr => cases rr; cases r0; rfl
  subst eu
  obtain ⟨vs0, hvs0⟩ := hf
  have P1 := I1.pin (a, oe) (List.mem_append_left _ List.mem_cons_self)
  have hpin : PinOk X.stack H1 s1 (a, oe) := ⟨P1.1, P1.2.1, fun hm => (List.mem_cons.mp (I1.stkSub a hm)).elim P1.2.2.1 P1.2.2.2.1, P1.2.2.2.2⟩
  have b := h3 s1 [.ref a] I1.kIn (by rw [List.append_nil, h4]; rfl)
  rw [List.append_nil] at b
  show wpAny _ _ (call (.ref f) [.ref a]) _ _ s1
  refine wpAny_call (codeAny_mono (h5 (X.A.mark (some (.ref a))) X.stack s1 H1 ⟨[.ref a], []⟩ Q (fun _ _ _ => False) (a, oe) c hc hr ⟨rfl, vs0, hvs0, hz.2.2 vs0 hvs0⟩ ⟨hz.1, hz.2.1⟩ hpin I1.env0 b hq) fun r s' hq' => ?_)
  cases r with
  | error e => obtain ⟨_, _, _, _, _, _, _, _, _, _, _, _, z⟩ := hq'; exact z.elim
  | ok fl =>
    cases fl with
    | ret u => exact I1.after hq'
    | next => exact hq'.elim
    | brk => exact hq'.elim
    | cont => exact hq'.elim
theorem ds_try {x y n : Str} {i k : Nat} {C0 : Addr} {body : List Stmt} {np np2 q pos pos' rpos cpos : Pos} {b : DS} (hK : g.K = X.K) (G : GWord X.prog X.w g X.mg X.base x k) (hr : RoomH k X.A)
    (hs : X.stack = X.env :: X.outer) (hf : X.env.frame = some X.env.locals) (hN : X.N.Nodup) (hi : X.N[i]? = some n) (hln : X.env.kindOf n = some .local) (hcn : Names X y (.ref C0)) (tk : L2N.Takes X W)
    (hex : ∀ c ∈ excL, PySem.W.exmOne X.K (.ref (g.cA c)) (.ref C0) = some true) (hgl : Gl X x) (hdb : (x == ("__debug__" : Str)) = false) (hnd : (n == ("__debug__" : Str)) = false) (hnc : (n == ("__classdict__" : Str)) = false)
    (he : starEach [Expr.Name n np2] X.env = (false, eval (.Name n np2) X.env) :: starEach [] X.env) (hpl : (backTo cpos (starEach [] X.env)).any (·.1) = false)
    (hb : ∀ (W' : WX) (pn : List (Addr × Obj)) (xe : Value → Shared → Prop), L2N.Takes (X.tr pn xe) W' → PassesOwn (model X.prog X.w) X.A X.env xe → PSs (X.tr pn xe) body (tS g W' b)) :
    PS X (.Try body [.ExceptHandler (some (.Name y np)) (some n) [.Return (some (.Call (.Name x q) [.Name n np2] [] cpos)) rpos] pos'] [] [] pos) (tS g W (dTry i b)) :=
  ps_imp (L2N.ps_try_as (ts := fun a cls d => fun D σ H => tWord g i a cls d σ H D.rt) (Wout := W) hs hf hN hi hln hcn tk hb fun a oe cls d pn hz hfd => pss_one (ps_ret (word_call hK G ⟨hr.dp, hr.un⟩ hgl hdb hz hfd hi (.inl hln) hnd hnc he hpl))) fun D σ H q => by
    obtain ⟨A, env, st, M, q⟩ := q
    refine ⟨A, env, st, M, ?_⟩
    unfold dTry at q
    cases e : b env st with
    | nx e' st' => rw [e] at q; exact q
    | rt d st' => rw [e] at q; exact q
    | bk e' st' => rw [e] at q; exact q
    | ct e' st' => rw [e] at q; exact q
    | bad => rw [e] at q; exact q
    | exc c e' st' =>
      rw [e] at q
      dsimp only at q
      split at q
      · rename_i hc
        obtain ⟨hc, hi2⟩ := hc
        intro A' σ' H' dx x' M'
        refine ⟨true, hex c hc, fun _ a na => ⟨c, hc, rfl, rfl, ?_, fun H'' hk => ?_⟩, fun z => nomatch z⟩
        · exact List.getElem?_set_self (by rw [← M'.env.len]; exact hi2)
        · have x2 : Ext A' H' A' H'' := ⟨⟨⟨[], by simp⟩, fun b o n e => ⟨n, hk b o e⟩⟩, fun b o u e => hk b _ e⟩
          refine q A' (.str (wordS c)) H'' (x'.trans x2) ?_ (rep_str ?_)
          · refine M'.sto.keep x2 rfl fun a ha => ?_
            obtain ⟨u, e⟩ := M'.sto.there ha
            rw [hk a u e, e]
          · exact word_ok hc
      · exact q.elim
end
end DL

/-! DL31: lists of the store put together, d.get(k, x), displays of dicts with texts as keys. -/
namespace DL
open PySem PySem.Spec PyProof.Rows L2
section
variable {X : Cx} {g : Gh} {W : WX}
/-! ### lists of the store, put together -/
theorem der_lst {A : List Addr} {st : Sto} {H : Hp} {d : D} {ds : List D} {v : V} (s : StOk g A st H) (e : der st d = .lst ds) (r : Rep g A H d v) : ∃ a vs, v = .ref a ∧ H a = some (.lst vs) ∧ Reps g A H ds vs := by
  cases d with
  | loc l =>
    cases e1 : st[l]? with
    | none => simp only [der, e1] at e; cases e
    | some o =>
      cases o with
      | lst es =>
        simp only [der, e1] at e
        cases e
        obtain ⟨a, rfl, ea⟩ := rep_loc_inv r
        obtain ⟨vs, ha, rr⟩ := s.obj l a _ ea e1
        exact ⟨a, vs, rfl, ha, rr⟩
      | _ => simp only [der, e1] at e; cases e
  | lst es =>
    cases e
    obtain ⟨a, vs, rfl, h1, _, q1⟩ := rep_lst_inv r
    exact ⟨a, vs, rfl, h1, q1⟩
  | _ => cases e
def addDd (x y : D) (st : Sto) : Rs D := match der st x, der st y with
  | .lst a, .lst b => if a.length + b.length ≤ 16777216 then .ok (.lst (a ++ b)) st else .bad
  | _, _ => addD x y st
theorem addDd_ok : OpD g (rAddD g.K) addDd := by
  intro W A st σ H x y v u Q s r1 r2 q
  unfold addDd at q
  split at q
  · rename_i a b ea eb
    split at q
    · rename_i hc
      obtain ⟨p1, vs, rfl, h1, q1⟩ := der_lst s ea r1
      obtain ⟨p2, ws, rfl, h2, q2⟩ := der_lst s eb r2
      refine .inr (.inr (.inr ⟨p1, p2, vs, ws, rfl, rfl, h1, h2, by rw [← q1.len, ← q2.len, sizeLine_eq]; exact hc, fun p hp => ?_⟩))
      exact q A _ _ (ext_val s hp) (s.val hp) (rep_lst_new s (q1.append q2) hp)
    · exact q.elim
  · exact addD_ok W A st σ H x y v u Q s r1 r2 q
theorem de_addd {a b : Expr} {pos : Pos} {f k : DE} (hK : g.K = X.K) (ha : PE X a (tD g W f)) (hb : PE X b (tD g W k)) : PE X (.BinOp a .Add b pos) (tD g W (dB addDd f k)) := de_bin (hK ▸ op_addD) addDd_ok ha hb
/-! ### d.get(k, x) -/
def getD2 : D → D → D → Sto → Rs D
  | .loc l, k, z, st => match getO l k st with
    | some (some d) => .ok d st
    | some none => .ok z st
    | none => .bad
  | _, _, _, _ => .bad
def dGet2 (fd fk fz : DE) : DE := fun env st => (fd env st).bind fun x st => if isDi st x = true then (fk env st).bind fun k st => (fz env st).bind fun z st => getD2 x k z st else .bad
theorem de_get2 {o e f : Expr} {apos cpos : Pos} {fd fk fz : DE} (hu : X.A.units + 1 < cLine) (ho : PE X o (tD g W fd)) (he : PE X e (tD g W fk)) (hf : PE X f (tD g W fz)) (m : M2 X o "get" apos e f cpos) : PE X (.Call (.Attribute o "get" apos) [e, f] [] cpos) (tD g W (dGet2 fd fk fz)) :=
  pe_imp (pe_dget2 hu ho he hf m) fun σ H Q q => by
    obtain ⟨A, env, st, M, q⟩ := q
    refine (tR.bind (rel := Rep g) M q).mono fun v H1 ⟨A1, d, st1, x1, s1, r1, M1, q1⟩ => ?_
    split at q1
    · rename_i hc
      obtain ⟨l, a, rfl, rfl, ea, hd⟩ := isDi_rep s1 r1 hc
      refine ⟨a, rfl, hd, ?_⟩
      refine (tR.bind (rel := Rep g) M1 q1).mono fun u H2 ⟨A2, k, st2, x2, s2, r2, M2, q2⟩ => ?_
      refine (tR.bind (rel := Rep g) M2 q2).mono fun z H3 ⟨A3, zd, st3, x3, s3, r3, M3, q3⟩ => ?_
      unfold getD2 at q3
      dsimp only at q3
      cases eg : getO l k st3 with
      | none => rw [eg] at q3; exact q3.elim
      | some o =>
        rw [eg] at q3
        obtain ⟨o', g1, g2⟩ := getO_rep s3 (x3.at (x2.at ea)) (r2.ext x3) eg
        cases o with
        | some d =>
          cases o' with
          | some w => exact ⟨_, g1, q3 A3 _ H3 (.refl _ _) s3 g2⟩
          | none => exact g2.elim
        | none =>
          cases o' with
          | some w => exact g2.elim
          | none => exact ⟨_, g1, q3 A3 _ H3 (.refl _ _) s3 r3⟩
    · exact q1.elim
/-! ### displays -/
theorem mergeK_app : ∀ (kvs acc : List (Key × V)), (∀ p ∈ acc, ∀ q ∈ kvs, p.1 ≠ q.1) → (kvs.map (·.1)).Nodup → mergeK acc kvs = acc ++ kvs
  | [], acc, _, _ => by unfold mergeK; rw [List.append_nil]; rfl
  | (k, v) :: r, acc, h, nd => by
    rw [List.map_cons, List.nodup_cons] at nd
    have e : putK acc k v = acc ++ [(k, v)] := by
      unfold putK
      rw [if_neg]
      intro z
      obtain ⟨p, hp, e⟩ := List.any_eq_true.mp z
      exact h p hp (k, v) List.mem_cons_self (of_decide_eq_true e)
    have ih := mergeK_app r (acc ++ [(k, v)]) (fun p hp q hq => by
      rcases List.mem_append.mp hp with hp | hp
      · exact h p hp q (List.mem_cons_of_mem _ hq)
      · rw [List.mem_singleton] at hp
        subst hp
        intro z
        exact nd.1 (List.mem_map.mpr ⟨q, hq, z.symm⟩)) nd.2
    show mergeK (putK acc k v) r = _
    rw [e, ih, List.append_assoc]; rfl
def dispR (l : Nat) (ks : List Str) (ds : List D) (st : Sto) : Rs D := match st[l]? with
  | some (.dk false []) => .ok (.loc l) (st.set l (.dk false ((ks.map Sum.inr).zip ds)))
  | _ => .bad
def dDisp (ks : List Str) (fs : List DE) : DE := fun env st => (runL fs env (st ++ [.dk false []])).bind fun ds st' => dispR st.length ks ds st'
def prs (g : Gh) (W : WX) : List Str → List DE → List (TE × TE)
  | k :: ks, f :: fs => (tD g W (dC (.str k)), tD g W f) :: prs g W ks fs
  | _, _ => []
theorem Rs.bindA {α β γ : Type} (r : Rs α) (f : α → Sto → Rs β) (k : β → Sto → Rs γ) : (r.bind f).bind k = r.bind fun d st => (f d st).bind k := by cases r <;> rfl
theorem prs_mono {σ : L2.St} : ∀ {ks : List Str} {fs : List DE} {H : Hp} {P Q : List (V × V) → Hp → Prop}, tPairs (prs g W ks fs) σ H P → (∀ ps H', P ps H' → Q ps H') → tPairs (prs g W ks fs) σ H Q
  | [], _, H, P, Q, h, k => by cases ‹List DE› <;> exact k _ _ h
  | x :: ks, [], H, P, Q, h, k => k _ _ h
  | x :: ks, f :: fs, H, P, Q, h, k => by
    have h : tR g W (Rep g) (dC (.str x)) σ H fun x H1 => tR g W (Rep g) f σ H1 fun y H2 => tPairs (prs g W ks fs) σ H2 fun ps H3 => P ((x, y) :: ps) H3 := h
    exact h.mono fun v H1 h1 => tR.mono h1 fun w H2 h2 => prs_mono h2 fun ps H3 h3 => k _ _ h3
theorem prs_run {env : En} {σ : L2.St} {α β : Type} {rel : List Addr → Hp → α → β → Prop} : ∀ {ks : List Str} {fs : List DE} {st : Sto} {H : Hp} {A : List Addr} {k : List D → Sto → Rs α} {Q : β → Hp → Prop}, ks.length = fs.length → Mt g A env st σ H → RP g W rel A σ H ((runL fs env st).bind k) Q →
    tPairs (prs g W ks fs) σ H fun ps H1 => ∃ A1 ds st1 vs, runL fs env st = .ok ds st1 ∧ Ext A H A1 H1 ∧ Mt g A1 env st1 σ H1 ∧ Reps g A1 H1 ds vs ∧ ps = (ks.map V.str).zip vs ∧ (∀ x ∈ ks, SOk x) ∧ RP g W rel A1 σ H1 (k ds st1) Q
  | [], [], st, H, A, k, Q, _, M, q => ⟨A, [], st, [], rfl, .refl _ _, M, .nil, rfl, ⟨(fun _ h => by cases h), q⟩⟩
  | x :: ks, f :: fs, st, H, A, k, Q, hl, M, q => by
    refine ⟨A, env, st, M, fun A1 v H1 x1 s1 r1 => ?_⟩
    have rx := rep_str_inv r1
    have M1 : Mt g A1 env st σ H1 := ⟨M.env.ext x1, s1⟩
    have q := RP.ext x1 q
    unfold runL at q
    rw [Rs.bindA] at q
    refine (tR.bindE (rel := Rep g) M1 q).mono fun w H2 ⟨A2, d, st2, e2, x2, s2, r2, M2, q2⟩ => ?_
    rw [Rs.bindA] at q2
    refine prs_mono (prs_run (by simpa using hl) M2 q2) fun ps H3 ⟨A3, ds, st3, vs, e3, x3, M3, r3, ep, hk, q3⟩ => ?_
    refine ⟨A3, d :: ds, st3, w :: vs, ?_, (x1.trans x2).trans x3, M3, .cons (r2.ext x3) r3, ?_, ?_, q3⟩
    · show ((f env st).bind fun d st => (runL fs env st).bind fun ds st => .ok (d :: ds) st) = _
      rw [e2]
      show ((runL fs env st2).bind fun ds st => .ok (d :: ds) st) = _
      rw [e3]; rfl
    · rw [ep, rx.1]; rfl
    · intro y hy
      rcases List.mem_cons.mp hy with rfl | hy
      · exact rx.2
      · exact hk y hy
theorem PPs_of {pos : Pos} : ∀ {keys : List (Option Expr)} {values : List Expr} {ks : List Str} {fs : List DE}, keys.length = ks.length → values.length = fs.length → (∀ p ∈ keys.zip ks, ∃ e, p.1 = some e ∧ PE X e (tD g W (dC (.str p.2)))) → (∀ p ∈ values.zip fs, PE X p.1 (tD g W p.2)) → keys.length = values.length → PPs X pos keys values (prs g W ks fs)
  | [], [], [], [], _, _, _, _, _ => pps_nil
  | k :: keys, v :: values, x :: ks, f :: fs, h1, h2, h3, h4, h5 => by
    obtain ⟨e, e1, p⟩ := h3 (k, x) List.mem_cons_self
    cases e1
    exact pps_cons p (h4 (v, f) List.mem_cons_self) (PPs_of (by simpa using h1) (by simpa using h2) (fun p hp => h3 p (List.mem_cons_of_mem _ hp)) (fun p hp => h4 p (List.mem_cons_of_mem _ hp)) (by simpa using h5))
theorem vv_zip : ∀ {ks : List Str} {vs : List V}, (ks.map V.str).zip vs = ((ks.map (Sum.inr : Str → Key)).zip vs).map fun kv => (kV kv.1, kv.2)
  | [], vs => by cases vs <;> rfl
  | k :: ks, [] => rfl
  | k :: ks, v :: vs => by
    rw [List.map_cons, List.map_cons, List.zip_cons_cons, List.zip_cons_cons, List.map_cons, ← vv_zip]; rfl
theorem prd_zip {A : List Addr} {H : Hp} : ∀ {ks : List Key} {ds : List D} {vs : List V}, Reps g A H ds vs → Paired (fun (p : Key × D) (q : Key × V) => p.1 = q.1 ∧ Rep g A H p.2 q.2) (ks.zip ds) (ks.zip vs)
  | [], ds, vs, r => .nil
  | k :: ks, [], vs, r => by rw [r.nil_inv]; exact .nil
  | k :: ks, d :: ds, vs, r => by
    obtain ⟨v, ws, rfl, r1, r2⟩ := r.cons_inv
    exact .cons ⟨rfl, r1⟩ (prd_zip r2)
theorem zip_keys {α : Type} : ∀ {ks : List Key} {ds : List α}, ((ks.zip ds).map (·.1)).Nodup ∨ ¬ ks.Nodup
  | ks, ds => by
    by_cases h : ks.Nodup
    · refine .inl (h.sublist ?_)
      clear h
      induction ks generalizing ds with
      | nil => exact List.Sublist.refl _
      | cons k ks ih =>
        cases ds with
        | nil => exact List.nil_sublist _
        | cons d ds => exact (ih (ds := ds)).cons₂ _
    · exact .inr h
theorem de_disp {keys : List (Option Expr)} {values : List Expr} {pos : Pos} {ks : List Str} {fs : List DE} (h : PPs X pos keys values (prs g W ks fs)) (hl : ks.length = fs.length) (nd : ks.Nodup) (hall : keys.all (·.isSome) = true) (he : keys.length = values.length) (h0 : keys ≠ []) (h15 : keys.length ≤ 15) (hk : ks.length ≤ 15) :
    PE X (.Dict keys values pos) (tD g W (dDisp ks fs)) := pe_imp (pe_disp h hall he h0 h15) fun σ H Q q => by
  obtain ⟨A, env, st, M, q⟩ := q
  intro p hp
  have x0 : Ext A H (A ++ [p]) (upd H p (.dK [])) := ext_new M.sto hp
  have s0 : StOk g (A ++ [p]) (st ++ [.dk false []]) (upd H p (.dK [])) := M.sto.new (ob := .dk false []) hp ⟨[], by simpa using upd_same, .nil, fun _ h => by cases h⟩
  have M0 : Mt g (A ++ [p]) env (st ++ [.dk false []]) σ (upd H p (.dK [])) := ⟨M.env.ext x0, s0⟩
  refine prs_mono (prs_run hl M0 (RP.ext x0 q)) fun ps H1 ⟨A1, ds, st1, vs, e1, x1, M1, r1, ep, hs, q1⟩ => ?_
  have hlen := runL_len e1
  have hlv := r1.len
  have ea : (A ++ [p])[st.length]? = some p := by rw [← M.sto.len]; simp
  have ea1 := x1.at ea
  unfold dispR at q1
  split at q1
  · rename_i e
    obtain ⟨kv', h1, p1, _⟩ := M1.sto.obj _ _ _ ea1 e
    have h1 : H1 p = some (.dK kv') := by simpa using h1
    cases p1
    have ndk : (ks.map (Sum.inr : Str → Key)).Nodup := by
      rw [List.Nodup, List.pairwise_map]
      exact nd.imp fun h z => h (Sum.inr.inj z)
    have em : mergeK [] ((ks.map (Sum.inr : Str → Key)).zip vs) = (ks.map (Sum.inr : Str → Key)).zip vs := by
      rw [mergeK_app _ _ (fun _ h => by cases h) (by rcases zip_keys (ks := ks.map Sum.inr) (ds := vs) with z | z; exact z; exact absurd ndk z)]; rfl
    refine ⟨h1, (ks.map (Sum.inr : Str → Key)).zip vs, ep.trans vv_zip, ?_, ?_⟩
    · rw [List.length_zip, List.length_map]; omega
    · rw [em]
      have x2 : Ext A1 H1 A1 (upd H1 p (.dK ((ks.map (Sum.inr : Str → Key)).zip vs))) := ext_set ea1 (fun _ _ z => by rw [h1] at z; cases z)
      refine q1 A1 (.ref p) _ x2 (M1.sto.set ea1 ⟨(ks.map (Sum.inr : Str → Key)).zip vs, by simpa using upd_same, prd_zip (r1.ext x2), fun q hq => ?_⟩) ?_
      · obtain ⟨z, hz, e2⟩ := List.mem_map.mp (List.of_mem_zip (a := q.1) (b := q.2) hq).1
        rw [← e2]
        exact hs z hz
      · unfold Rep
        exact ⟨p, rfl, ea1⟩
  · exact q1.elim
end
end DL
namespace DL
open PySem PySem.Spec PyProof.Rows L2
/-- the thing that an expression finds -/
def lcE (f : DE) : Lc := fun env st => match f env st with
  | .ok (.loc m) _ => if m < st.length then some m else none
  | _ => none
theorem LcOk.e {g : Gh} (f : DE) : LcOk g (lcE f) := fun A env st σ H l M h => by
  have hl : l < st.length := by
    unfold lcE at h
    split at h
    · split at h
      · cases h; assumption
      · cases h
    · cases h
  exact ⟨A[l]'(by rw [M.sto.len]; exact hl), List.getElem?_eq_getElem _⟩
end DL
namespace DL
open PySem PySem.Spec PyProof.Rows L2
theorem exc_all {p : Nat → Prop} (h1 : p 1) (h2 : p 2) (h3 : p 3) (h6 : p 6) : ∀ c ∈ excL, p c := fun c hc => by
  simp only [excL, List.mem_cons, List.mem_nil_iff, or_false] at hc
  rcases hc with rfl | rfl | rfl | rfl
  · exact h1
  · exact h2
  · exact h3
  · exact h6
theorem GKt.mk' {K : PySem.W.Frag} {h : Heap} {mg : Str → Option Value} {x : Str} {a : Addr} {ss : List Str} {its : Array Value} {n : Nat} {od : Option Addr} {sl : Array (Option Value)} (X : K.In h) (G : h.Ns mainGlobals mg) (e : PySem.W.nsIn K mainGlobals x = some (some (.ref a)))
    (l : K.lookup a = some ⟨.type "tuple", od, .seq its n, sl⟩) (hz : its.size ≤ 1000) (v : Vals (ss.map V.str) its.toList) : GKt K mg x ss :=
  ⟨a, PySem.W.mg_of X G e, _, its, n, l, rfl, rfl, by rw [sizeLine_eq]; omega, v⟩
theorem uuH {k : Nat} {A : Around} (hr : L2H.RoomH k A) : A.units + 64 < cLine := by have := hr.un; omega
theorem uuH1 {k : Nat} {A : Around} (hr : L2H.RoomH k A) : A.units + 1 < cLine := by have := hr.un; omega
end DL
namespace DL
open PySem PySem.Spec PyProof.Rows L2
theorem kitCls_own {K : PySem.W.Frag} {A B : Addr} {b : Bool} (e : PySem.W.subIn K (.ref A) (.ref B) = some b) (c : PySem.W.isClsIn K B = true) (t : PySem.W.typeIn K (.ref B) = some (.type "type")) : PySem.W.kitCls K (.ref A) (.ref B) = some b := by
  unfold PySem.W.isClsIn at c
  show (if ((PySem.W.clsIn K B).isSome && PySem.W.typeIn K (.ref B) == some (.type "type")) = true then PySem.W.subIn K (.ref A) (.ref B) else none) = _
  rw [c, t, if_pos (by rfl), e]
theorem kit_own {K : PySem.W.Frag} {A B : Addr} {b : Bool} (e : PySem.W.subIn K (.ref A) (.ref B) = some b) (c : PySem.W.isClsIn K B = true) (t : PySem.W.typeIn K (.ref B) = some (.type "type")) (s : PySem.W.subIn K (.ref A) (.ref A) = some true) : PySem.W.kitOne K (.ref A) (.ref B) = some b := by
  unfold PySem.W.kitOne
  by_cases h : ((Value.ref A) == (Value.ref B)) = true
  · rw [if_pos h]
    have : A = B := by
      simpa using h
    subst this
    rw [s] at e
    exact e
  · rw [if_neg h]
    exact kitCls_own e c t
theorem kit_val {K : PySem.W.Frag} {A : Addr} (e : PySem.W.subIn K (.ref A) (.type "ValueError") = some true) : PySem.W.kitOne K (.ref A) (.type "ValueError") = some true := by
  unfold PySem.W.kitOne
  rw [if_neg (by show ¬ (false = true); decide)]
  show (if PySem.W.kitMeta "ValueError" = true then PySem.W.subIn K (.ref A) (.type "ValueError") else none) = _
  rw [if_pos (by decide +kernel), e]
theorem exm_own {K : PySem.W.Frag} {A B : Addr} (e : PySem.W.subIn K (.ref A) (.ref B) = some true) (c : PySem.W.isClsIn K B = true) (t : PySem.W.typeIn K (.ref B) = some (.type "type")) (s : PySem.W.subIn K (.ref B) (.type "BaseException") = some true) : PySem.W.exmOne K (.ref A) (.ref B) = some true := by
  unfold PySem.W.exmOne
  rw [s, if_pos (by rfl)]
  exact kitCls_own e c t
end DL

/-! DL32: slices with a step of one, list.pop(i), dicts that are alike compared. -/
namespace L2
open PySem PySem.Spec PyProof.Rows
theorem pick_one (items : Array Value) : slicePick items none none (some 1) = items := by
  unfold slicePick
  have hb : sliceBounds none none (some 1) items.size = ((0 : Int), (items.size : Int), (1 : Int)) := by simp [sliceBounds]
  rw [hb]
  have e : sliceRange (0 : Int) (items.size : Int) 1 = List.range items.size := by
    unfold sliceRange
    by_cases h : (0 : Int) < (items.size : Int)
    · have e2 : ((items.size : Int) - 0 + 1 - 1) / 1 = (items.size : Int) := by rw [Int.ediv_one]; omega
      have e3 : (if (0 : Nat) < items.size then (items.size : Int) else 0).toNat = items.size := by rw [if_pos (by omega)]; rfl
      simp [h, e3]
    · have e0 : items.size = 0 := by omega
      rw [e0]; simp
  show ((sliceRange (0 : Int) (items.size : Int) 1).filterMap (items[·]?)).toArray = items
  rw [e, PySem.W.krv_all]
section
variable {X : Cx}
def tStep (K : PySem.W.Frag) (te : TE) (ts : TO) : TE := fun σ H Q => te σ H fun x H1 => ts σ H1 fun o H2 => ∃ a xs, x = .ref a ∧ SqL K H2 a xs ∧ ((o = some 1 ∧ ∀ p, H2 p = none → Q (.ref p) (upd H2 p (.lst xs))) ∨ (o = some (-1) ∧ ∀ p, H2 p = none → Q (.ref p) (upd H2 p (.lst xs.reverse))))
theorem pe_step {e f : Expr} {te : TE} {ts : TO} {p2 pos : Pos} (he : PE X e te) (hst : PO X (some f) ts) : PE X (.Subscript e (.Slice none none (some f) p2) pos) (tStep X.K te ts) := by
  refine ⟨fun pins s σ H Q I h => ?_⟩
  refine Subscript_ (thn (he.run pins s σ H _ I h) fun v s1 ⟨x, H1, I1, r1, q1⟩ => ?_)
  refine wpAny_Slice (thn (po_none.run pins s1 σ H1 (fun o H2 => o = none ∧ H2 = H1) I1 ⟨rfl, rfl⟩) fun vl s2 ⟨l, H2, I2, pl, el, e2⟩ => ?_)
  subst el e2
  refine thn (po_none.run pins s2 σ H2 (fun o H3 => o = none ∧ H3 = H2) I2 ⟨rfl, rfl⟩) fun vu s3 ⟨u, H3, I3, pu, eu, e3⟩ => ?_
  subst eu e3
  refine thn (hst.run pins s3 σ H3 _ I3 q1) fun vs s4 ⟨o, H4, I4, ps, a, xs, ex, hx, q⟩ => ?_
  subst ex
  cases r1
  have I5 : Inv X pins σ H4 { s4 with heap := s4.heap.push { cls := .type "slice", data := .fields #[vl, vu, vs] } } := I4.kept (t' := s4.toks) fun b ob q => Heap.get?_push_of_some _ q
  obtain ⟨its, r, ht, hz⟩ := I5.list hx
  have hlen := r.length
  have h0 : o ≠ some 0 := by rcases q with ⟨rfl, _⟩ | ⟨rfl, _⟩ <;> decide
  show wpAny (model X.prog X.w) X.A (subscriptTail e (.Slice none none (some f) p2) (.ref a) (.ref s4.heap.objs.size)) (EP X pins σ Q) X.xe { s4 with heap := s4.heap.push { cls := .type "slice", data := .fields #[vl, vu, vs] } }
  refine tail_any (ops := [.ref a, .ref s4.heap.objs.size]) ht.isList.typeIs (PySem.slot_list_getitem.lookup) ?_ (by with_unfolding_all rfl)
  refine wpAny_getItem_list_slice ht.isList (Heap.IsSliceOf.new _ vl vu vs) pl pu ps h0 ?_ (by rw [List.size_toArray]; omega)
  rcases q with ⟨rfl, q⟩ | ⟨rfl, q⟩
  · rw [pick_one]
    refine ⟨.ref _, _, I5.laid (t' := s4.toks) (o := .lst xs) (fun b ob q => Heap.get?_push_of_some _ q) (Nat.le_refl _) ?_, rfl, q _ (I5.hok.fresh (Nat.le_refl _))⟩
    exact ⟨hz, _, 0, r, Heap.get?_push_size _ rfl⟩
  · rw [PySem.W.krv_pick]
    refine ⟨.ref _, _, I5.laid (t' := s4.toks) (o := .lst xs.reverse) (fun b ob q => Heap.get?_push_of_some _ q) (Nat.le_refl _) ?_, rfl, q _ (I5.hok.fresh (Nat.le_refl _))⟩
    exact ⟨by rw [List.length_reverse]; exact hz, _, 0, r.reverse, Heap.get?_push_size _ rfl⟩
/-- dicts alike, whose values are plain data -/
def rNeK (K : PySem.W.Frag) : R2 := fun x y H Q => ∃ a b ks ls, x = .ref a ∧ y = .ref b ∧ H a = some (.dK ks) ∧ H b = some (.dK ls) ∧ ks.length = ls.length ∧ (∀ p ∈ ks, ∃ u d, valV ls p.1 = some u ∧ Dp K H p.2 d ∧ Dp K H u d ∧ SeqAt.shaped d = true ∧ PyData.eqv d d = true) ∧ Q (.bl false) H
theorem hits_data {K : PySem.W.Frag} {A : Around} {s : Shared} {H : Hp} {kvs : List (Key × V)} {vb : List (Key × Value)} (hat : ∀ (x y : V) (v u : Value) (d : PyData), Dp K H x d → Dp K H y d → SeqAt.shaped d = true → PyData.eqv d d = true → RelV x v → RelV y u → SeqAt.EqAt A s v u true) (rb : KV kvs vb) {ks : List (Key × V)} {va : List (Key × Value)} (ra : KV ks va) :
    (∀ p ∈ ks, ∃ u d, valV kvs p.1 = some u ∧ Dp K H p.2 d ∧ Dp K H u d ∧ SeqAt.shaped d = true ∧ PyData.eqv d d = true) → PySem.W.KeqHits A s vb va true := by
  unfold KV at ra
  induction ra with
  | nil => intro _; exact .nil
  | @cons p q ps qs h t ih =>
    intro hp
    obtain ⟨h1, h2⟩ := h
    obtain ⟨u, d, e, f1, f2, f3, f4⟩ := hp p List.mem_cons_self
    have rr : RelO (some u) (valueAt vb p.1) := by rw [← e]; exact rb.val p.1
    obtain ⟨y, hy, ry⟩ := rr.some_of
    obtain ⟨k, v⟩ := q
    have h1' : p.1 = k := h1
    rw [h1'] at hy
    show PySem.W.KeqHits A s vb ((k, v) :: qs) (true && true)
    exact .hit hy (hat _ _ _ _ d f1 f2 f3 f4 h2 ry) (ih fun p' hm => hp p' (List.mem_cons_of_mem _ hm))
theorem op_neK (hu : X.A.units + 66 < cLine) : OpR X (compareOp .NotEq) (rNeK X.K) := by
  intro pins s σ H x y v u Q I rx ry h
  obtain ⟨a, b, ks, ls, rfl, rfl, ea, eb, hlen, hp, q⟩ := h
  obtain rfl : v = Value.ref a := rx
  obtain rfl : u = Value.ref b := ry
  obtain ⟨_, ya, va, ra, da⟩ := (show ObjOk X.prog X.w H s.heap a (.dK ks) from I.hok a _ ea)
  obtain ⟨_, yb, vb, rb, db⟩ := (show ObjOk X.prog X.w H s.heap b (.dK ls) from I.hok b _ eb)
  have hl : va.length = vb.length := by rw [← ra.length, ← rb.length]; exact hlen
  refine PySem.W.keq_ne (knd := mixKind X.prog X.w) (r := true) ya yb da db (by omega) (fun _ => hits_data (K := X.K) (H := H) (fun x y v u d h1 h2 h3 h4 r1 r2 => ?_) rb ra hp) (fin_bl I q (by simp [hl]))
  obtain ⟨as, z1⟩ := Dp.reads I d x v h1 r1
  obtain ⟨bs, z2⟩ := Dp.reads I d y u h2 r2
  have := PySem.W.keq_at (A := X.A.in1) z1 z2 h3 h3 (by show X.A.units + 1 + 1 + 64 < cLine; omega)
  rw [h4] at this
  exact SeqAt.eqAt_reads d d X.A.in1 s v u as bs z1 z2 (SeqAt.canLay_of_shaped h3) (SeqAt.canLay_of_shaped h3) (SeqAt.room_of_shaped h3 (by show X.A.units + 1 + 64 < cLine; omega)) |> fun z => by rw [h4] at z; exact z
end
end L2
namespace DL
open PySem PySem.Spec PyProof.Rows L2
section
variable {X : Cx} {g : Gh} {W : WX}
def stepD (x : D) (o : Option Int) (st : Sto) : Rs D := match x with
  | .lst xs => if o = some 1 then .ok (.lst xs) st else if o = some (-1) then .ok (.lst xs.reverse) st else .bad
  | _ => .bad
def dStep (f : DE) (k : DO) : DE := fun env st => (f env st).bind fun x st => (k env st).bind fun o st => stepD x o st
@[simp] theorem dStep_def (f : DE) (k : DO) (env : En) (st : Sto) : dStep f k env st = (f env st).bind fun x st => (k env st).bind fun o st => stepD x o st := nrfl rfl
theorem reps_rev {A : List Addr} {H : Hp} : ∀ {ds : List D} {vs : List V}, Reps g A H ds vs → Reps g A H ds.reverse vs.reverse
  | [], vs, r => by rw [r.nil_inv]; exact .nil
  | d :: ds, vs, r => by
    obtain ⟨v, ws, rfl, r1, r2⟩ := r.cons_inv
    rw [List.reverse_cons, List.reverse_cons]
    exact (reps_rev r2).append (.cons r1 .nil)
theorem de_step {e f : Expr} {p2 pos : Pos} {fe : DE} {k : DO} (hK : g.K = X.K) (he : PE X e (tD g W fe)) (hk : PO X (some f) (tR g W relO k)) : PE X (.Subscript e (.Slice none none (some f) p2) pos) (tD g W (dStep fe k)) :=
  pe_imp (pe_step he hk) fun σ H Q q => by
    obtain ⟨A, env, st, M, q⟩ := q
    refine (tR.bind (rel := Rep g) M q).mono fun v H1 ⟨A1, d, st1, x, s, r, M1, q1⟩ => ?_
    refine (tR.bind (rel := relO) M1 q1).mono fun a H2 ⟨A2, d2, st2, x2, s2, r2, M2, q2⟩ => ?_
    have e2 : d2 = a := r2
    subst e2
    have r3 := r.ext x2
    unfold stepD at q2
    split at q2
    · obtain ⟨b, vs, rfl, h1, _, rr⟩ := rep_lst_inv r3
      refine ⟨b, vs, rfl, hK ▸ SqL.of h1, ?_⟩
      split at q2
      · rename_i h
        exact .inl ⟨h, fun p hp => q2 A2 _ _ (ext_val s2 hp) (s2.val hp) (rep_lst_new s2 rr hp)⟩
      · split at q2
        · rename_i h
          exact .inr ⟨h, fun p hp => q2 A2 _ _ (ext_val s2 hp) (s2.val hp) (rep_lst_new s2 (reps_rev rr) hp)⟩
        · exact q2.elim
    · exact q2.elim
/-! pop(0) of a list of the store -/
def pop0D : D → List D → Sto → Rs D
  | .loc l, [.int 0], st => match st[l]? with
    | some (.lst (x :: xs)) => .ok x (st.set l (.lst xs))
    | _ => .bad
  | _, _, _ => .bad
theorem pop0D_ok : OpM g rPopAt pop0D := by
  intro W A st σ H x v ds vs Q s r1 r2 q
  unfold pop0D at q
  split at q
  · rename_i l
    obtain ⟨w, rfl, r3⟩ := reps1 r2
    obtain ⟨a, rfl, ea⟩ := rep_loc_inv r1
    split at q
    · rename_i _ y ys e
      obtain ⟨vs, h1, q1⟩ := s.obj l a _ ea e
      obtain ⟨z, zs, rfl, p1, p2⟩ := q1.cons_inv
      · refine ⟨a, z :: zs, 0, 0, z, rfl, by rw [rep_int_inv r3], h1, by decide, by decide, ?_, rfl, ?_⟩
        · show seqIndex? 0 (zs.length + 1) = some 0
          unfold seqIndex?
          simp
        · have x1 : Ext A H A (upd H a (.lst zs)) := ext_set ea (fun _ _ z => by rw [h1] at z; cases z)
          exact q A _ _ x1 (s.set ea ⟨_, upd_same, p2.ext x1⟩) (p1.ext x1)
    · exact q.elim
  · exact q.elim
theorem pop0_at {st : Sto} {l : Nat} {x : D} {xs : List D} (h : st[l]? = some (.lst (x :: xs))) : pop0D (.loc l) [.int 0] st = .ok x (st.set l (.lst xs)) := by
  unfold pop0D
  simp only [h]
/-! dicts compared -/
open Classical in
noncomputable def neK (x y : D) (st : Sto) : Rs D := match x, y with
  | .loc a, .loc b => match st[a]?, st[b]? with
    | some (.dk false k1), some (.dk false k2) => if k1.length = k2.length ∧ ∀ p ∈ k1, look k2 p.1 = some p.2 ∧ good 39 p.2 = true ∧ PyData.eqv (toP p.2) (toP p.2) = true then .ok (.bl false) st else .bad
    | _, _ => .bad
  | _, _ => .bad
theorem pair_right {α β : Type} {F : α → β → Prop} : ∀ {xs : List α} {ys : List β}, Paired F xs ys → ∀ y ∈ ys, ∃ x ∈ xs, F x y
  | _, _, .nil, y, h => (nomatch h)
  | _, _, .cons h t, y, hy => by
    rcases List.mem_cons.mp hy with e | hy
    · exact ⟨_, List.mem_cons_self, e ▸ h⟩
    · obtain ⟨x, hx, f⟩ := pair_right t y hy
      exact ⟨x, List.mem_cons_of_mem _ hx, f⟩
theorem neK_ok : OpD g (rNeK g.K) neK := by
  intro W A st σ H x y v u Q s r1 r2 q
  unfold neK at q
  split at q
  · rename_i a b
    split at q
    · rename_i k1 k2 e1 e2
      split at q
      · rename_i hc
        obtain ⟨x1, rfl, ea⟩ := rep_loc_inv r1
        obtain ⟨x2, rfl, eb⟩ := rep_loc_inv r2
        obtain ⟨kv1, h1, p1, _⟩ := s.obj a x1 _ ea e1
        obtain ⟨kv2, h2, p2, _⟩ := s.obj b x2 _ eb e2
        refine ⟨x1, x2, kv1, kv2, rfl, rfl, by simpa using h1, by simpa using h2, ?_, fun p hp => ?_, q A _ H (.refl _ _) s (rep_bl _)⟩
        · rw [← p1.length, ← p2.length]; exact hc.1
        · obtain ⟨z, hz, e, r⟩ := pair_right p1 p hp
          obtain ⟨c1, c2, c3⟩ := hc.2 z hz
          have lk := look_rep z.1 p2
          rw [c1] at lk
          obtain ⟨w, hw, rw'⟩ := lk
          have l1 := lays_of 39 z.2 p.2 c2 r
          have l2 := lays_of 39 z.2 w c2 rw'
          exact ⟨w, toP z.2, by rw [← e]; exact hw, l1.dp, l2.dp, shaped_of l1.lay l1.deep (by omega), c3⟩
      · exact q.elim
    · exact q.elim
  · exact q.elim
end
end DL
namespace DL
open PySem PySem.Spec PyProof.Rows L2
theorem uu66 {k : Nat} {A : Around} (hr : Room k A) : A.units + 66 < cLine := by have := hr.un; omega
end DL

/-! DL33: d.pop(k), the keys tuples. -/
namespace L2
open PySem PySem.Spec PyProof.Rows
section
variable {X : Cx}
def rPopT1 : V → List V → Hp → VK → Prop := fun x xs H Q => ∃ (a : Addr) (kvs : List (List L2.Key × V)) (k : List L2.Key) (b : Addr) (v : V), x = .ref a ∧ xs = [.ref b] ∧ H a = some (.dT kvs) ∧ H b = some (.tup (k.map kV)) ∧ valV kvs k = some v ∧ Q v (upd H a (.dT (dropK kvs k)))
theorem mt_popT1 (hu : X.A.units + 1 < cLine) : MtR X "dict.pop" rPopT1 := by
  intro pins s σ H x xs v us Q I rx rxs h
  obtain ⟨a, kvs, k, b, v0, rfl, rfl, ha, hb, ev, q⟩ := h
  cases rx
  obtain ⟨u1, rfl, r1⟩ := rxs.one
  cases r1
  obtain ⟨z, hd, xs', rel, dd⟩ := dt_of I.hok ha
  have hz : xs'.length ≤ sizeLine := by rw [← Paired.length rel]; exact z
  refine call_meetsIn PySem.F.slot_dict_pop dd.typeIs PySem.F.entry_dict_pop (PySem.F.args_dict_pop_2 _ _) (meetsH_dict_pop (tupleKind (mixKind X.prog X.w)) a b hd [] (.inl rfl))
    ⟨tupleKind_room_in1 hu, k, xs', key_of I.hok hb, dd, hz, fun p hp h' dd' hs => ?_, fun hn tk => ⟨fun d hd => (nomatch hd), fun _ => ?_⟩⟩
  · have r := rel.val k
    rw [hp, ev] at r
    have rv : RelV v0 p.2 := r
    obtain ⟨o, es, ep, hq, h2, h3, h4, _, h5⟩ := dd'
    have I2 : Inv X pins σ (upd H a (.dT (dropK kvs k))) { s with heap := h', toks := s.toks + (tupleKind (mixKind X.prog X.w)).draws k } :=
      d_write I (by rw [ha]; exact True.intro) hs ⟨o, hq⟩ ⟨Nat.le_trans (dropK_le kvs k) z, hd, _, (DX.KT_drop k rel).keeps (fun c ys ec => (by rw [upd_ne (ne_of ec ha (fun z => nomatch z))]; exact ec)), o, es, ep, hq, h2, h3, h4, h5⟩
    show EP X pins σ Q p.2 _
    exact ⟨v0, _, I2, rv, q⟩
  · have r := rel.val k
    rw [hn, ev] at r
    exact (show False from r).elim
end
end L2
namespace DL
open PySem PySem.Spec PyProof.Rows L2
section
variable {X : Cx} {g : Gh} {W : WX}
def popTD : D → List D → Sto → Rs D
  | .loc l, [.tup ks], st => match st[l]? with
    | some (.dt false kvs) => match keysOf ks with
      | some key => match look kvs key with
        | some d => .ok d (st.set l (.dt false (dropD kvs key)))
        | none => .bad
      | none => .bad
    | _ => .bad
  | _, _, _ => .bad
theorem popTD_ok : OpM g rPopT1 popTD := by
  intro W A st σ H x v ds vs Q s r1 r2 q
  unfold popTD at q
  split at q
  · rename_i l ks
    obtain ⟨w, rfl, r3⟩ := reps1 r2
    obtain ⟨a, rfl, ea⟩ := rep_loc_inv r1
    split at q
    · rename_i _ kvs e
      split at q
      · rename_i _ key ek
        split at q
        · rename_i _ d el
          obtain ⟨kv', h1, p, ko⟩ := s.obj l a _ ea e
          have h1' : H a = some (.dT kv') := by simpa using h1
          obtain ⟨b, vs, rfl, hb, rr⟩ := rep_tup_inv r3
          rw [keysOf_rep ek rr] at hb
          have lk := look_rep key p
          rw [el] at lk
          obtain ⟨u, hu, ru⟩ := lk
          have x1 : Ext A H A (upd H a (.dT (dropK kv' key))) := ext_set ea (fun _ _ z => by rw [h1'] at z; cases z)
          refine ⟨a, kv', key, b, u, rfl, rfl, h1', hb, hu, q A _ _ x1 (s.set ea ⟨dropK kv' key, by simpa using upd_same, prd_mono (prd_drop p) fun _ _ q => ⟨q.1, q.2.ext x1⟩, fun q hq => ?_⟩) (ru.ext x1)⟩
          unfold dropD at hq
          exact ko q (List.mem_filter.mp hq).1
        · exact q.elim
      · exact q.elim
    · exact q.elim
  · exact q.elim
end
end DL

/-! DL34: x is True, x a truth, a text or None. -/
namespace L2
open PySem PySem.Spec PyProof.Rows
def rIsT : R2 := fun x y H Q => rIsB x y H Q ∨ ((∃ (z : Str) (b : Bool), x = .str z ∧ y = .bl b) ∧ Q (.bl false) H)
section
variable {X : Cx}
theorem op_isT : OpR X (compareOp .Is) rIsT := by
  intro pins s σ H x y v u Q I rx ry h
  rcases h with h | ⟨⟨z, b, rfl, rfl⟩, q⟩
  · exact op_isBl pins s σ H x y v u Q I rx ry h
  · obtain ⟨t, rfl⟩ := (show ∃ t, v = Value.str z t from rx)
    cases (show u = Value.bool b from ry)
    exact wpAny_is_other rfl (fun z => nomatch z) ⟨.bl false, H, I, rfl, q⟩
end
end L2
namespace DL
open PySem PySem.Spec PyProof.Rows L2
section
variable {X : Cx} {g : Gh} {W : WX}
def isT : D → D → Sto → Rs D
  | .bl a, .bl b, st => .ok (.bl (decide (a = b))) st
  | .str _, .bl _, st => .ok (.bl false) st
  | _, _, _ => .bad
theorem isT_ok : OpD g rIsT isT := by
  intro W A st σ H x y v u Q s r1 r2 q
  unfold isT at q
  split at q
  · exact .inl ⟨_, _, rep_bl_inv r1, rep_bl_inv r2, q A _ H (.refl _ _) s (rep_bl _)⟩
  · exact .inr ⟨⟨_, _, (rep_str_inv r1).1, rep_bl_inv r2⟩, q A _ H (.refl _ _) s (rep_bl _)⟩
  · exact q.elim
end
end DL

/-! DL35: set(xs) of numbers or texts, sorted of it, its length. -/
namespace L2
open PySem PySem.Spec PyProof.Rows
section
variable {P : Program} {w : World} {K : Type} [DecidableEq K]
open Classical in
/-- the key that a thing has -/
noncomputable def keyC (knd : PySem.KeyKind P w K) (v : Value) : Option K := if h : ∃ k, knd.is k v = true then some (Classical.choose h) else none
variable {knd : PySem.KeyKind P w K}
theorem keyC_of {k : K} {v : Value} (h : knd.is k v = true) : keyC knd v = some k := by
  unfold keyC
  have hx : ∃ k, knd.is k v = true := ⟨k, h⟩
  rw [dif_pos hx]
  exact congrArg some (knd.inj v _ _ (Classical.choose_spec hx) h)
theorem keyC_is {k : K} {v : Value} (h : keyC knd v = some k) : knd.is k v = true := by
  unfold keyC at h
  split at h
  · rename_i hx
    have e := Option.some.inj h
    rw [← e]
    exact Classical.choose_spec hx
  · cases h
/-- the set at a has the members ks -/
def SetG (knd : PySem.KeyKind P w K) (h : Heap) (a : Addr) (ks : List K) : Prop :=
  ∃ o es ep t, h.get? a = some o ∧ o.ExactSet ∧ o.data = .set es ep t ∧ ElemsOf knd es.toList ∧ (es.toList.map fun e => keyC knd e.2).Perm (ks.map some) ∧ ks.Nodup ∧ es.size < scanBound ∧
    t.fits es.size = true ∧ Ris t.place.toList ∧ (w.params.followText "set-order" = true ∨ t.led = true)
def add1 (ks : List K) (k : K) : List K := if k ∈ ks then ks else k :: ks
variable {h h' : Heap} {a : Addr} {ks : List K}
theorem SetG.at (R : SetG knd h a ks) (k : ∀ o, h.get? a = some o → h'.get? a = some o) : SetG knd h' a ks := by
  obtain ⟨o, es, ep, t, ho, r⟩ := R
  exact ⟨o, es, ep, t, k o ho, r⟩
theorem keys_mem {es : List (Int × Value)} (hp : (es.map fun e => keyC knd e.2).Perm (ks.map some)) (k : K) : k ∈ ks ↔ ∃ e ∈ es, knd.is k e.2 = true := by
  have q : k ∈ ks ↔ some k ∈ es.map fun e => keyC knd e.2 := by
    rw [hp.mem_iff, List.mem_map]
    exact ⟨fun h => ⟨k, h, rfl⟩, fun ⟨j, hj, e⟩ => by cases e; exact hj⟩
  rw [q, List.mem_map]
  exact ⟨fun ⟨e, he, z⟩ => ⟨e, he, keyC_is z⟩, fun ⟨e, he, z⟩ => ⟨e, he, keyC_of z⟩⟩
end
section
variable {P : Program} {w : World} {K : Type} [DecidableEq K] {knd : PySem.KeyKind P w K} {A : Around} {E : Value → Shared → Prop} {s : Shared} {a : Addr} {ks : List K}
theorem setG_tail {g : Bool → Sem Unit} (hg : ∀ (b : Bool) (s₁ : Shared) (Q' : Unit → Shared → Prop), Q' () s₁ → wpAny (model P w) A (g b) Q' E s₁)
    {o : Obj} {es : Array (Int × Value)} {ep : Nat} {t : SetTable} (ho : s.heap.get? a = some o) (hex : o.ExactSet) (hd : o.data = .set es ep t)
    {es1 : Array (Int × Value)} {t2 : SetTable} (g1 : ElemsOf knd es1.toList) (m1 : (es1.toList.map fun e => keyC knd e.2).Perm (ks.map some)) (nd1 : ks.Nodup)
    (hb1 : es1.size < scanBound) (hf2 : t2.fits es1.size = true) (hr : Ris t2.place.toList) (hl : w.params.followText "set-order" = true ∨ t2.led = true) {wasDummy : Bool} {R : Option Bool → Shared → Prop}
    (hR : ∀ h', Heap.SameBut a s.heap h' → SetG knd h' a ks → R (some true) { s with heap := h' }) :
    wpAny (model P w) A (do
        storeSet a es1 t2
        if (!wasDummy && t2.tooFull) = true then do
            g (relayAll t2 es1 (SetTable.grown es1.size)).2.2
            storeSet a (relayAll t2 es1 (SetTable.grown es1.size)).1 (relayAll t2 es1 (SetTable.grown es1.size)).2.1
            pure (some true)
          else pure (some true)) R E s := by
  refine wpAny_bind (wpAny_storeSet_of ho hd ?_ (fits_of_scanBound hb1))
  have ho1 := store_at (es' := es1) (t' := t2) ho hd
  have sb1 := Heap.SameBut.update s.heap a (Obj.putSet es1 t2)
  split
  · have pm := relayAll_perm t2 es1 (SetTable.grown es1.size)
    have hf3 := relayAll_fits t2 es1 (SetTable.grown es1.size)
    have hr3 := relayAll_ris t2 es1 (SetTable.grown es1.size)
    have hl3 := relayAll_led t2 es1 (SetTable.grown es1.size)
    generalize relayAll t2 es1 (SetTable.grown es1.size) = Z at pm hf3 hr3 hl3 ⊢
    obtain ⟨es2, t3, gave⟩ := Z
    dsimp only at pm hf3 hr3 hl3 ⊢
    have hsz : es2.size = es1.size := by rw [← Array.length_toList, pm.length_eq, Array.length_toList]
    have hb2 : es2.size < scanBound := by rw [hsz]; exact hb1
    refine wpAny_bind (hg _ _ _ ?_)
    refine wpAny_bind (wpAny_storeSet_of ho1 rfl ?_ (fits_of_scanBound hb2))
    have ho2 := store_at (es' := es2) (t' := t3) ho1 rfl
    refine wpAny_pure (hR _ (sb1.trans (Heap.SameBut.update _ a _)) ?_)
    exact ⟨_, es2, _, t3, ho2, hex, rfl, g1.perm pm, (pm.map _).trans m1, nd1, hb2, hf3, hr3, hl.imp id fun z => by rw [hl3]; exact z⟩
  · exact wpAny_pure (hR _ sb1 ⟨_, es1, _, t2, ho1, hex, rfl, g1, m1, nd1, hb1, hf2, hr, hl⟩)
theorem SetG.len {h : Heap} (R : SetG knd h a ks) : ks.length < scanBound := by
  obtain ⟨o, es, ep, t, ho, hex, hd, g, hm, nd, hb, _⟩ := R
  have := hm.length_eq
  rw [List.length_map, List.length_map, Array.length_toList] at this
  omega
theorem setG_add {k : K} {v : Value} (hk : knd.is k v = true) (hsc : v.scannable = true) {Q : Bool → Shared → Prop} (R : SetG knd s.heap a ks) (room : ks.length + 1 < scanBound)
    (hQ : ∀ b h', Heap.SameBut a s.heap h' → SetG knd h' a (add1 ks k) → Q b { s with heap := h' }) :
    wpAny (model P w) A (setAddHashed a v (knd.hash k)) Q E s := by
  obtain ⟨o, es, ep, t, ho, hex, hd, hel, hm, nd, hb, hf, hr, hl⟩ := R
  unfold setAddHashed setAddHashedIn
  refine wpAny_holding (wpAny_bind (wpAny_setState_of ho hd hf ?_))
  dsimp only
  rw [byScan_of hsc hb hel]
  simp only [↓reduceIte]
  unfold setAddByScan
  refine wpAny_bind ?_
  refine wpAny_bind (wpAny_rule ?_)
  refine wpAny_bind (wpAny_setScan_of hk ho hd hf hel ?_)
  cases hfi : List.findIdx? (fun e => knd.is k e.2) es.toList with
  | some j =>
    dsimp only
    obtain ⟨hj, pj, _⟩ := List.findIdx?_eq_some_iff_getElem.mp hfi
    have hS : k ∈ ks := (keys_mem hm k).2 ⟨es.toList[j], List.getElem_mem hj, pj⟩
    refine wpAny_pure (wpAny_pure ?_)
    refine hQ _ s.heap (Heap.SameBut.refl a s.heap) ?_
    unfold add1
    rw [if_pos hS]
    exact ⟨o, es, ep, t, ho, hex, hd, hel, hm, nd, hb, hf, hr, hl⟩
  | none =>
    dsimp only
    have hS : k ∉ ks := fun z => by
      obtain ⟨e, he, q⟩ := (keys_mem hm k).1 z
      have c := List.findIdx?_eq_none_iff.mp hfi e he
      rw [q] at c
      cases c
    have hgw : ∀ (b : Bool) {s₁ : Shared} {Q' : Unit → Shared → Prop}, Q' () s₁ → wpAny (model P w) A (match b with | true => rule "set.scan.the-table-gave-way" | false => pure ()) Q' E s₁ :=
      fun b s₁ Q' q => by cases b <;> first | exact wpAny_pure q | exact wpAny_rule q
    have pm := layNew_perm t es (knd.hash k) v
    have hf1 := layNew_fits t es (knd.hash k) v
    have hr1 := layNew_ris t es (knd.hash k) v hr
    have hl1 := layNew_led t es (knd.hash k) v
    generalize layNew t es (knd.hash k) v = Z at pm hf1 hr1 hl1 ⊢
    obtain ⟨es1, t1, wasDummy, gave⟩ := Z
    dsimp only at pm hf1 hr1 hl1 ⊢
    rw [Array.toList_push] at pm
    have pc : es1.toList.Perm ((knd.hash k, v) :: es.toList) := pm.trans (List.perm_append_singleton _ _)
    have g1 : ElemsOf knd es1.toList := (hel.push hk hsc).perm pm
    have m1 : (es1.toList.map fun e => keyC knd e.2).Perm ((add1 ks k).map some) := by
      unfold add1
      rw [if_neg hS]
      refine (pc.map _).trans ?_
      show ((keyC knd v) :: es.toList.map fun e => keyC knd e.2).Perm (some k :: ks.map some)
      rw [keyC_of hk]
      exact hm.cons _
    have nd1 : (add1 ks k).Nodup := by unfold add1; rw [if_neg hS]; exact List.nodup_cons.mpr ⟨hS, nd⟩
    have hsz : es1.size = ks.length + 1 := by
      have := m1.length_eq
      unfold add1 at this
      rw [if_neg hS, List.length_map, List.length_map, Array.length_toList, List.length_cons] at this
      exact this
    have hb1 : es1.size < scanBound := by rw [hsz]; exact room
    have hled : w.params.followText "set-order" = true ∨ t1.led = true := hl.imp id fun z => by rw [hl1]; exact z
    refine wpAny_bind (hgw _ ?_)
    split
    · refine wpAny_bind ?_
      rw [hashByValue_scannable 8 hsc]
      refine wpAny_pure ?_
      refine setG_tail (knd := knd) (ks := add1 ks k) ?_ ho hex hd g1 m1 nd1 hb1 ?_ ?_ ?_ ?_
      · intro b s₁ Q' q; cases b <;> first | exact wpAny_pure q | exact wpAny_rule q
      · first | (split <;> first | exact hf1 | exact SetTable.fits_plain_off hf1) | exact hf1
      · first | (split <;> exact hr1) | exact hr1
      · first | (split <;> exact hled) | exact hled
      · intro h' sb r; dsimp only; exact wpAny_pure (hQ _ h' sb r)
    · refine wpAny_bind (wpAny_pure ?_)
      simp only [↓reduceIte]
      refine setG_tail (knd := knd) (ks := add1 ks k) ?_ ho hex hd g1 m1 nd1 hb1 hf1 hr1 hled ?_
      · intro b s₁ Q' q; cases b <;> first | exact wpAny_pure q | exact wpAny_rule q
      · intro h' sb r; dsimp only; exact wpAny_pure (hQ _ h' sb r)
end
/-- the members of a row, each once -/
def once {K : Type} [DecidableEq K] (zs : List K) : List K := zs.foldl add1 []
section
variable {K : Type} [DecidableEq K]
theorem add1_len (ks : List K) (k : K) : (add1 ks k).length ≤ ks.length + 1 := by
  unfold add1
  split
  · omega
  · simp
theorem fold1_len : ∀ (zs acc : List K), (zs.foldl add1 acc).length ≤ acc.length + zs.length
  | [], acc => by simp
  | z :: zs, acc => by
    have := fold1_len zs (add1 acc z)
    have := add1_len acc z
    simp only [List.foldl_cons, List.length_cons]
    omega
theorem once_len (zs : List K) : (once zs).length ≤ zs.length := by
  have := fold1_len zs ([] : List K)
  simpa [once] using this
theorem fold1_nodup : ∀ (zs acc : List K), acc.Nodup → (zs.foldl add1 acc).Nodup
  | [], acc, h => h
  | z :: zs, acc, h => by
    refine fold1_nodup zs _ ?_
    unfold add1
    split
    · exact h
    · rename_i hz; exact List.nodup_cons.mpr ⟨hz, h⟩
theorem once_nodup (zs : List K) : (once zs).Nodup := fold1_nodup zs [] .nil
theorem fold1_mem : ∀ (zs acc : List K) (k : K), k ∈ zs.foldl add1 acc ↔ k ∈ acc ∨ k ∈ zs
  | [], acc, k => by simp
  | z :: zs, acc, k => by
    rw [List.foldl_cons, fold1_mem zs]
    unfold add1
    split
    · rename_i hz
      rw [List.mem_cons]
      constructor
      · rintro (h | h)
        · exact .inl h
        · exact .inr (.inr h)
      · rintro (h | h | h)
        · exact .inl h
        · rw [h]; exact .inl hz
        · exact .inr h
    · rw [List.mem_cons, List.mem_cons]
      constructor
      · rintro ((h | h) | h)
        · exact .inr (.inl h)
        · exact .inl h
        · exact .inr (.inr h)
      · rintro (h | h | h)
        · exact .inl (.inr h)
        · exact .inl (.inl h)
        · exact .inr h
theorem once_mem (zs : List K) (k : K) : k ∈ once zs ↔ k ∈ zs := by
  unfold once
  rw [fold1_mem]
  simp
theorem fold1_of_nodup : ∀ (zs acc : List K), zs.Nodup → (∀ k ∈ zs, k ∉ acc) → zs.foldl add1 acc = zs.reverse ++ acc
  | [], acc, _, _ => rfl
  | z :: zs, acc, h, d => by
    obtain ⟨h1, h2⟩ := List.nodup_cons.mp h
    have hz : z ∉ acc := d z List.mem_cons_self
    rw [List.foldl_cons]
    unfold add1
    rw [if_neg hz]
    have := fold1_of_nodup zs (z :: acc) h2 fun k hk hm => by
      rcases List.mem_cons.mp hm with e | hm
      · exact h1 (e ▸ hk)
      · exact d k (List.mem_cons_of_mem _ hk) hm
    rw [show (fun ks k => if k ∈ ks then ks else k :: ks) = (add1 : List K → K → List K) from by funext ks k; rfl, this]
    simp
theorem once_of_nodup {zs : List K} (h : zs.Nodup) : once zs = zs.reverse := by
  unfold once
  rw [fold1_of_nodup zs [] h fun k _ z => by cases z]
  simp
theorem once_perm {zs : List K} (h : zs.Nodup) : (once zs).Perm zs := by rw [once_of_nodup h]; exact List.reverse_perm zs
end
section
variable {P : Program} {w : World} {K : Type} [DecidableEq K] {knd : PySem.KeyKind P w K} {A : Around} {R : Result → Shared → Prop} {I : Addr} {fp wr : List Addr} {G : Array GenState → Array GenState → Prop} {n : Nat} {Pv : Nat → Value → Prop} {St : Nat → Shared → Prop}
theorem once_succ {zs : List K} {i : Nat} {k : K} (h : zs[i]? = some k) : once (zs.take (i + 1)) = add1 (once (zs.take i)) k := by
  unfold once
  rw [List.take_succ, h]
  simp [List.foldl_append]
theorem setG_loop (W : WalksS P w A.in1 I fp wr G n Pv St) (S : Addr) (hSf : S ∉ fp) (zs : List K) (hn : zs.length = n)
    (hval : ∀ i v, Pv i v → ∃ k, zs[i]? = some k ∧ knd.is k v = true ∧ v.scannable = true) (hv : ∀ i v, Pv i v → ∃ k, zs[i]? = some k) (hb : n + 1 < scanBound) :
    ∀ (k i : Nat) (s : Shared), n - i = k → i ≤ n → St i s → SetG knd s.heap S (once (zs.take i)) →
      (∀ s', Moved (S :: wr) G s s' → SetG knd s'.heap S (once zs) → R (.ok (.ret .none)) s') →
      codeAny (model P w) A (.builtin "set.update.loop" ⟨[.ref S, .ref I], []⟩) R s := by
  have hSw : S ∉ wr := fun h => hSf (W.sub _ h)
  have hsub : ∀ b ∈ wr, b ∈ S :: wr := fun b hb => List.mem_cons_of_mem _ hb
  intro k
  induction k with
  | zero =>
    intro i s hk hi hst hS hR
    have hin : i = n := by omega
    subst hin
    refine codeAny_builtin F.entry_set_update_loop ?_
    rw [Around.under_plainId F.plain_set_update_loop _]
    show wpAny _ A.in1 (pyNext (.ref I) >>= _) _ _ s
    refine wpAny_bind (W.done s _ _ hst fun s' hm => ?_)
    show wpAny _ A.in1 (ret Value.none) _ _ s'
    rw [List.take_of_length_le (by omega)] at hS
    exact wpAny_pure (hR s' (hm.mono hsub) (hS.at fun o ho => hm.heap S _ hSw ho))
  | succ k ih =>
    intro i s hk hi hst hS hR
    have hlt : i < n := by omega
    refine codeAny_builtin F.entry_set_update_loop ?_
    rw [Around.under_plainId F.plain_set_update_loop _]
    show wpAny _ A.in1 (pyNext (.ref I) >>= _) _ _ s
    refine wpAny_bind (W.item i s _ _ hlt hst fun v s' hP hst' hm => ?_)
    obtain ⟨x, hx, hkx, hsc⟩ := hval i v hP
    have hS' : SetG knd s'.heap S (once (zs.take i)) := hS.at fun o ho => hm.heap S _ hSw ho
    show wpAny _ A.in1 (holding [v] (setAdd S v) >>= _) _ _ s'
    refine wpAny_bind (wpAny_holding ?_)
    unfold setAdd
    refine wpAny_holding ?_
    refine wpAny_bind (knd.pyHash (k := x) hkx ?_)
    have hroom : (once (zs.take i)).length + 1 < scanBound := by
      have := once_len (zs.take i)
      rw [List.length_take] at this
      omega
    refine setG_add (s := { s' with toks := s'.toks + 1 }) hkx hsc hS' hroom fun b h' hsb hS2 => ?_
    rw [← once_succ hx] at hS2
    refine wpAny_pure ⟨plainId_quiet F.plain_set_update_loop _, ih (i + 1) _ (by omega) hlt (W.frame _ s' _ _ hst' (Nat.le_succ _) fun b hb o e => ?_) hS2 fun s'' hm'' hS'' => ?_⟩
    · rw [hsb.2 b (fun h : b = S => hSf (by rw [← h]; exact hb))]; exact e
    · refine hR s'' (Moved.trans W.gtrans ((hm.mono hsub).then_heap (Nat.le_succ _) fun b o hb e => ?_) hm'') hS''
      rw [hsb.2 b (fun h : b = S => hb (by rw [h]; exact List.mem_cons_self))]; exact e
end
section
variable {P : Program} {w : World} {A : Around} {E : Value → Shared → Prop} {s : Shared}
theorem code_set_new_led (a : Value) {Q₁ : Value → Shared → Prop}
    (h : Q₁ (.ref s.heap.objs.size) { s with heap := s.heap.push { cls := .type "set", dict := none, data := .set #[] 0 (.fresh 0 0 (!w.params.followText "set-order")) } }) :
    codeAny (model P w) A (.call (.builtin "set.__new__") ⟨[.type "set", a], []⟩) (wants Q₁ E) s := by
  refine codeAny_of_tree ?_
  show wpAny _ A.in1 (do checkBuiltinCall "set.__new__" ⟨[.type "set", a], []⟩; again (.builtin "set.__new__" ⟨[.type "set", a], []⟩)) _ _ s
  refine wpAny_bind (wpAny_of_eq (F.newCall_set_1 a) (wpAny_pure ⟨plainId_quiet F.plain_set_new _, codeAny_builtin F.entry_set_new ?_⟩))
  rw [Around.under_plainId F.plain_set_new _]
  unfold Builtin.«set.__new__» Builtin.Frozenset.newClass
  have hsub := sub_set_self
  obtain ⟨hp, g, d, tk, os⟩ := s
  dsimp only
  wp_walk
  refine wpAny_askSetting (wpAny_pure ?_)
  dsimp only
  simp only [newObj]
  refine wpAny_bind (wpAny_alloc (wpAny_pure ?_))
  exact wpAny_pure h
variable {K : Type} [DecidableEq K] {knd : PySem.KeyKind P w K}
theorem setG_fresh {h : Heap} (knd : PySem.KeyKind P w K) : SetG knd (h.push { cls := .type "set", dict := none, data := .set #[] 0 (.fresh 0 0 (!w.params.followText "set-order")) }) h.objs.size [] :=
  ⟨_, #[], 0, _, Heap.get?_push_size _ rfl, ⟨rfl, rfl, rfl⟩, rfl, (fun e he => by simp at he), (by simp), .nil, (by decide), (by rfl), List.Pairwise.nil, by
    show _ ∨ (!w.params.followText "set-order") = true
    cases w.params.followText "set-order"
    · exact .inr rfl
    · exact .inl rfl⟩
set_option maxHeartbeats 3200000 in
theorem call_setG {l : Addr} {items : Array Value} {zs : List K} {Q : Value → Shared → Prop}
    (hh : A.handled = none) (hl : s.heap.IsList l items) (hn : zs.length = items.size) (hi : ∀ (i : Nat) (v : Value), items[i]? = some v → ∃ k, zs[i]? = some k ∧ knd.is k v = true ∧ v.scannable = true) (hb : items.size + 1 < scanBound)
    (h : ∀ (h' : Heap) (tk : Nat), SetG knd h' s.heap.objs.size (once zs) →
      (∀ b o, b < s.heap.objs.size → s.heap.get? b = some o → h'.get? b = some o) → Q (.ref s.heap.objs.size) { s with heap := h', toks := tk }) :
    wpAny (model P w) A (call (.type "set") [.ref l]) Q E s := by
  obtain ⟨c, tl, hmro⟩ := F.called_set.mro
  have hmade := F.called_set.made
  have hsub := F.called_set.sub
  refine wpAny_call (codeAny_of_tree ?_)
  show wpAny _ _ (callAny (.type "set") _) _ _ _
  refine wpAny_pure ⟨Code.quiet_builtin _ (by decide +kernel), codeAny_builtin F.entry_type_call ?_⟩
  rw [Around.under_plain (weight_type_call_type "set" [.ref l] []) rfl]
  have h1 := F.called_set.notType
  have h2 := F.called_set.canCreate
  have hct := F.typeCall_set_1 (.ref l)
  repeat (any_goals (first | assumption | wp_step))
  refine codeAny_mono (code_set_new_led (.ref l) (E := E) (Q₁ := fun obj s₁ => obj = .ref s.heap.objs.size ∧ s₁ = { s with heap := s.heap.push { cls := .type "set", dict := none, data := .set #[] 0 (.fresh 0 0 (!w.params.followText "set-order")) } }) ⟨rfl, rfl⟩) fun r s₁ hr => ?_
  cases r with
  | error e => exact hr
  | ok fl =>
    cases fl with
    | ret obj =>
      obtain ⟨rfl, rfl⟩ := hr
      have hF := setG_fresh (h := s.heap) knd
      generalize (!w.params.followText "set-order") = led at hF ⊢
      have hS : (s.heap.push { cls := .type "set", dict := none, data := .set #[] 0 (.fresh 0 0 led) }).get? s.heap.objs.size = some { cls := .type "set", dict := none, data := .set #[] 0 (.fresh 0 0 led) } := Heap.get?_push_size _ rfl
      have hT : Shared.TypeIs { s with heap := s.heap.push { cls := .type "set", dict := none, data := .set #[] 0 (.fresh 0 0 led) } } (.ref s.heap.objs.size) "set" := ⟨_, hS, rfl⟩
      have hli := F.called_set.init.lookup
      have hbi := F.called_set.init.bind (.ref s.heap.objs.size)
      repeat (any_goals (first | assumption | wp_step))
      refine codeAny_mono (codeAny_call_builtin (R := wants (fun r s₂ => r = .none ∧ ∃ h' tk, s₂ = { s with heap := h', toks := tk } ∧
          SetG knd h' s.heap.objs.size (once zs) ∧
          (∀ b o, b < s.heap.objs.size → s.heap.get? b = some o → h'.get? b = some o)) E) F.called_set.init.plain F.entry_set_init (check_set_init_1 hT ?_)) fun r₂ s₂ hr₂ => ?_
      · obtain ⟨ol, hol, hcl, nl, hdl⟩ := hl
        obtain ⟨ocls, odict, odata, oslots⟩ := ol
        simp only at hcl hdl
        subst hcl; subst hdl
        have hol' : (s.heap.push { cls := .type "set", dict := none, data := .set #[] 0 (.fresh 0 0 led) }).get? l = some { cls := .type "list", dict := odict, data := .seq items nl, slots := oslots } := Heap.get?_push_of_some _ hol
        have hsls := F.sub_list_set
        have hslf := F.sub_list_frozenset
        have hne : (Value.type "list" == Value.type "dict") = false := by decide
        have hl1 : (s.heap.push { cls := .type "set", dict := none, data := .set #[] 0 (.fresh 0 0 led) }).IsList l items := ⟨_, hol', rfl, nl, rfl⟩
        unfold Builtin.«set.__init__» noKeywords Builtin.Frozenset.updateFrom
        generalize hPI : pyIter = PI
        wp_walk
        subst hPI
        refine wpAny_pyIter_list hl1 ?_
        refine wpAny_bind (wpAny_runValue ?_)
        have hlS : l < s.heap.objs.size := Heap.lt_size hol
        have hh3 : A.in1.in1.in1.handled = none := by simp [hh]
        have hneI : l ≠ (s.heap.push { cls := .type "set", dict := none, data := .set #[] 0 (.fresh 0 0 led) }).objs.size := by
          rw [Heap.size_push]; exact Nat.ne_of_lt (Nat.lt_succ_of_lt hlS)
        have hSf : s.heap.objs.size ∉ [(s.heap.push { cls := .type "set", dict := none, data := .set #[] 0 (.fresh 0 0 led) }).objs.size, l] := by
          rw [Heap.size_push]; simp only [List.mem_cons, List.mem_singleton, List.not_mem_nil, or_false, not_or]
          exact ⟨Nat.ne_of_lt (Nat.lt_succ_self _), Nat.ne_of_gt hlS⟩
        refine setG_loop (knd := knd) ((Walks.list hh3 _ l hneI items).toS) s.heap.objs.size
          hSf zs hn hi (fun i v hv => let ⟨k, hk, _⟩ := hi i v hv; ⟨k, hk⟩) hb (items.size - 0) 0 _ (by omega) (Nat.zero_le _)
          ⟨⟨_, Heap.get?_push_size _ rfl, rfl, rfl⟩, (hl1.push _)⟩ ?hS0 ?hR
        case hS0 =>
          show SetG knd _ _ []
          exact hF.at fun o ho => Heap.get?_push_of_some _ ho
        case hR =>
          intro s' hm hS'
          obtain ⟨h', g', d', tk', os'⟩ := s'
          have eg : g' = s.gens := hm.gens
          have ed : d' = s.drawn := hm.drawn
          have eo : os' = s.os := hm.os
          subst eg; subst ed; subst eo
          show wpAny _ _ _ _ _ _
          refine wpAny_pure ?_
          show wpAny _ _ (ret Value.none) _ _ _
          refine wpAny_pure ⟨rfl, h', tk', rfl, hS', fun b o hb e => ?_⟩
          have hb1 : b ≠ s.heap.objs.size := Nat.ne_of_lt hb
          have hb2 : b ≠ (s.heap.push { cls := .type "set", dict := none, data := .set #[] 0 (.fresh 0 0 led) }).objs.size := by
            rw [Heap.size_push]; exact Nat.ne_of_lt (Nat.lt_succ_of_lt hb)
          exact hm.heap b o (by simp only [List.mem_cons, List.mem_singleton, List.not_mem_nil, or_false, not_or]; exact ⟨hb1, hb2⟩) (Heap.get?_push_of_some _ (Heap.get?_push_of_some _ e))
      · cases r₂ with
        | error e => exact hr₂
        | ok fl₂ =>
          cases fl₂ with
          | ret r =>
            obtain ⟨rfl, h', tk, rfl, hS', hk'⟩ := hr₂
            repeat (any_goals (first | assumption | wp_step))
            exact h _ _ hS' hk'
          | _ => exact hr₂.elim
    | _ => exact hr.elim
end
end L2

/-! DL36: sorted(set(e)), len(set(e)). -/
namespace L2
open PySem PySem.Spec PyProof.Rows
theorem perm_some {α : Type} : ∀ {l : List (Option α)} {ks : List α}, l.Perm (ks.map some) → ∃ ks' : List α, l = ks'.map some ∧ ks'.Perm ks := by
  intro l ks p
  have h : ∀ x ∈ l, ∃ k, x = some k := fun x hx => by
    obtain ⟨k, _, e⟩ := List.mem_map.mp (p.mem_iff.mp hx)
    exact ⟨k, e.symm⟩
  have e : ∀ l : List (Option α), (∀ x ∈ l, ∃ k, x = some k) → l = (l.filterMap id).map some := by
    intro l
    induction l with
    | nil => intro _; rfl
    | cons x l ih =>
      intro h
      obtain ⟨k, rfl⟩ := h x List.mem_cons_self
      show some k :: l = some k :: (l.filterMap id).map some
      rw [← ih fun y hy => h y (List.mem_cons_of_mem _ hy)]
  refine ⟨l.filterMap id, e l h, ?_⟩
  have q := p.filterMap id
  have z : (ks.map some).filterMap id = ks := by
    clear p q
    induction ks with
    | nil => rfl
    | cons k ks ih => show k :: (ks.map some).filterMap id = k :: ks; rw [ih]
  rw [z] at q
  exact q
section
variable {P : Program} {w : World} {A : Around} {E : Value → Shared → Prop} {s : Shared} {a : Addr}
theorem strs_keys : ∀ {vs : List Value} {ks : List Str}, vs.map (keyC (strKind P w)) = ks.map some → StrsAre vs ks
  | [], [], _ => .nil
  | v :: vs, k :: ks, h => by
    rw [List.map_cons, List.map_cons] at h
    injection h with h1 h2
    obtain ⟨t, rfl⟩ := Value.isStrOf_shape (keyC_is h1)
    exact .cons _ _ (strs_keys h2)
  | [], _ :: _, h => by cases h
  | _ :: _, [], h => by cases h
theorem ints_keys : ∀ {vs : List Value} {ks : List Int}, vs.map (keyC (PySem.intKind P w)) = ks.map some → IntsAre vs ks
  | [], [], _ => .nil
  | v :: vs, k :: ks, h => by
    rw [List.map_cons, List.map_cons] at h
    injection h with h1 h2
    obtain ⟨t, rfl⟩ := Value.isInt_shape (keyC_is h1)
    exact .cons _ _ (ints_keys h2)
  | [], _ :: _, h => by cases h
  | _ :: _, [], h => by cases h
theorem sorted_setS {ks : List Str} {Q : Value → Shared → Prop} (R : SetG (strKind P w) s.heap a ks) (hh : A.handled = none) (h64 : ks.length < 64)
    (hQ : ∀ s' p (out : Array Value) (c : Nat) (ys : List Str), (∀ b o, s.heap.get? b = some o → s'.heap.get? b = some o) → s'.gens = s.gens → s'.os = s.os → s.heap.objs.size ≤ p →
      s'.heap.get? p = some (seqObj "list" out c) → StrsAre out.toList ys → sortedS ys = true → ys.Perm ks → Q (.ref p) s') :
    wpAny (model P w) A (call (.builtin "sorted") [.ref a]) Q E s := by
  obtain ⟨o, es, ep, t, ho, hex, hd, g, hm, nd, hb, hf, hr, hl⟩ := R
  refine Calls.call_function_entry kind_sorted plain_sorted entry_sorted (args_sorted1 _) ?_
  unfold Builtin.«sorted»
  refine wpAny_bind (m := checkCount "sorted" 1 1 _) (wpAny_pure ?_)
  refine wpAny_bind (collect_set (A := A.in1) hh ⟨o, ho, hex.1, hd⟩ hf hb hr hl fun s1 vs k1 hz g1 o1 pm => ?_)
  have pk : (vs.map (keyC (strKind P w))).Perm (ks.map some) := by
    have q := pm.map (keyC (strKind P w))
    rw [List.map_map] at q
    exact q.trans hm
  obtain ⟨ks', ek, pp⟩ := perm_some pk
  have hS : StrsAre vs ks' := strs_keys ek
  have hvl : vs.length = ks.length := by rw [← pp.length_eq, ← List.length_map (f := some) (as := ks'), ← ek, List.length_map]
  refine wpAny_bind (wpAny_newList ?_ (by rw [hvl, sizeLine_eq]; omega))
  have hoL : (s1.heap.push (seqObj "list" vs.toArray 0)).get? s1.heap.objs.size = some (seqObj "list" vs.toArray 0) := Heap.get?_push_size _ rfl
  refine wpAny_bind (wpAny_holding (wpAny_call_entry slot_list_sort ⟨_, hoL, rfl⟩ entry_list_sort
    (list_sort_treeK strKind_oneLt (s := { s1 with heap := s1.heap.push (seqObj "list" vs.toArray 0) }) hoL hS.keysOf (fun v₁ v₂ rest e => keyKind_strs (by rw [← e]; exact hS)) (by rw [hvl]; exact h64) fun st' hp hs => ⟨_, rfl, ?_⟩)
    (args_list_sort _)))
  obtain ⟨ys, y1, y2, y3⟩ := sorted_out_str hS hp hs
  obtain ⟨c, hc⟩ := sortedHeap_at (vs := vs) (out := (arrOf st').map (·.2)) hoL
  refine wpAny_pure ⟨_, rfl, hQ _ s1.heap.objs.size _ c ys (fun b u e => ?_) g1 o1 hz hc y1 y3 (y2.trans pp)⟩
  have q := k1 b u e
  have hlt := Heap.lt_size q
  show (sortedHeap (s1.heap.push (seqObj "list" vs.toArray 0)) s1.heap.objs.size vs _).get? b = some u
  rw [sortedHeap_old (Nat.ne_of_lt hlt) (by rw [size_push']; exact Nat.lt_succ_of_lt hlt)]
  exact Heap.get?_push_of_some _ q
theorem sorted_setI {ks : List Int} {Q : Value → Shared → Prop} (R : SetG (PySem.intKind P w) s.heap a ks) (hh : A.handled = none) (h64 : ks.length < 64)
    (hQ : ∀ s' p (out : Array Value) (c : Nat) (ys : List Int), (∀ b o, s.heap.get? b = some o → s'.heap.get? b = some o) → s'.gens = s.gens → s'.os = s.os → s.heap.objs.size ≤ p →
      s'.heap.get? p = some (seqObj "list" out c) → IntsAre out.toList ys → ys.Pairwise (· ≤ ·) → ys.Perm ks → Q (.ref p) s') :
    wpAny (model P w) A (call (.builtin "sorted") [.ref a]) Q E s := by
  obtain ⟨o, es, ep, t, ho, hex, hd, g, hm, nd, hb, hf, hr, hl⟩ := R
  refine Calls.call_function_entry kind_sorted plain_sorted entry_sorted (args_sorted1 _) ?_
  unfold Builtin.«sorted»
  refine wpAny_bind (m := checkCount "sorted" 1 1 _) (wpAny_pure ?_)
  refine wpAny_bind (collect_set (A := A.in1) hh ⟨o, ho, hex.1, hd⟩ hf hb hr hl fun s1 vs k1 hz g1 o1 pm => ?_)
  have pk : (vs.map (keyC (PySem.intKind P w))).Perm (ks.map some) := by
    have q := pm.map (keyC (PySem.intKind P w))
    rw [List.map_map] at q
    exact q.trans hm
  obtain ⟨ks', ek, pp⟩ := perm_some pk
  have hI : IntsAre vs ks' := ints_keys ek
  have hvl : vs.length = ks.length := by rw [← pp.length_eq, ← List.length_map (f := some) (as := ks'), ← ek, List.length_map]
  refine wpAny_bind (wpAny_newList ?_ (by rw [hvl, sizeLine_eq]; omega))
  have hoL : (s1.heap.push (seqObj "list" vs.toArray 0)).get? s1.heap.objs.size = some (seqObj "list" vs.toArray 0) := Heap.get?_push_size _ rfl
  refine wpAny_bind (wpAny_holding (wpAny_call_entry slot_list_sort ⟨_, hoL, rfl⟩ entry_list_sort (list_sort_tree hoL hI (by rw [hvl]; exact h64) fun out ns' a1 a2 a3 => ⟨_, rfl, ?_⟩) (args_list_sort _)))
  obtain ⟨c, hc⟩ := sortedHeap_at (vs := vs) (out := out) hoL
  refine wpAny_pure ⟨_, rfl, hQ _ s1.heap.objs.size out c ns' (fun b u e => ?_) g1 o1 hz hc a1 a3 (a2.trans pp)⟩
  have q := k1 b u e
  have hlt := Heap.lt_size q
  show (sortedHeap (s1.heap.push (seqObj "list" vs.toArray 0)) s1.heap.objs.size vs out).get? b = some u
  rw [sortedHeap_old (Nat.ne_of_lt hlt) (by rw [size_push']; exact Nat.lt_succ_of_lt hlt)]
  exact Heap.get?_push_of_some _ q
end
/-! the rules -/
theorem vals_at : ∀ {xs : List V} {us : List Value}, Vals xs us → ∀ (i : Nat) (u : Value), us[i]? = some u → ∃ x, xs[i]? = some x ∧ RelV x u
  | _, _, .nil, i, u, h => by simp at h
  | _, _, .cons r t, 0, u, h => by simp at h; exact ⟨_, rfl, h ▸ r⟩
  | _, _, .cons r t, i + 1, u, h => by simpa using vals_at t i u (by simpa using h)
section
variable {X : Cx} {x1 x2 : Str} {p1 p2 pos pos2 : Pos} {e : Expr} {te : TE} {pins : List (Addr × Obj)} {σ : St} {H : Hp} {s : Shared}
theorem ev_set {K : Type} [DecidableEq K] (knd : PySem.KeyKind X.prog X.w K) (mkV : K → V) (hV : ∀ k v, RelV (mkV k) v → knd.is k v = true ∧ v.scannable = true) (hc : X.calm = true) (I : Inv X pins σ H s) {a : Addr} {zs : List K}
    (hs : SqL X.K H a (zs.map mkV)) (h64 : zs.length < 64) {Q : Value → Shared → Prop}
    (hQ : ∀ s', Inv X pins σ H s' → SetG knd s'.heap s.heap.objs.size (once zs) → Q (.ref s.heap.objs.size) s') :
    wpAny (model X.prog X.w) X.A (call (.type "set") [.ref a]) Q X.xe s := by
  obtain ⟨its, rv, ⟨o, n, ho, hcl, hdn, hd⟩, hz⟩ := I.list hs
  have hl : its.length = zs.length := by rw [← rv.length, List.length_map]
  refine call_setG (knd := knd) (zs := zs) (I.ok.hd hc) ⟨o, ho, hcl, n, hd⟩ (by simp [hl]) (fun i v hv => ?_) (by simp [hl, scanBound]; omega) fun h' tk hS hk => ?_
  · obtain ⟨x, hx, r⟩ := vals_at rv i v (by simpa using hv)
    rw [List.getElem?_map] at hx
    cases hq : zs[i]? with
    | none => rw [hq] at hx; cases hx
    | some k =>
      rw [hq] at hx
      cases hx
      obtain ⟨h1, h2⟩ := hV k v r
      exact ⟨k, rfl, h1, h2⟩
  · exact hQ _ (I.kept fun b u q => hk b u (Heap.lt_size q) q) hS
/-- sorted(set(e)) -/
def tSS (K : PySem.W.Frag) (te : TE) : TE := fun σ H Q => te σ H fun v H1 => ∃ a, v = .ref a ∧
  ((∃ zs : List Str, SqL K H1 a (zs.map V.str) ∧ zs.length < 64 ∧ ∀ ys p, ys.Perm (once zs) → sortedS ys = true → H1 p = none → Q (.ref p) (upd H1 p (.lst (ys.map V.str)))) ∨
   (∃ zs : List Int, SqL K H1 a (zs.map V.int) ∧ zs.length < 64 ∧ ∀ (ys : List Int) p, ys.Perm (once zs) → ys.Pairwise (· ≤ ·) → H1 p = none → Q (.ref p) (upd H1 p (.lst (ys.map V.int)))))
/-- len(set(e)) -/
def tLS (K : PySem.W.Frag) (te : TE) : TE := fun σ H Q => te σ H fun v H1 => ∃ a, v = .ref a ∧ ∃ zs : List Int, SqL K H1 a (zs.map V.int) ∧ zs.length < 64 ∧ Q (.int (once zs).length) H1
theorem str_V (P : Program) (w : World) (k : Str) (v : Value) (r : RelV (.str k) v) : (strKind P w).is k v = true ∧ v.scannable = true := by
  obtain ⟨t, rfl⟩ := (show ∃ t, v = Value.str k t from r)
  exact ⟨by show Value.isStrOf k (.str k t) = true; simp [Value.isStrOf], rfl⟩
theorem int_V (P : Program) (w : World) (k : Int) (v : Value) (r : RelV (.int k) v) : (PySem.intKind P w).is k v = true ∧ v.scannable = true := by
  obtain ⟨t, rfl⟩ := (show ∃ t, v = Value.int k t from r)
  exact ⟨intKind_is _ _ _ _, rfl⟩
theorem new_lst {s s' : Shared} {p : Addr} {xs : List V} {out : Array Value} {c : Nat} (I : Inv X pins σ H s) (k : ∀ b o, s.heap.get? b = some o → s'.heap.get? b = some o) (g : s'.gens = s.gens) (o : s'.os = s.os) (hp : s.heap.objs.size ≤ p)
    (hg : s'.heap.get? p = some (seqObj "list" out c)) (hv : Vals xs out.toList) (hlen : xs.length ≤ sizeLine) : Inv X pins σ (upd H p (.lst xs)) s' := by
  have hn : H p = none := I.hok.fresh hp
  have J : Inv X pins σ (upd H p (.lst xs)) { s with heap := s'.heap, gens := s'.gens, drawn := s'.drawn, toks := s'.toks } :=
    I.call (ch := []) (Un.laid k hp hn) (I.hok.laid k hp ⟨hlen, out.toList, c, hv, hg⟩) (by rw [g]; exact I.bare) (fun _ z => nomatch z)
  have e : s' = { s with heap := s'.heap, gens := s'.gens, drawn := s'.drawn, toks := s'.toks } := by
    cases s'
    cases s
    cases o
    rfl
  rw [e]
  exact J
theorem pe_ss (hc : X.calm = true) (hg1 : Gl X x1) (hm1 : X.mg x1 = none) (hv1 : bootBuiltins x1 = some (.builtin "sorted")) (hg2 : Gl X x2) (hm2 : X.mg x2 = none) (hv2 : bootBuiltins x2 = some (.type "set")) (he : PE X e te)
    (hn1 : x1 ≠ "__name__") (hdb1 : (x1 == ("__debug__" : Str)) = false) (hn2 : x2 ≠ "__name__") (hdb2 : (x2 == ("__debug__" : Str)) = false)
    (h1 : starEach [.Call (.Name x2 p2) [e] [] pos2] X.env = (false, eval (.Call (.Name x2 p2) [e] [] pos2) X.env) :: starEach [] X.env) (h2 : starEach [e] X.env = (false, eval e X.env) :: starEach [] X.env) :
    PE X (.Call (.Name x1 p1) [.Call (.Name x2 p2) [e] [] pos2] [] pos) (tSS X.K te) := by
  refine ⟨fun pins s σ H Q I h => ?_⟩
  refine wpAny_Call_Name_kw (ld_blt I hg1 hm1 hv1 ?_ hn1 hdb1)
  refine PyProof.Rows.callWith_builtin1 ?_ h1 rfl
  rw [h1]
  show wpAny _ _ (spliced ((false, eval (.Call (.Name x2 p2) [e] [] pos2) X.env) :: backTo pos (starEach [] X.env))) _ _ s
  refine Calls.spliced_cons ?_
  refine wpAny_Call_Name_kw (ld_blt I hg2 hm2 hv2 ?_ hn2 hdb2)
  refine PyProof.Rows.callWith_type1 ?_ h2 rfl
  rw [h2]
  show wpAny _ _ (spliced ((false, eval e X.env) :: backTo pos2 (starEach [] X.env))) _ _ s
  refine Calls.spliced_cons (thn (he.run pins s σ H _ I h) fun u s1 ⟨v, H1, I1, r1, a, ea, q⟩ => ?_)
  subst ea
  cases r1
  refine Calls.spliced_nil ?_
  rcases q with ⟨zs, hs, hl, q⟩ | ⟨zs, hs, hl, q⟩
  · refine ev_set (strKind X.prog X.w) V.str (str_V _ _) hc I1 hs hl fun s2 I2 hS => ?_
    refine Calls.spliced_nil ?_
    refine sorted_setS hS (I2.ok.hd hc) (Nat.lt_of_le_of_lt (once_len zs) hl) fun s3 p out c ys k3 g3 o3 hp hgp hst hso pm => ?_
    have hlen : (ys.map V.str).length ≤ sizeLine := by rw [List.length_map, pm.length_eq, sizeLine_eq]; have := once_len zs; omega
    exact ⟨.ref p, _, new_lst I2 k3 g3 o3 hp hgp (vals_of_strs hst) hlen, rfl, q ys p pm hso (I2.hok.fresh hp)⟩
  · refine ev_set (PySem.intKind X.prog X.w) V.int (int_V _ _) hc I1 hs hl fun s2 I2 hS => ?_
    refine Calls.spliced_nil ?_
    refine sorted_setI hS (I2.ok.hd hc) (Nat.lt_of_le_of_lt (once_len zs) hl) fun s3 p out c ys k3 g3 o3 hp hgp hst hso pm => ?_
    have hlen : (ys.map V.int).length ≤ sizeLine := by rw [List.length_map, pm.length_eq, sizeLine_eq]; have := once_len zs; omega
    exact ⟨.ref p, _, new_lst I2 k3 g3 o3 hp hgp (vals_of_ints hst) hlen, rfl, q ys p pm hso (I2.hok.fresh hp)⟩
end
end L2
namespace DL
open PySem PySem.Spec PyProof.Rows L2
/-- sorted(set(xs)) -/
def ssD (m : Bool) (d : D) (st : Sto) : Rs D := match itemsOf st d with
  | some xs => if isTup d = true then .bad else match strs? xs with
    | some ss => if ss.length < 64 then mk m ((srtS (once ss)).map D.str) st else .bad
    | none => match ints? xs with
      | some ns => if ns.length < 64 then mk m ((srtI (once ns)).map D.int) st else .bad
      | none => .bad
  | none => .bad
def dSS (m : Bool) (f : DE) : DE := fun env st => (f env st).bind (ssD m)
section
variable {X : Cx} {g : Gh} {W : WX}
theorem ss_imp (m : Bool) {f : DE} {σ : L2.St} {H : Hp} {Q : VK} (q : tD g W (dSS m f) σ H Q) : tSS g.K (tD g W f) σ H Q := by
  obtain ⟨A, env, st, M, q⟩ := q
  refine (tR.bind (rel := Rep g) M q).mono fun v H1 ⟨A1, d, st1, x, s, r, M1, q1⟩ => ?_
  unfold ssD at q1
  split at q1
  · rename_i xs e
    split at q1
    · exact q1.elim
    · rename_i ht
      obtain ⟨p, ws, rfl, r2, h⟩ := listItems_rep s r e (by simpa using ht)
      refine ⟨p, rfl, ?_⟩
      split at q1
      · rename_i _ ss es
        obtain ⟨rfl, ks⟩ := strs?_rep es r2
        split at q1
        · rename_i hl
          refine .inl ⟨ss, h, hl, fun ys l hp hs hl' => ?_⟩
          rw [srtS_one hp hs]
          refine mk_ok s (strs_reps fun z hz => ks z ((once_mem ss z).mp ((srtS_perm _).subset hz))) q1 hl'
        · exact q1.elim
      · split at q1
        · rename_i _ ns es
          have e2 := ints?_rep es r2
          split at q1
          · rename_i hl
            refine .inr ⟨ns, by rw [← e2]; exact h, hl, fun ys l hp hs hl' => ?_⟩
            rw [srtI_one hp hs]
            exact mk_ok s (Reps.of_ints _) q1 hl'
          · exact q1.elim
        · exact q1.elim
  · exact q1.elim
theorem de_ss {x1 x2 : Str} {p1 p2 pos pos2 : Pos} {e : Expr} {f : DE} (m : Bool) (hK : g.K = X.K) (hc : X.calm = true) (he : PE X e (tD g W f)) (hg1 : Gl X x1) (hm1 : X.mg x1 = none) (hv1 : bootBuiltins x1 = some (.builtin "sorted")) (hg2 : Gl X x2) (hm2 : X.mg x2 = none) (hv2 : bootBuiltins x2 = some (.type "set"))
    (hn1 : x1 ≠ "__name__") (hdb1 : (x1 == ("__debug__" : Str)) = false) (hn2 : x2 ≠ "__name__") (hdb2 : (x2 == ("__debug__" : Str)) = false)
    (h1 : starEach [.Call (.Name x2 p2) [e] [] pos2] X.env = (false, eval (.Call (.Name x2 p2) [e] [] pos2) X.env) :: starEach [] X.env) (h2 : starEach [e] X.env = (false, eval e X.env) :: starEach [] X.env) :
    PE X (.Call (.Name x1 p1) [.Call (.Name x2 p2) [e] [] pos2] [] pos) (tD g W (dSS m f)) :=
  pe_imp (pe_ss hc hg1 hm1 hv1 hg2 hm2 hv2 he hn1 hdb1 hn2 hdb2 h1 h2) fun σ H Q q => by
    have q2 := ss_imp m q
    rw [hK] at q2
    exact q2
end
end DL

/-! DL37: min, max of a row of numbers; a def handed over. -/
namespace L2
open PySem PySem.Spec PyProof.Rows
open PySem.W (AlikeAll alike minD maxD min_list_data min_tuple_data max_list_data max_tuple_data minD_ints maxD_ints)
def rBestI (K : PySem.W.Frag) (f : Int → Int → Int) : List V → Hp → VK → Prop := fun vs H Q => ∃ (a : Addr) (n : Int) (ns : List Int), vs = [.ref a] ∧ (SqL K H a ((n :: ns).map V.int) ∨ SqT K H a ((n :: ns).map V.int)) ∧ Q (.int (ns.foldl f n)) H
theorem dp_ints (K : PySem.W.Frag) (H : Hp) : ∀ ns : List Int, DpAll K H (ns.map V.int) (ns.map PyData.int)
  | [] => .nil
  | n :: ns => .cons (.int n) (dp_ints K H ns)
theorem alike_ints (ns : List Int) : AlikeAll (ns.map PyData.int) := by
  refine ⟨fun a ha b hb => ?_, fun a ha => ?_⟩
  · obtain ⟨i, _, rfl⟩ := List.mem_map.mp ha
    obtain ⟨j, _, rfl⟩ := List.mem_map.mp hb
    simp [alike]
  · obtain ⟨i, _, rfl⟩ := List.mem_map.mp ha
    exact fun z => nomatch z
theorem depth_ints : ∀ ns : List Int, PyData.depthAll (ns.map PyData.int) ≤ 40
  | [] => by simp [PyData.depthAll]
  | n :: ns => by
    have := depth_ints ns
    simp only [List.map_cons, PyData.depthAll, PyData.depth]
    omega
theorem reads_int {h : Heap} {v : Value} {k : Int} {bs : List Addr} (r : Reads h v (.int k) bs) : ∃ t, v = .int k t := by
  cases r
  exact ⟨_, rfl⟩
section
variable {X : Cx}
theorem cr_minI (hc : X.calm = true) (hu : X.A.units + 64 < cLine) : CallR X (.builtin "min") (rBestI X.K min) := by
  intro pins s σ H vs us Q I r h
  obtain ⟨a, n, ns, rfl, hs, q⟩ := h
  rw [Vals.ref1 r]
  have hd := depth_ints (n :: ns)
  have hd : PyData.depthAll (PyData.int n :: ns.map PyData.int) ≤ 40 := hd
  rcases hs with hs | hs
  · obtain ⟨its, rv, hl, hz⟩ := I.list hs
    obtain ⟨as, hr⟩ := Dp.readsAll I _ _ _ (dp_ints X.K H (n :: ns)) rv
    refine min_list_data (x := .int n) (xs := ns.map .int) (I.ok.hd hc) hl.isList (by rw [List.toList_toArray]; exact hr) (alike_ints (n :: ns)) (by omega) fun i v h' tk cs hv hm hk => ?_
    rw [minD_ints] at hm
    obtain ⟨t, rfl⟩ := reads_int hm
    exact ⟨.int _, H, I.kept hk, ⟨t, rfl⟩, q⟩
  · obtain ⟨its, rv, ⟨o, h1, h2, h3⟩, hz⟩ := I.tuple hs
    obtain ⟨as, hr⟩ := Dp.readsAll I _ _ _ (dp_ints X.K H (n :: ns)) rv
    refine min_tuple_data (x := .int n) (xs := ns.map .int) (I.ok.hd hc) ⟨o, h1, h2, h3⟩ (by rw [List.toList_toArray]; exact hr) (alike_ints (n :: ns)) (by omega) fun i v h' tk cs hv hm hk => ?_
    rw [minD_ints] at hm
    obtain ⟨t, rfl⟩ := reads_int hm
    exact ⟨.int _, H, I.kept hk, ⟨t, rfl⟩, q⟩
theorem cr_maxI (hc : X.calm = true) (hu : X.A.units + 64 < cLine) : CallR X (.builtin "max") (rBestI X.K max) := by
  intro pins s σ H vs us Q I r h
  obtain ⟨a, n, ns, rfl, hs, q⟩ := h
  rw [Vals.ref1 r]
  have hd := depth_ints (n :: ns)
  have hd : PyData.depthAll (PyData.int n :: ns.map PyData.int) ≤ 40 := hd
  rcases hs with hs | hs
  · obtain ⟨its, rv, hl, hz⟩ := I.list hs
    obtain ⟨as, hr⟩ := Dp.readsAll I _ _ _ (dp_ints X.K H (n :: ns)) rv
    refine max_list_data (x := .int n) (xs := ns.map .int) (I.ok.hd hc) hl.isList (by rw [List.toList_toArray]; exact hr) (alike_ints (n :: ns)) (by omega) fun i v h' tk cs hv hm hk => ?_
    rw [maxD_ints] at hm
    obtain ⟨t, rfl⟩ := reads_int hm
    exact ⟨.int _, H, I.kept hk, ⟨t, rfl⟩, q⟩
  · obtain ⟨its, rv, ⟨o, h1, h2, h3⟩, hz⟩ := I.tuple hs
    obtain ⟨as, hr⟩ := Dp.readsAll I _ _ _ (dp_ints X.K H (n :: ns)) rv
    refine max_tuple_data (x := .int n) (xs := ns.map .int) (I.ok.hd hc) ⟨o, h1, h2, h3⟩ (by rw [List.toList_toArray]; exact hr) (alike_ints (n :: ns)) (by omega) fun i v h' tk cs hv hm hk => ?_
    rw [maxD_ints] at hm
    obtain ⟨t, rfl⟩ := reads_int hm
    exact ⟨.int _, H, I.kept hk, ⟨t, rfl⟩, q⟩
/-- x(e, ..), x a local name that holds a def -/
theorem pe_callLS {CX : CXT} {k i : Nat} {f : Addr} {fd : FuncData} {ps : List Str} {sp : Sp} {E : St → XK} {x : Str} {p pos : Pos} {e : Expr} {es : List Expr} {t : TA} (F : FnOk X.prog X.w X.K X.mg X.base CX k f fd ps sp) (hr : Room k X.A) (hN : X.N[i]? = some x) (hv : Vis X.env.scope x) (hk : PySem.W.keepIn X.K (.ref f) = true) (hb : Binds X.K fd ps []) (hx : ∀ σ, PassesAt CX X σ (E σ)) (ha : PA X (e :: es) t)
    (hdb : (x == ("__debug__" : Str)) = false) (hcd : (x == ("__classdict__" : Str)) = false)
    (he : starEach (e :: es) X.env = (false, eval e X.env) :: starEach es X.env) (hpl : (backTo pos (starEach es X.env)).any (·.1) = false) : PE X (.Call (.Name x p) (e :: es) [] pos) (fun σ H Q => σ[i]? = some (some (.ref f)) ∧ tCallS sp E t σ H Q) := by
  refine ⟨fun pins s σ H Q I h => ?_⟩
  obtain ⟨hs, ht⟩ := h
  refine wpAny_Call_Name_kw (thn ((pe_var (pos := p) hN hv hdb hcd).run pins s σ H (fun v H1 => v = .ref f ∧ H1 = H) I ⟨.ref f, hs, rfl, rfl⟩) fun u s1 ⟨v, H1, I1, r1, q1⟩ => ?_)
  obtain ⟨rfl, rfl⟩ := q1
  cases r1
  refine PySem.W.callWith_K (h₀ := X.base) I.ok.mod.kin hk (thn (ha.run pos pins s1 σ _ _ I1 ht) fun us s2 ⟨vs, H2, I2, r, q⟩ => ⟨I2.kIn, ?_⟩) he hpl
  exact run_fnS F hr hb (hx σ) I2 r q
end
end L2
namespace DL
open PySem PySem.Spec PyProof.Rows L2
/-- min, max of a row of numbers -/
def bestID (f : Int → Int → Int) : List D → Sto → Rs D
  | [d], st => match itemsOf st d with
    | some xs => match ints? xs with
      | some (n :: ns) => .ok (.int (ns.foldl f n)) st
      | _ => .bad
    | none => .bad
  | _, _ => .bad
section
variable {X : Cx} {g : Gh} {W : WX}
theorem bestID_ok (f : Int → Int → Int) : OpC g (rBestI g.K f) (bestID f) := by
  intro W A st σ H ds vs Q s r q
  unfold bestID at q
  split at q
  · obtain ⟨v, rfl, r1⟩ := reps1 r
    split at q
    · rename_i xs e
      obtain ⟨p, ws, rfl, r2, h⟩ := items_rep s r1 e
      split at q
      · rename_i n ns en
        have ew := ints?_rep en r2
        rw [ew] at h
        exact ⟨p, n, ns, rfl, h, q A _ H (.refl _ _) s (rep_int _)⟩
      · exact q.elim
    · exact q.elim
  · exact q.elim
/-- a top's name that holds a def -/
theorem de_gfn {i : Nat} {x : Str} {pos : Pos} (hg : Gl X x) (hm : X.mg x = some (.ref (g.fA i))) (hd : (x == ("__debug__" : Str)) = false) : PE X (.Name x pos) (tD g W (dC (.fn i))) :=
  pe_imp (pe_glob (v := .ref (g.fA i)) hg hm rfl hd) fun σ H Q q => by
    obtain ⟨A, env, st, M, q⟩ := q
    exact q A _ H (.refl _ _) M.sto (by unfold Rep; rfl)
/-- the def that a name holds is called -/
def dCallF (i : Nat) (F0 F1 : Fn) (fs : List DE) : DE := fun env st => match env[i]? with
  | some (some (.fn 0)) => dCall F0 fs env st
  | some (some (.fn 1)) => dCall F1 fs env st
  | _ => .bad
theorem de_callF {i k0 k1 n : Nat} {x x0 x1 : Str} {p pos : Pos} {e : Expr} {es : List Expr} {F0 F1 : Fn} {fs : List DE} (hK : g.K = X.K) (G0 : GFn X.prog X.w g X.mg X.base x0 k0 n F0) (G1 : GFn X.prog X.w g X.mg X.base x1 k1 n F1) (m0 : X.mg x0 = some (.ref (g.fA 0))) (m1 : X.mg x1 = some (.ref (g.fA 1)))
    (hr0 : Room k0 X.A) (hr1 : Room k1 X.A) (tk : L2N.Takes X W) (hN : X.N[i]? = some x) (hv : Vis X.env.scope x) (hdb : (x == ("__debug__" : Str)) = false) (hcd : (x == ("__classdict__" : Str)) = false) (ha : PA X (e :: es) (tL g W (runL fs))) (hn : fs.length = n)
    (he : starEach (e :: es) X.env = (false, eval e X.env) :: starEach es X.env) (hpl : (backTo pos (starEach es X.env)).any (·.1) = false) : PE X (.Call (.Name x p) (e :: es) [] pos) (tD g W (dCallF i F0 F1 fs)) := by
  have one : ∀ (j k : Nat) (y : Str) (F : Fn), GFn X.prog X.w g X.mg X.base y k n F → X.mg y = some (.ref (g.fA j)) → Room k X.A → ∀ (pins : List (Addr × Obj)) (s : Shared) (σ : L2.St) (H : Hp) (Q : VK), Inv X pins σ H s → σ[i]? = some (some (.ref (g.fA j))) → tD g W (dCall F fs) σ H Q → wpAny (model X.prog X.w) X.A (eval (.Call (.Name x p) (e :: es) [] pos) X.env) (EP X pins σ Q) X.xe s := by
    intro j k y F G m hr pins s σ H Q I hσ q
    obtain ⟨f, fd, ps, h1, h2, h3, h4⟩ := G.ex
    rw [hK] at h2 h3 h4
    have ef : f = g.fA j := by
      rw [m] at h1
      injection h1 with h1
      injection h1 with h1
      exact h1.symm
    subst ef
    exact (pe_callLS h3 hr hN hv h2 h4 (fun σ => L2N.passAt tk σ) ha hdb hcd he hpl).run pins s σ H Q I ⟨hσ, call_imp hn q⟩
  refine ⟨fun pins s σ H Q I h => ?_⟩
  obtain ⟨A, env, st, M, q⟩ := h
  unfold dCallF at q
  split at q
  · rename_i he0
    obtain ⟨v, hv0, r⟩ := M.env.slot i _ he0
    unfold Rep at r
    subst r
    exact one 0 k0 x0 F0 G0 m0 hr0 pins s σ H Q I hv0 ⟨A, env, st, M, q⟩
  · rename_i he0
    obtain ⟨v, hv0, r⟩ := M.env.slot i _ he0
    unfold Rep at r
    subst r
    exact one 1 k1 x1 F1 G1 m1 hr1 pins s σ H Q I hv0 ⟨A, env, st, M, q⟩
  · exact q.elim
end
end DL

namespace DL
open PySem PySem.Spec PyProof.Rows L2
def WF : Nat := 1000
noncomputable section
def b_law_cell_i1 : DS :=
  (dIfS (dTest (dB eqD (dV 0) (dLst [])))
    (dRet (dB mulD (dV 1) (dC (.int 7919)))) dNext)
def b_law_cell : DS :=
  (dSeq (b_law_cell_i1)
    (dRet (dB addD (dB ixD (dV 0) (dB modI (dV 1) (dCall lenD [(dV 0)]))) (dB mulD (dB divI (dV 1) (dCall lenD [(dV 0)])) (dC (.int 104729))))))
def fn_law_cell : Fn := Fn.clean (runF 2 b_law_cell)
def b_law_drawn : DS :=
  (dSeq (dSet (tgN 2) (dB modI (dB addD (dB mulD (dV 0) (dC (.int 6364136223846793005))) (dB mulD (dB addD (dV 1) (dC (.int 1))) (dC (.int 1442695040888963407)))) (dC (.int 340282366920938463463374607431768211507))))
    (dRet (dB modI (dB mulD (dV 2) (dV 2)) (dC (.int 340282366920938463463374607431768211297)))))
def fn_law_drawn : Fn := Fn.clean (runF 3 b_law_drawn)
def b_law_numbers_c1 : DE :=
  (dB addD (dB modI (dB addD (dB divI (dV 0) (dC (.int 4))) (dB mulD (dV 3) (dV 2))) (dC (.int 999))) (dC (.int 1)))
def b_law_numbers : DS :=
  (dSeq (dSet (tgN 2) (dB ixD (dLst [(dC (.int 1)), (dC (.int 2)), (dC (.int 500)), (dC (.int 7))]) (dB modI (dV 0) (dC (.int 4)))))
    (dRet (dComp [3] (dIterR (dV 1)) (tgN 3) dYes (b_law_numbers_c1))))
def fn_law_numbers : Fn := Fn.clean (runF 4 b_law_numbers)
def b_law_bits_c1 : DE :=
  (dB ixD (dC (.str "01")) (dB modI (dB divI (dV 0) (dB shlI (dC (.int 1)) (dV 2))) (dC (.int 2))))
def b_law_bits : DS :=
  (dRet (dMeth chkS joinD (dC (.str "")) [(dComp [2] (dIterR (dV 1)) (tgN 2) dYes (b_law_bits_c1))]))
def fn_law_bits : Fn := Fn.clean (runF 3 b_law_bits)
def b_law_prefixes_c1 : DE :=
  (dB addD (dV 1) (dV 3))
def b_law_prefixes : DS :=
  (dSeq (dSet (tgN 1) (dCall fn_law_bits [(dB divI (dV 0) (dC (.int 32))), (dB ixD (dLst [(dC (.int 0)), (dC (.int 3)), (dC (.int 9)), (dC (.int 12))]) (dB modI (dV 0) (dC (.int 4))))]))
    (dSeq (dSet (tgN 2) (dComp [3] (dIterA (dLst [(dC (.str "")), (dC (.str "0")), (dC (.str "1")), (dC (.str "00")), (dC (.str "011")), (dC (.str "10"))])) (tgN 3) dYes (b_law_prefixes_c1)))
    (dRet (dB addD (dV 2) (dLst [(dSl (dB addD (dB addD (dV 1) (dCall fn_law_bits [(dB divI (dV 0) (dC (.int 65536))), (dC (.int 16))])) (dC (.str "0"))) dNoPart (dPart (dC (.int 16))))])))))
def fn_law_prefixes : Fn := Fn.clean (runF 4 b_law_prefixes)
def b_law_tags_t1 : DT :=
  (dTest (dB eqD (dB modI (dB divI (dV 0) (dB shlI (dC (.int 1)) (dV 2))) (dC (.int 2))) (dC (.int 1))))
def b_law_tags_c1 : DE :=
  (dB ixD (dV 1) (dV 2))
def b_law_tags : DS :=
  (dSeq (dSet (tgN 1) (dLst [(dB addD (dC (.int 1)) (dB modI (dB divI (dV 0) (dC (.int 8))) (dC (.int 3)))), (dB addD (dC (.int 4)) (dB modI (dB divI (dV 0) (dC (.int 24))) (dC (.int 90)))), (dB addD (dC (.int 95)) (dB modI (dB divI (dV 0) (dC (.int 2160))) (dC (.int 3)))), (dB addD (dC (.int 98)) (dB modI (dB divI (dV 0) (dC (.int 6480))) (dC (.int 2))))]))
    (dRet (dCall tupleD [(dComp [2] (dIterR (dC (.int 4))) (tgN 2) (b_law_tags_t1) (b_law_tags_c1))])))
def fn_law_tags : Fn := Fn.clean (runF 3 b_law_tags)
def b_law_route_l1 : DS :=
  (dExpr (dMeth chkL appendD (dV 4) [(dB ixD (dV 3) (dB modI (dB divI (dV 0) (dB addD (dC (.int 64)) (dB mulD (dC (.int 13)) (dV 5)))) (dCall lenD [(dV 3)])))]))
def b_law_route : DS :=
  (dSeq (dSet (tgN 4) (dLstM [(dV 2)]))
    (dSeq (dFor (dIterR (dB ixD (dLst [(dB modI (dV 0) (dC (.int 3))), (dB modI (dV 0) (dC (.int 5))), (dC (.int 11))]) (dB modI (dB divI (dV 0) (dC (.int 16))) (dC (.int 3))))) (tgN 5)
    (b_law_route_l1))
    (dSeq (dSet (tgN 6) (dB ixD (dLst [(dC (.int 0)), (dB modI (dB divI (dV 0) (dC (.int 4096))) (dC (.int 3))), (dC (.int 1000))]) (dB modI (dB divI (dV 0) (dC (.int 16384))) (dC (.int 3)))))
    (dRet (dTup [(dB ixD (dV 1) (dB modI (dB divI (dV 0) (dC (.int 65536))) (dCall lenD [(dV 1)]))), (dCall tupleD [(dV 4)]), (dV 6), (dCall fn_law_tags [(dB divI (dV 0) (dB powI (dC (.int 2)) (dC (.int 24))))])])))))
def fn_law_route : Fn := Fn.clean (runF 7 b_law_route)
def b_law_rule_i1 : DS :=
  (dIfS (dTest (dB gtD (dB modI (dB divI (dV 0) (dC (.int 8))) (dC (.int 3))) (dC (.int 0))))
    (dSet (tgN 3) (dSl (dV 3) dNoPart (dPart (dB modI (dB divI (dV 0) (dC (.int 24))) (dC (.int 3)))))) dNext)
def b_law_rule : DS :=
  (dSeq (dSet (tgN 3) (dB ixD (dV 1) (dB modI (dV 0) (dCall lenD [(dV 1)]))))
    (dSeq (b_law_rule_i1)
    (dSeq (dSet (tgN 4) (dB ixD (dLst [(dC (.int 16)), (dB addD (dCall lenD [(dV 3)]) (dB modI (dB divI (dV 0) (dC (.int 72))) (dC (.int 4)))), (dC (.int 16))]) (dB modI (dB divI (dV 0) (dC (.int 288))) (dC (.int 3)))))
    (dSeq (dSet (tgN 5) (dB ixD (dLst [(dC (.int 0)), (dC (.int 0)), (dB ixD (dV 2) (dB modI (dB divI (dV 0) (dC (.int 4096))) (dCall lenD [(dV 2)])))]) (dB modI (dB divI (dV 0) (dC (.int 1024))) (dC (.int 3)))))
    (dSeq (dSet (tgN 6) (dB ixD (dLst [(dC (.int 0)), (dC (.int 0)), (dB addD (dC (.int 1)) (dB modI (dB divI (dV 0) (dC (.int 65536))) (dC (.int 3))))]) (dB modI (dB divI (dV 0) (dC (.int 16384))) (dC (.int 3)))))
    (dSeq (dSet (tgN 7) (dB ixD (dLst [(dC (.str "no")), (dC (.str "yes")), (dC (.str "on")), (dC (.str "on"))]) (dB modI (dB divI (dV 0) (dB powI (dC (.int 2)) (dC (.int 20)))) (dC (.int 4)))))
    (dSeq (dSet (tgN 8) (dB ixD (dLst [(dC .non), (dC (.int 100)), (dB modI (dB divI (dV 0) (dB powI (dC (.int 2)) (dC (.int 24)))) (dC (.int 1001))), (dC (.int 200))]) (dB modI (dB divI (dV 0) (dB powI (dC (.int 2)) (dC (.int 22)))) (dC (.int 4)))))
    (dSeq (dSet (tgN 0) (dB divI (dV 0) (dB powI (dC (.int 2)) (dC (.int 36)))))
    (dRet (dTup [(dV 3), (dCall min2D [(dV 4), (dC (.int 16))]), (dV 5), (dV 6), (dV 7), (dV 8), (dB ixD (dLst [(dC (.int 0)), (dC (.int 1)), (dC (.int 2)), (dC (.int 99))]) (dB modI (dV 0) (dC (.int 4)))), (dB ixD (dLst [(dC (.int 0)), (dC (.int 1)), (dC (.int 3))]) (dB modI (dB divI (dV 0) (dC (.int 4))) (dC (.int 3)))), (dB modI (dB divI (dV 0) (dC (.int 12))) (dC (.int 4)))]))))))))))
def fn_law_rule : Fn := Fn.clean (runF 9 b_law_rule)
def b_is_prefix_c1 : DE :=
  (dB inD (dV 1) (dC (.str "01")))
def b_is_prefix : DS :=
  (dRet (dAndV (dB leD (dCall lenD [(dV 0)]) (dC (.int 16))) (dCall allD [(dComp [1] (dIterA (dV 0)) (tgN 1) dYes (b_is_prefix_c1))])))
def fn_is_prefix : Fn := Fn.clean (runF 2 b_is_prefix)
def b_need_rule_i1 : DS :=
  (dIfS (dOr (dNot (dTest (dCall fn_is_prefix [(dV 1)]))) (dOr (dNot (dTest (dChain leD leD (dC (.int 0)) (dV 2) (dC (.int 16))))) (dNot (dTest (dChain leD leD (dC (.int 0)) (dV 3) (dC (.int 999)))))))
    (dRaise 2) dNext)
def b_need_rule_c1 : DE :=
  (dChain leD leD (dC (.int 0)) (dV 10) (dC (.int 99)))
def b_need_rule_i2 : DS :=
  (dIfS (dOr (dNot (dTest (dCall allD [(dComp [10] (dIterA (dTup [(dV 4), (dV 7), (dV 8)])) (tgN 10) dYes (b_need_rule_c1))]))) (dTest (dB notInD (dV 5) (dC (.kt ["no", "yes", "on"])))))
    (dRaise 2) dNext)
def b_need_rule_i3 : DS :=
  (dIfS (dOr (dAnd (dTest (dB isnD (dV 6) (dC .non))) (dNot (dTest (dChain leD leD (dC (.int 0)) (dV 6) (dC (.int 1000)))))) (dNot (dTest (dChain leD leD (dC (.int 0)) (dV 9) (dC (.int 3))))))
    (dRaise 2) dNext)
def b_need_rule : DS :=
  (dSeq (dSet (tgT [1, 2, 3, 4, 5, 6, 7, 8, 9]) (dV 0))
    (dSeq (b_need_rule_i1)
    (dSeq (b_need_rule_i2)
    (b_need_rule_i3))))
def fn_need_rule : Fn := Fn.clean (runF 11 b_need_rule)
def b_need_prefix_i1 : DS :=
  (dIfS (dNot (dTest (dCall fn_is_prefix [(dV 0)])))
    (dRaise 1) dNext)
def b_need_prefix : DS :=
  (b_need_prefix_i1)
def fn_need_prefix : Fn := Fn.clean (runF 1 b_need_prefix)
def b_are_tags_c1 : DE :=
  (dChain leD leD (dC (.int 1)) (dV 1) (dC (.int 99)))
def b_are_tags_i1 : DS :=
  (dIfS (dOr (dTest (dB gtD (dCall lenD [(dV 0)]) (dC (.int 4)))) (dNot (dTest (dCall allD [(dComp [1] (dIterA (dV 0)) (tgN 1) dYes (b_are_tags_c1))]))))
    (dRet (dC (.bl false))) dNext)
def b_are_tags_c2 : DE :=
  (dB ltD (dV 2) (dV 3))
def b_are_tags : DS :=
  (dSeq (b_are_tags_i1)
    (dRet (dCall allD [(dComp [2, 3] (dIterZ [(dV 0), (dSl (dV 0) (dPart (dC (.int 1))) dNoPart)]) (tgT [2, 3]) dYes (b_are_tags_c2))])))
def fn_are_tags : Fn := Fn.clean (runF 4 b_are_tags)
def b_need_route_c1 : DE :=
  (dChain leD leD (dC (.int 1)) (dV 5) (dC (.int 999)))
def b_need_route_i1 : DS :=
  (dIfS (dOr (dNot (dTest (dChain leD leD (dC (.int 1)) (dCall lenD [(dV 2)]) (dC (.int 12))))) (dNot (dTest (dCall allD [(dComp [5] (dIterA (dV 2)) (tgN 5) dYes (b_need_route_c1))]))))
    (dRaise 1) dNext)
def b_need_route_i2 : DS :=
  (dIfS (dOr (dNot (dTest (dChain leD leD (dC (.int 0)) (dV 3) (dC (.int 1000))))) (dNot (dTest (dCall fn_are_tags [(dV 4)]))))
    (dRaise 1) dNext)
def b_need_route : DS :=
  (dSeq (dSet (tgT [1, 2, 3, 4]) (dV 0))
    (dSeq (dExpr (dCall fn_need_prefix [(dV 1)]))
    (dSeq (b_need_route_i1)
    (b_need_route_i2))))
def fn_need_route : Fn := Fn.clean (runF 6 b_need_route)
def b_fits_i1 : DS :=
  (dIfS (dOr (dNot (dTest (dMeth chkS startsD (dB ixD (dV 1) (dC (.int 0))) [(dB ixD (dV 0) (dC (.int 0)))]))) (dTest (dB gtD (dCall lenD [(dB ixD (dV 1) (dC (.int 0)))]) (dB ixD (dV 0) (dC (.int 1))))))
    (dRet (dC (.bl false))) dNext)
def b_fits : DS :=
  (dSeq (b_fits_i1)
    (dRet (dAndV (dOrV (dB eqD (dB ixD (dV 0) (dC (.int 2))) (dC (.int 0))) (dB inD (dB ixD (dV 0) (dC (.int 2))) (dB ixD (dV 1) (dC (.int 1))))) (dOrV (dB eqD (dB ixD (dV 0) (dC (.int 3))) (dC (.int 0))) (dB inD (dB ixD (dV 0) (dC (.int 3))) (dB ixD (dV 1) (dC (.int 3))))))))
def fn_fits : Fn := Fn.clean (runF 2 b_fits)
def b_retagged_t1 : DT :=
  (dTest (dB neD (dV 4) (dV 2)))
def b_retagged_c1 : DE :=
  (dV 4)
def b_retagged_i1 : DS :=
  (dIfS (dAnd (dTest (dB neD (dV 1) (dC (.int 0)))) (dAnd (dTest (dB notInD (dV 1) (dV 3))) (dTest (dB ltD (dCall lenD [(dV 3)]) (dC (.int 4))))))
    (dExpr (dMeth chkL appendD (dV 3) [(dV 1)])) dNext)
def b_retagged : DS :=
  (dSeq (dSet (tgN 3) (dCompM [4] (dIterA (dV 0)) (tgN 4) (b_retagged_t1) (b_retagged_c1)))
    (dSeq (b_retagged_i1)
    (dRet (dCall tupleD [(dCall (sortAD false) [(dV 3)])]))))
def fn_retagged : Fn := Fn.clean (runF 5 b_retagged)
def b_judged_i1 : DS :=
  (dIfS (dTest (dB isnD (dB ixD (dV 4) (dC (.int 5))) (dC .non)))
    (dSet (tgN 2) (dB ixD (dV 4) (dC (.int 5)))) dNext)
def b_judged_i2 : DS :=
  (dIfS (dTest (dB eqD (dB ixD (dV 4) (dC (.int 4))) (dC (.str "no"))))
    (dRet (dC .non)) dNext)
def b_judged_i3 : DS :=
  (dIfS (dTest (dB eqD (dB ixD (dV 4) (dC (.int 4))) (dC (.str "yes"))))
    dBreak dNext)
def b_judged_i4 : DS :=
  (dIfS (dTest (dCall fn_fits [(dV 4), (dV 1)]))
    (dSeq (dSet (tgN 1) (dTup [(dB ixD (dV 1) (dC (.int 0))), (dB ixD (dV 1) (dC (.int 1))), (dB ixD (dV 1) (dC (.int 2))), (dCall fn_retagged [(dB ixD (dV 1) (dC (.int 3))), (dB ixD (dV 4) (dC (.int 6))), (dB ixD (dV 4) (dC (.int 7)))])]))
    (dSeq (b_judged_i1)
    (dSeq (dSet (tgN 3) (dB addD (dV 3) (dB ixD (dV 4) (dC (.int 8)))))
    (dSeq (b_judged_i2)
    (b_judged_i3))))) dNext)
def b_judged_l1 : DS :=
  (b_judged_i4)
def b_judged : DS :=
  (dSeq (dSet (tgN 2) (dC (.int 100)))
    (dSeq (dSet (tgN 3) (dC (.int 0)))
    (dSeq (dFor (dIterA (dV 0)) (tgN 4)
    (b_judged_l1))
    (dRet (dTup [(dV 1), (dV 2), (dV 3)])))))
def fn_judged : Fn := Fn.clean (runF 5 b_judged)
def b_Router_offer_i1 : DS :=
  (dIfS (dOr (dTest (dB notInD (dV 2) (dU (fldD 4 3) (dV 3)))) (dTest (dB inD (dU (fldD 5 0) (dV 0)) (dB ixD (dB ixD (dU (fldD 4 3) (dV 3)) (dV 2)) (dC (.int 1))))))
    (dRet (dC .non)) dNext)
def b_Router_offer_i2 : DS :=
  (dIfS (dTest (dB isD (dV 4) (dC .non)))
    (dRet (dC .non)) dNext)
def b_Router_offer : DS :=
  (dSeq (dSet (tgN 3) (dB ixD (dU (fldD 5 1) (dV 0)) (dV 1)))
    (dSeq (b_Router_offer_i1)
    (dSeq (dSet (tgN 4) (dCall fn_judged [(dU (fldD 4 1) (dV 3)), (dB ixD (dU (fldD 4 3) (dV 3)) (dV 2))]))
    (dSeq (b_Router_offer_i2)
    (dSeq (dSet (tgT [5, 6, 7]) (dV 4))
    (dRet (dTup [(dTup [(dB subI (dC (.int 0)) (dV 6)), (dCall lenD [(dB ixD (dV 5) (dC (.int 1)))]), (dB ixD (dV 5) (dC (.int 2))), (dV 1)]), (dTup [(dV 1), (dV 5), (dV 6)])])))))))
def fn_Router_offer : Fn := Fn.clean (runF 8 b_Router_offer)
def b_Router_best_i1 : DS :=
  (dIfS (dTest (dB inD (dV 1) (dU (fldD 5 2) (dV 0))))
    (dRet (dTup [(dC (.int 0)), (dTup [(dV 1), (dTup []), (dC (.int 0)), (dTup [])]), (dC (.int 100))])) dNext)
def b_Router_best_c1 : DE :=
  (dMth 5 fn_Router_offer (dV 0) [(dV 4), (dV 1)])
def b_Router_best_t1 : DT :=
  (dTest (dB isnD (dV 5) (dC .non)))
def b_Router_best_c2 : DE :=
  (dV 5)
def b_Router_best_i2 : DS :=
  (dIfS (dTest (dB eqD (dV 3) (dLst [])))
    (dRet (dC .non)) dNext)
def b_Router_best : DS :=
  (dSeq (b_Router_best_i1)
    (dSeq (dLock (lcF 5 1 (lcV 0)) (dSet (tgN 2) (dComp [4] (dIterK (dU (fldD 5 1) (dV 0))) (tgN 4) dYes (b_Router_best_c1))))
    (dSeq (dSet (tgN 3) (dComp [5] (dIterA (dV 2)) (tgN 5) (b_Router_best_t1) (b_Router_best_c2)))
    (dSeq (b_Router_best_i2)
    (dRet (dB ixD (dCall minLD [(dV 3)]) (dC (.int 1))))))))
def fn_Router_best : Fn := Fn.clean (runF 6 b_Router_best)
def b_Router_find_i1 : DS :=
  (dIfS (dTest (dB isnD (dV 3) (dC .non)))
    (dRet (dV 3)) dNext)
def b_Router_find_l1 : DS :=
  (dSeq (dSet (tgN 3) (dMth 5 fn_Router_best (dV 0) [(dSl (dV 1) dNoPart (dPart (dV 2)))]))
    (b_Router_find_i1))
def b_Router_find : DS :=
  (dSeq (dFor (dIterV (dU lrD (dB addD (dC (.int 16)) (dC (.int 1))))) (tgN 2)
    (b_Router_find_l1))
    (dRet (dC .non)))
def fn_Router_find : Fn := Fn.clean (runF 4 b_Router_find)
def b_Router_prefixes_l1 : DS :=
  (dPut (dV 1) (dV 3) (dC (.bl true)))
def b_Router_prefixes_l2 : DS :=
  (dFor (dIterA (dB addD (dCall (listAD false) [(dU (fldD 4 3) (dB ixD (dU (fldD 5 1) (dV 0)) (dV 2)))]) (dCall (listAD false) [(dU (fldD 4 4) (dB ixD (dU (fldD 5 1) (dV 0)) (dV 2)))]))) (tgN 3)
    (b_Router_prefixes_l1))
def b_Router_prefixes : DS :=
  (dSeq (dSet (tgN 1) (dCall dictD [(dU (fldD 5 2) (dV 0))]))
    (dSeq (dLock (lcF 5 1 (lcV 0)) (dFor (dIterK (dU (fldD 5 1) (dV 0))) (tgN 2)
    (b_Router_prefixes_l2)))
    (dRet (dCall (sortAD false) [(dV 1)]))))
def fn_Router_prefixes : Fn := Fn.clean (runF 4 b_Router_prefixes)
def b_Router_chosen_t1 : DT :=
  (dTest (dB isnD (dMth 5 fn_Router_best (dV 0) [(dV 1)]) (dC .non)))
def b_Router_chosen_c1 : DE :=
  (dV 1)
def b_Router_chosen : DS :=
  (dRet (dComp [1] (dIterA (dMth 5 fn_Router_prefixes (dV 0) [])) (tgN 1) (b_Router_chosen_t1) (b_Router_chosen_c1)))
def fn_Router_chosen : Fn := Fn.clean (runF 2 b_Router_chosen)
def b_Router_neighbour_i1 : DS :=
  (dIfS (dTest (dB notInD (dV 1) (dU (fldD 5 1) (dV 0))))
    (dRaise 3) dNext)
def b_Router_neighbour : DS :=
  (dSeq (b_Router_neighbour_i1)
    (dRet (dB ixD (dU (fldD 5 1) (dV 0)) (dV 1))))
def fn_Router_neighbour : Fn := runF 2 b_Router_neighbour
def b_Router_living_i1 : DS :=
  (dIfS (dNot (dTest (dU (fldD 4 0) (dMth 5 fn_Router_neighbour (dV 0) [(dV 1)]))))
    (dRaise 3) dNext)
def b_Router_living : DS :=
  (dSeq (b_Router_living_i1)
    (dRet (dB ixD (dU (fldD 5 1) (dV 0)) (dV 1))))
def fn_Router_living : Fn := runF 2 b_Router_living
def b_Router_to_have_i1 : DS :=
  (dIfS (dOr (dTest (dB isD (dV 3) (dC .non))) (dOr (dTest (dB eqD (dB ixD (dV 3) (dC (.int 0))) (dV 1))) (dTest (dB inD (dV 1) (dB ixD (dB ixD (dV 3) (dC (.int 1))) (dC (.int 1)))))))
    (dRet (dC .non)) dNext)
def b_Router_to_have_i2 : DS :=
  (dIfS (dTest (dB isD (dV 4) (dC .non)))
    (dRet (dC .non)) dNext)
def b_Router_to_have_i3 : DS :=
  (dIfS (dTest (dB gtD (dCall lenD [(dV 8)]) (dC (.int 12))))
    (dRet (dC .non)) dNext)
def b_Router_to_have : DS :=
  (dSeq (dSet (tgN 3) (dMth 5 fn_Router_best (dV 0) [(dV 2)]))
    (dSeq (b_Router_to_have_i1)
    (dSeq (dSet (tgN 4) (dCall fn_judged [(dU (fldD 4 2) (dB ixD (dU (fldD 5 1) (dV 0)) (dV 1))), (dB ixD (dV 3) (dC (.int 1)))]))
    (dSeq (b_Router_to_have_i2)
    (dSeq (dSet (tgT [5, 6, 7]) (dV 4))
    (dSeq (dSet (tgN 8) (dB addD (dB mulD (dTup [(dU (fldD 5 0) (dV 0))]) (dB addD (dC (.int 1)) (dV 7))) (dB ixD (dV 5) (dC (.int 1)))))
    (dSeq (b_Router_to_have_i3)
    (dRet (dTup [(dV 2), (dV 8), (dC (.int 0)), (dB ixD (dV 5) (dC (.int 3)))])))))))))
def fn_Router_to_have : Fn := Fn.clean (runF 9 b_Router_to_have)
def b_Router_due_i1 : DS :=
  (dIfS (dTest (dB neD (dV 5) (dGet1 (dU (fldD 4 4) (dV 2)) (dV 4))))
    (dExpr (dMeth chkL appendD (dV 3) [(dIf (dTest (dB isD (dV 5) (dC .non))) (dTup [(dC (.str "gone")), (dV 4)]) (dTup [(dC (.str "route")), (dV 5)]))])) dNext)
def b_Router_due_l1 : DS :=
  (dSeq (dSet (tgN 5) (dMth 5 fn_Router_to_have (dV 0) [(dV 1), (dV 4)]))
    (b_Router_due_i1))
def b_Router_due : DS :=
  (dSeq (dSet (tgN 2) (dMth 5 fn_Router_living (dV 0) [(dV 1)]))
    (dSeq (dSet (tgN 3) (dLstM []))
    (dSeq (dFor (dIterA (dMth 5 fn_Router_prefixes (dV 0) [])) (tgN 4)
    (b_Router_due_l1))
    (dRet (dV 3)))))
def fn_Router_due : Fn := runF 6 b_Router_due
def b_Router_tell_i1 : DS :=
  (dIfS (dTest (dB eqD (dV 2) (dLst [])))
    (dRet (dC .non)) dNext)
def b_Router_tell_i2 : DS :=
  (dIfS (dTest (dB eqD (dV 3) (dC (.str "gone"))))
    (dExpr (dPop1 (dU (fldD 4 4) (dB ixD (dU (fldD 5 1) (dV 0)) (dV 1))) (dV 4))) (dPut (dU (fldD 4 4) (dB ixD (dU (fldD 5 1) (dV 0)) (dV 1))) (dB ixD (dV 4) (dC (.int 0))) (dV 4)))
def b_Router_tell : DS :=
  (dSeq (dSet (tgN 2) (dMth 5 fn_Router_due (dV 0) [(dV 1)]))
    (dSeq (b_Router_tell_i1)
    (dSeq (dSet (tgT [3, 4]) (dB ixD (dV 2) (dC (.int 0))))
    (dSeq (b_Router_tell_i2)
    (dRet (dB ixD (dV 2) (dC (.int 0))))))))
def fn_Router_tell : Fn := runF 5 b_Router_tell
def b_Neighbour___init__ : DS :=
  (dSeq (dSetF 4 0 5 (dV 0) (dC (.bl false)))
    (dSeq (dSetF 4 1 5 (dV 0) (dLst []))
    (dSeq (dSetF 4 2 5 (dV 0) (dLst []))
    (dSeq (dSetF 4 3 5 (dV 0) dDk)
    (dSetF 4 4 5 (dV 0) dDk)))))
def fn_Neighbour___init__ : Fn := runF 1 b_Neighbour___init__
def b_Router_add_i1 : DS :=
  (dIfS (dOr (dNot (dTest (dChain leD leD (dC (.int 1)) (dV 1) (dC (.int 999))))) (dOr (dTest (dB eqD (dV 1) (dU (fldD 5 0) (dV 0)))) (dTest (dB inD (dV 1) (dU (fldD 5 1) (dV 0))))))
    (dRaise 3) dNext)
def b_Router_add : DS :=
  (dSeq (b_Router_add_i1)
    (dPut (dU (fldD 5 1) (dV 0)) (dV 1) (dNew 4 fn_Neighbour___init__ [])))
def fn_Router_add : Fn := runF 2 b_Router_add
def b_Router_up : DS :=
  (dSeq (dSet (tgN 2) (dMth 5 fn_Router_neighbour (dV 0) [(dV 1)]))
    (dSetF 4 0 5 (dV 2) (dC (.bl true))))
def fn_Router_up : Fn := runF 3 b_Router_up
def b_Router_down : DS :=
  (dSeq (dSet (tgN 2) (dMth 5 fn_Router_neighbour (dV 0) [(dV 1)]))
    (dSeq (dSetF 4 0 5 (dV 2) (dC (.bl false)))
    (dSeq (dSetF 4 3 5 (dV 2) dDk)
    (dSetF 4 4 5 (dV 2) dDk))))
def fn_Router_down : Fn := runF 3 b_Router_down
def b_Router_rules_i1 : DS :=
  (dIfS (dTest (dB gtD (dCall lenD [(dV 3)]) (dC (.int 8))))
    (dRaise 2) dNext)
def b_Router_rules_l1 : DS :=
  (dExpr (dCall fn_need_rule [(dV 5)]))
def b_Router_rules_i2 : DS :=
  (dIfS (dTest (dB eqD (dV 2) (dC (.str "in"))))
    (dSetF 4 1 5 (dV 4) (dCall (listAD false) [(dV 3)])) (dSetF 4 2 5 (dV 4) (dCall (listAD false) [(dV 3)])))
def b_Router_rules : DS :=
  (dSeq (dSet (tgN 4) (dMth 5 fn_Router_neighbour (dV 0) [(dV 1)]))
    (dSeq (b_Router_rules_i1)
    (dSeq (dFor (dIterA (dV 3)) (tgN 5)
    (b_Router_rules_l1))
    (b_Router_rules_i2))))
def fn_Router_rules : Fn := runF 6 b_Router_rules
def b_Router_hear_i1 : DS :=
  (dIfS (dTest (dB neD (dB ixD (dB ixD (dV 2) (dC (.int 1))) (dC (.int 0))) (dV 1)))
    (dRaise 1) dNext)
def b_Router_hear : DS :=
  (dSeq (dSet (tgN 3) (dMth 5 fn_Router_living (dV 0) [(dV 1)]))
    (dSeq (dExpr (dCall fn_need_route [(dV 2)]))
    (dSeq (b_Router_hear_i1)
    (dPut (dU (fldD 4 3) (dV 3)) (dB ixD (dV 2) (dC (.int 0))) (dV 2)))))
def fn_Router_hear : Fn := runF 4 b_Router_hear
def b_Router_gone : DS :=
  (dSeq (dSet (tgN 3) (dMth 5 fn_Router_living (dV 0) [(dV 1)]))
    (dSeq (dExpr (dCall fn_need_prefix [(dV 2)]))
    (dExpr (dPop2 (dU (fldD 4 3) (dV 3)) (dV 2) (dC .non)))))
def fn_Router_gone : Fn := runF 4 b_Router_gone
def b_Router_own_i1 : DS :=
  (dIfS (dTest (dV 2))
    (dPut (dU (fldD 5 2) (dV 0)) (dV 1) (dC (.bl true))) (dExpr (dPop2 (dU (fldD 5 2) (dV 0)) (dV 1) (dC .non))))
def b_Router_own : DS :=
  (dSeq (dExpr (dCall fn_need_prefix [(dV 1)]))
    (b_Router_own_i1))
def fn_Router_own : Fn := runF 3 b_Router_own
def b_Router___init__ : DS :=
  (dSeq (dSetF 5 0 3 (dV 0) (dV 1))
    (dSeq (dSetF 5 1 3 (dV 0) dDk)
    (dSetF 5 2 3 (dV 0) dDk)))
def fn_Router___init__ : Fn := runF 2 b_Router___init__
end
end DL

namespace DL
open PySem PySem.Spec PyProof.Rows L2
/-! ### the script's cells -/
theorem eqv_nil (ns : List Int) : PyData.eqv (.list (ns.map PyData.int)) (.list []) = ns.isEmpty := by
  cases ns <;> simp [PyData.eqv, PyData.eqvAll]
theorem toPs_nil : toPs [] = [] := by simp [toPs]
theorem scr_nil (ns : List Int) (st : Sto) : eqD (.scr ns) (.lst []) st = .ok (.bl ns.isEmpty) st := by
  rw [eqD_good (x := .scr ns) (y := .lst []) rfl rfl]
  simp only [der, toP, toPs_nil, eqv_nil]
theorem ixD_scr {ns : List Int} {i : Int} {n : Int} {st : Sto} (h : atI ns i = some n) : ixD (.scr ns) (.int i) st = .ok (.int n) st := by
  show (match atI ns i with
    | some n => Rs.ok (D.int n) st
    | none => Rs.bad) = _
  rw [h]
theorem cell_ok {ns : List Int} (h : Scr ns) (k : Nat) (hk : k < 1000) (st : Sto) : ∃ c : Int, fn_law_cell [.scr ns, .int k] st = .ok (.int c) st ∧ c.natAbs < 2 ^ 1048577 := by
  by_cases hn : ns = []
  · subst hn
    refine ⟨k * 7919, Fn.clean_same ?_ rfl, ?_⟩
    · have hm : mulD (.int k) (.int 7919) st = .ok (.int (k * 7919)) st := mulD_int (by
        have h1 : (k : Int).natAbs.log2 < 10 := log2_lt_of (by omega) (by decide)
        have h2 : (7919 : Int).natAbs.log2 < 13 := log2_lt_of (by decide) (by decide)
        omega)
      simp [b_law_cell, b_law_cell_i1, dIfS_def, scr_nil, hm]
    · exact pow_le (a := 30) (by omega) (by omega)
  · have hl : 0 < ns.length := List.length_pos_iff.mpr hn
    have he : ns.isEmpty = false := by cases ns with | nil => exact absurd rfl hn | cons _ _ => rfl
    have hj : k % ns.length < ns.length := Nat.mod_lt _ hl
    have ha : atI ns ((k : Int) % (ns.length : Int)) = some ns[k % ns.length] := by
      rw [← Int.natCast_emod, atI_nat' _ hj, List.getElem?_eq_getElem hj]
    have hd : k / ns.length < 1000 := Nat.lt_of_le_of_lt (Nat.div_le_self _ _) hk
    have hv0 : divI (.int (k : Int)) (.int (ns.length : Int)) st = .ok (.int ((k : Int) / (ns.length : Int))) st := divI_int (by omega) (by
        have h1 : ((ns.length : Nat) : Int).natAbs.log2 < 7 := log2_lt_of (by have := h.1; omega) (by decide)
        omega)
    rw [← Int.natCast_ediv] at hv0
    generalize k / ns.length = q at *
    have hm : mulD (.int (q : Int)) (.int 104729) st = .ok (.int ((q : Int) * 104729)) st := mulD_int (by
        have h1 : (q : Int).natAbs.log2 < 10 := log2_lt_of (by omega) (by decide)
        have h2 : (104729 : Int).natAbs.log2 < 17 := log2_lt_of (by decide) (by decide)
        omega)
    have hmod : modI (.int (k : Int)) (.int (ns.length : Int)) st = .ok (.int ((k : Int) % (ns.length : Int))) st := modI_int (by omega)
    refine ⟨ns[k % ns.length] + (q : Int) * 104729, Fn.clean_same ?_ rfl, ?_⟩
    · simp only [b_law_cell, b_law_cell_i1, dIfS_def, runF_def, List.map_cons, List.map_nil, List.length_cons, List.length_nil]
      simp [scr_nil, he, len_scr, hv0, hm, hmod, ixD_scr ha]
    · exact add_lt (lt_of_bits (h.2 _ (List.getElem_mem hj))) (pow_le (a := 30) (by omega) (by omega))
theorem drawn_ok {c : Int} (hc : c.natAbs < 2 ^ 1048577) (k : Nat) (hk : k < 1000) (st : Sto) : ∃ m : Int, fn_law_drawn [.int c, .int k] st = .ok (.int m) st ∧ 0 ≤ m ∧ m < 2 ^ 128 := by
  have l1 : c.natAbs.log2 < 1048577 := log2_lt_of hc (by omega)
  have hm1 : mulD (.int c) (.int 6364136223846793005) st = .ok (.int (c * 6364136223846793005)) st := mulD_int (by
    have h2 : (6364136223846793005 : Int).natAbs.log2 < 64 := log2_lt_of (by decide) (by decide)
    omega)
  have hm2 : mulD (.int ((k : Int) + 1)) (.int 1442695040888963407) st = .ok (.int (((k : Int) + 1) * 1442695040888963407)) st := mulD_int (by
    have h1 : ((k : Int) + 1).natAbs.log2 < 11 := log2_lt_of (by omega) (by decide)
    have h2 : (1442695040888963407 : Int).natAbs.log2 < 64 := log2_lt_of (by decide) (by decide)
    omega)
  generalize hx : c * 6364136223846793005 + ((k : Int) + 1) * 1442695040888963407 = x at *
  have hmod1 : modI (.int x) (.int 340282366920938463463374607431768211507) st = .ok (.int (x % 340282366920938463463374607431768211507)) st := modI_int (by decide)
  have b1 := Int.emod_nonneg x (show (340282366920938463463374607431768211507 : Int) ≠ 0 by decide)
  have b2 := Int.emod_lt_of_pos x (show (0 : Int) < 340282366920938463463374607431768211507 by decide)
  generalize x % 340282366920938463463374607431768211507 = y at *
  have ly : y.natAbs.log2 < 129 := log2_lt_of (by omega) (by decide)
  have hm3 : mulD (.int y) (.int y) st = .ok (.int (y * y)) st := mulD_int (by omega)
  have hmod2 : modI (.int (y * y)) (.int 340282366920938463463374607431768211297) st = .ok (.int (y * y % 340282366920938463463374607431768211297)) st := modI_int (by decide)
  refine ⟨y * y % 340282366920938463463374607431768211297, Fn.clean_same ?_ rfl, Int.emod_nonneg _ (by decide), ?_⟩
  · simp [b_law_drawn, hm1, hm2, hx, hmod1, hm3, hmod2]
  · have := Int.emod_lt_of_pos (y * y) (show (0 : Int) < 340282366920938463463374607431768211297 by decide)
    omega
theorem drawn_big {c : Int} (hc : c.natAbs < 2 ^ 1048577) (k : Nat) (hk : k < 1000) (st : Sto) : ∃ m : Int, fn_law_drawn [.int c, .int k] st = .ok (.int m) st ∧ Big m := by
  obtain ⟨m, e, h1, h2⟩ := drawn_ok hc k hk st
  exact ⟨m, e, h1, h2⟩
theorem draw_ok {ns : List Int} (h : Scr ns) (k j : Nat) (hk : k < 1000) (hj : j < 1000) (st : Sto) : ∃ c m : Int, fn_law_cell [.scr ns, .int k] st = .ok (.int c) st ∧ fn_law_drawn [.int c, .int j] st = .ok (.int m) st ∧ Big m := by
  obtain ⟨c, f1, b1⟩ := cell_ok h k hk st
  obtain ⟨m, f2, hm⟩ := drawn_big b1 j hj st
  exact ⟨c, m, f1, f2, hm⟩
/-! ### numbers, signs, prefixes, tags -/
theorem noLocs_ints (n : Nat) (ns : List Int) : noLocs n (ns.map D.int) = true := by
  induction ns with
  | nil => simp [noLocs]
  | cons a ns ih => simp [noLocs, noLoc, ih]
theorem noLocs_strs (n : Nat) (ns : List Str) : noLocs n (ns.map D.str) = true := by
  induction ns with
  | nil => simp [noLocs]
  | cons a ns ih => simp [noLocs, noLoc, ih]
theorem numbers_ok {m : Int} (hm : Big m) (many : Nat) (hk : many < 1000) (st : Sto) : ∃ ns : List Int, fn_law_numbers [.int m, .int many] st = .ok (.lst (ns.map D.int)) st ∧ ns.length = many ∧ (∀ n ∈ ns, 1 ≤ n ∧ n ≤ 999) ∧ (many ≤ 20 → ns.Nodup) := by
  obtain ⟨s, hs, e⟩ := pickE D.int (as := [1, 2, 500, 7]) (i := m % 4) st (Int.emod_nonneg _ (by decide)) (by have := Int.emod_lt_of_pos m (show (0 : Int) < 4 by decide); simpa using this)
  have hs2 : 0 ≤ s ∧ s ≤ 500 := by
    simp only [List.mem_cons, List.mem_nil_iff, or_false] at hs
    omega
  have hm2 := (hm.div 4).2
  have hm3 := (hm.div 4).1
  refine ⟨(List.range many).map fun (k : Nat) => (m / 4 + (k : Int) * s) % 999 + 1, Fn.clean_same ?_ ?_, by simp, ?_, fun h20 => ?_⟩
  · have hc : compL (tgN 3) dYes b_law_numbers_c1 [some (.int m), some (.int many), some (.int s), none] (rngD many) st = .ok ((List.range many).map fun (k : Nat) => D.int ((m / 4 + (k : Int) * s) % 999 + 1)) st := by
      refine compL_map (fun (k : Nat) => D.int (k : Int)) _ _ fun k hk2 => ?_
      have hk3 := List.mem_range.mp hk2
      have h1 : divI (.int m) (.int 4) st = .ok (.int (m / 4)) st := divI_small (by decide) (by decide)
      have h2 : mulD (.int (k : Int)) (.int s) st = .ok (.int ((k : Int) * s)) st := mulD_small (by omega) (by omega)
      simp [b_law_numbers_c1, h1, h2]
    have hr : asR (.int (many : Int)) st = .ok (rngD many) st := by rw [asR_ok (by omega) (by omega)]; simp
    have e' : ixD (.lst [.int 1, .int 2, .int 500, .int 7]) (.int (m % 4)) st = .ok (.int s) st := e
    simp only [b_law_numbers, runF_def]
    simp [e']
    rw [dComp_of (ds := rngD many) (st1 := st) (by simp [hr]) hc (by simp; omega)]
    simp
  · unfold noLoc; exact noLocs_ints _ _
  · intro n hn
    obtain ⟨k, _, rfl⟩ := List.mem_map.mp hn
    have := Int.emod_nonneg (m / 4 + (k : Int) * s) (show (999 : Int) ≠ 0 by decide)
    have := Int.emod_lt_of_pos (m / 4 + (k : Int) * s) (show (0 : Int) < 999 by decide)
    omega
  · rw [List.Nodup, List.pairwise_map]
    refine List.Pairwise.imp_of_mem ?_ (List.nodup_range (n := many))
    intro a b ha hb hne heq
    have ha2 := List.mem_range.mp ha
    have hb2 := List.mem_range.mp hb
    generalize m / 4 = x at *
    simp only [List.mem_cons, List.mem_nil_iff, or_false] at hs
    rcases hs with rfl | rfl | rfl | rfl <;> omega
theorem bits_ok {m : Int} (hm : Big m) (many : Nat) (hk : many ≤ 16) (st : Sto) : ∃ s : Str, fn_law_bits [.int m, .int many] st = .ok (.str s) st ∧ Bit many s ∧ s.length = many := by
  let c : Nat → Nat := fun k => 48 + (m / 2 ^ k % 2).toNat
  have hc01 : ∀ k, c k = 48 ∨ c k = 49 := fun k => by
    have := Int.emod_nonneg (m / 2 ^ k) (show (2 : Int) ≠ 0 by decide)
    have := Int.emod_lt_of_pos (m / 2 ^ k) (show (0 : Int) < 2 by decide)
    show 48 + (m / 2 ^ k % 2).toNat = 48 ∨ 48 + (m / 2 ^ k % 2).toNat = 49
    omega
  let ss : List Str := (List.range many).map fun k => ⟨#[c k]⟩
  have hcomp : compL (tgN 2) dYes b_law_bits_c1 [some (.int m), some (.int many), none] (rngD many) st = .ok ((List.range many).map fun k => .str ⟨#[c k]⟩) st := by
    refine compL_map (fun (k : Nat) => D.int (k : Int)) _ _ fun k hk2 => ?_
    have hk3 := List.mem_range.mp hk2
    have h0 : shlI (.int 1) (.int (k : Int)) st = .ok (.int (2 ^ k)) st := by
      rw [shlI_int (by omega) (by omega) (by decide)]
      simp
    have h1 : divI (.int m) (.int (2 ^ k)) st = .ok (.int (m / 2 ^ k)) st := by
      have e2 : ((2 : Int) ^ k) = ((2 ^ k : Nat) : Int) := by simp
      rw [e2]
      exact divI_small (by have := Nat.two_pow_pos k; omega) (by
        have : 2 ^ k < 2 ^ 17 := Nat.pow_lt_pow_right (by decide) (by omega)
        rw [Int.natAbs_natCast]
        omega)
    have h2 : ixD (.str ("01" : Str)) (.int (m / 2 ^ k % 2)) st = .ok (.str ⟨#[c k]⟩) st := by
      have a1 := Int.emod_nonneg (m / 2 ^ k) (show (2 : Int) ≠ 0 by decide)
      have a2 := Int.emod_lt_of_pos (m / 2 ^ k) (show (0 : Int) < 2 by decide)
      have h3 : m / 2 ^ k % 2 = 0 ∨ m / 2 ^ k % 2 = 1 := by omega
      have hck : c k = 48 + (m / 2 ^ k % 2).toNat := rfl
      rcases h3 with h3 | h3
      · rw [hck, h3]; rfl
      · rw [hck, h3]; rfl
    simp [b_law_bits_c1, h0, h1, h2]
  have hr : asR (.int (many : Int)) st = .ok (rngD many) st := by rw [asR_ok (by omega) (by omega)]; simp
  have hlen : (Str.join ⟨#[]⟩ ss).cps.toList = (List.range many).map c := by
    rw [join_nil]
    show ((((List.range many).map fun k => (⟨#[c k]⟩ : Str))).map fun s => s.cps.toList).flatten = _
    rw [List.map_map]
    have : ∀ l : List Nat, ((l.map ((fun s : Str => s.cps.toList) ∘ fun k => (⟨#[c k]⟩ : Str)))).flatten = l.map c := fun l => by
      induction l with
      | nil => rfl
      | cons a l ih => rw [List.map_cons, List.flatten_cons, ih]; rfl
    exact this _
  refine ⟨Str.join ⟨#[]⟩ ss, Fn.clean_same ?_ rfl, ?_, ?_⟩
  · have hj : joinD (.str ("" : Str)) [.lst ((List.range many).map fun k => .str ⟨#[c k]⟩)] st = .ok (.str (Str.join ⟨#[]⟩ ss)) st := by
      have e1 : ((List.range many).map fun k => D.str ⟨#[c k]⟩) = ss.map D.str := by
        show _ = ((List.range many).map fun k => (⟨#[c k]⟩ : Str)).map D.str
        rw [List.map_map]; rfl
      rw [e1]
      show (match strs? (ss.map D.str) with
        | some ys => if (ys.map fun (z : Str) => z.length).sum + ys.length * Str.length "" ≤ 16777216 then Rs.ok (D.str (Str.join "" ys)) st else .bad
        | none => .bad) = _
      rw [strs?_map]
      dsimp only
      have e2 : (ss.map fun (z : Str) => z.length).sum ≤ 16 := by
        have : ∀ l : List Nat, (((l.map fun k => (⟨#[c k]⟩ : Str))).map fun (z : Str) => z.length).sum = l.length := fun l => by
          induction l with
          | nil => rfl
          | cons a l ih =>
            rw [List.map_cons, List.map_cons, List.sum_cons, ih, List.length_cons]
            show 1 + _ = _
            omega
        show ((((List.range many).map fun k => (⟨#[c k]⟩ : Str))).map fun (z : Str) => z.length).sum ≤ 16
        rw [this, List.length_range]
        exact hk
      have e3 : Str.length "" = 0 := by decide
      rw [if_pos (by rw [e3]; omega)]
      rfl
    simp only [b_law_bits, runF_def]
    simp [chkS, runL_cons]
    rw [dComp_of (ds := rngD many) (st1 := st) (by simp [hr]) hcomp (by simp; omega)]
    simp [hj]
  · refine ⟨by rw [str_len, hlen]; simp, fun x hx => ?_⟩
    rw [hlen] at hx
    obtain ⟨k, _, rfl⟩ := List.mem_map.mp hx
    exact hc01 k
  · rw [str_len, hlen]; simp

theorem noLoc_tup (n : Nat) (ds : List D) : noLoc n (.tup ds) = noLocs n ds := by simp [noLoc]
theorem noLoc_lst (n : Nat) (ds : List D) : noLoc n (.lst ds) = noLocs n ds := by simp [noLoc]
theorem prefixes_ok {m : Int} (hm : Big m) (st : Sto) : ∃ ps : List Str, fn_law_prefixes [.int m] st = .ok (.lst (ps.map D.str)) st ∧ ps.length = 7 ∧ (∀ p ∈ ps, Bit 16 p) ∧ ps.Nodup := by
  obtain ⟨s, hs, e⟩ := pickE D.int (as := [0, 3, 9, 12]) (i := m % 4) st (Int.emod_nonneg _ (by decide)) (by have := Int.emod_lt_of_pos m (show (0 : Int) < 4 by decide); simpa using this)
  obtain ⟨k, hk, hk2⟩ : ∃ k : Nat, s = (k : Int) ∧ k ≤ 12 := by
    simp only [List.mem_cons, List.mem_nil_iff, or_false] at hs
    exact ⟨s.toNat, by omega, by omega⟩
  subst hk
  obtain ⟨stem, e1, b1, l1⟩ := bits_ok (hm.div 32) k (by omega) st
  obtain ⟨more, e2, b2, l2⟩ := bits_ok (hm.div 65536) 16 (by omega) st
  have h1 : divI (.int m) (.int 32) st = .ok (.int (m / 32)) st := divI_small (by decide) (by decide)
  have h2 : divI (.int m) (.int 65536) st = .ok (.int (m / 65536)) st := divI_small (by decide) (by decide)
  let ts : List Str := ["", "0", "1", "00", "011", "10"]
  have ht : ∀ t ∈ ts, Bit 3 t := by
    intro t ht
    simp only [ts, List.mem_cons, List.mem_nil_iff, or_false] at ht
    rcases ht with rfl | rfl | rfl | rfl | rfl | rfl <;> exact ⟨by decide, by decide⟩
  have hc : compL (tgN 3) dYes b_law_prefixes_c1 [some (.int m), some (.str stem), none, none] (ts.map D.str) st = .ok (ts.map fun t => D.str (stem ++ t)) st := by
    refine compL_map D.str _ _ fun t htt => ?_
    have h3 : addD (.str stem) (.str t) st = .ok (.str (stem ++ t)) st := addD_str (by have := (ht t htt).1; have := b1.1; omega)
    simp [b_law_prefixes_c1, h3]
  have hd := dComp_of (vs := [3]) (src := dIterA (dLst [(dC (.str "")), (dC (.str "0")), (dC (.str "1")), (dC (.str "00")), (dC (.str "011")), (dC (.str "10"))])) (tg := tgN 3) (t := dYes) (f := b_law_prefixes_c1)
    (env := [some (.int m), some (.str stem), none, none]) (ds := ts.map D.str) (st := st) (st1 := st) (by simp [ts]) hc (by simp [ts])
  have h4 : addD (.str stem) (.str more) st = .ok (.str (stem ++ more)) st := addD_str (by have := b1.1; have := b2.1; omega)
  have h5 : addD (.str (stem ++ more)) (.str "0") st = .ok (.str (stem ++ more ++ "0")) st := addD_str (by
    have := b1.1; have := b2.1
    rw [str_app_len, show Str.length "0" = 1 by decide]; omega)
  have h6 : addD (.lst (ts.map fun t => D.str (stem ++ t))) (.lst [.str (cutS (stem ++ more ++ "0") none (some 16))]) st = .ok (.lst ((ts.map fun t => D.str (stem ++ t)) ++ [.str (cutS (stem ++ more ++ "0") none (some 16))])) st := addD_lst (by simp [ts])
  have e1' : fn_law_bits [.int (m / 32), .int (k : Int)] st = .ok (.str stem) st := e1
  have e2' : fn_law_bits [.int (m / 65536), .int 16] st = .ok (.str more) st := e2
  have e' : ixD (.lst [.int 0, .int 3, .int 9, .int 12]) (.int (m % 4)) st = .ok (.int (k : Int)) st := e
  have h7 : slD (.str (stem ++ more ++ "0")) none (some 16) st = .ok (.str (cutS (stem ++ more ++ "0") none (some 16))) st := rfl
  refine ⟨(ts.map fun t => stem ++ t) ++ [cutS (stem ++ more ++ "0") none (some 16)], Fn.clean_same ?_ ?_, by simp [ts], ?_, ?_⟩
  · have e3 : ((ts.map fun t => stem ++ t) ++ [cutS (stem ++ more ++ "0") none (some 16)]).map D.str = (ts.map fun t => D.str (stem ++ t)) ++ [.str (cutS (stem ++ more ++ "0") none (some 16))] := by simp [ts]
    rw [e3]
    simp only [b_law_prefixes, runF_def]
    simp [e', h1, h2, e1', e2', hd, h4, h5, h6, h7]
  · rw [noLoc_lst]; exact noLocs_strs _ _
  · intro p hp
    rcases List.mem_append.mp hp with hp | hp
    · obtain ⟨t, htt, rfl⟩ := List.mem_map.mp hp
      exact (b1.app (ht t htt)).mono (by omega)
    · rw [List.mem_singleton.mp hp]
      have b3 : Bit 1 ("0" : Str) := ⟨by decide, by decide⟩
      exact (((b1.app b2).app b3).cut (k := 16) (by decide)).mono (by omega)
  · have hi : ∀ a b : Str, stem ++ a = stem ++ b → a = b := fun a b h => by
      have h2 := congrArg (fun z : Str => z.cps.toList) h
      simp only [str_app_cps, Array.toList_append] at h2
      exact str_ext (List.append_cancel_left h2)
    rw [List.nodup_append]
    refine ⟨?_, List.nodup_cons.mpr ⟨by simp, List.nodup_nil⟩, ?_⟩
    · rw [List.Nodup, List.pairwise_map]
      have nd : ts.Nodup := by decide
      exact List.Pairwise.imp (fun hne h => hne (hi _ _ h)) nd
    · intro a ha b hb e
      rw [List.mem_singleton.mp hb] at e
      obtain ⟨t, htt, rfl⟩ := List.mem_map.mp ha
      have h8 := congrArg Str.length e
      have h9 : (cutS (stem ++ more ++ "0") none (some 16)).length = 16 := by
        rw [str_len, cutS_to _ (by decide), List.length_take, ← str_len, str_app_len, str_app_len]
        show min 16 _ = 16
        omega
      rw [h9, str_app_len] at h8
      have := (ht t htt).1
      omega
/-- tags: rising, from 1 to 99, four at most -/
def TagsOk (ts : List Int) : Prop := ts.Pairwise (· < ·) ∧ (∀ t ∈ ts, 1 ≤ t ∧ t ≤ 99) ∧ ts.length ≤ 4
theorem tags_ok {m : Int} (hm : Big m) (st : Sto) : ∃ ts : List Int, fn_law_tags [.int m] st = .ok (.tup (ts.map D.int)) st ∧ TagsOk ts := by
  have r : ∀ (a : Int) {b : Int}, 0 < b → 0 ≤ a % b ∧ a % b < b := fun a b h => ⟨Int.emod_nonneg _ (by omega), Int.emod_lt_of_pos _ h⟩
  have r1 := r (m / 8) (show (0 : Int) < 3 by decide)
  have r2 := r (m / 24) (show (0 : Int) < 90 by decide)
  have r3 := r (m / 2160) (show (0 : Int) < 3 by decide)
  have r4 := r (m / 6480) (show (0 : Int) < 2 by decide)
  have h1 : divI (.int m) (.int 8) st = .ok (.int (m / 8)) st := divI_small (by decide) (by decide)
  have h2 : divI (.int m) (.int 24) st = .ok (.int (m / 24)) st := divI_small (by decide) (by decide)
  have h3 : divI (.int m) (.int 2160) st = .ok (.int (m / 2160)) st := divI_small (by decide) (by decide)
  have h4 : divI (.int m) (.int 6480) st = .ok (.int (m / 6480)) st := divI_small (by decide) (by decide)
  generalize ha : 1 + m / 8 % 3 = a at *
  generalize hb : 4 + m / 24 % 90 = b at *
  generalize hc : 95 + m / 2160 % 3 = c at *
  generalize hd : 98 + m / 6480 % 2 = d at *
  let f : Nat → Int := fun k => ([a, b, c, d] : List Int).getD k 0
  let p : Nat → Bool := fun k => m / 2 ^ k % 2 == 1
  have hcomp : compL (tgN 2) b_law_tags_t1 b_law_tags_c1 [some (.int m), some (.lst [.int a, .int b, .int c, .int d]), none] (rngD 4) st = .ok (((List.range 4).filter p).map fun k => D.int (f k)) st := by
    refine compL_filter (fun (k : Nat) => D.int (k : Int)) p _ _ (fun k hk2 => ?_) fun k hk2 _ => ?_
    · have hk3 := List.mem_range.mp hk2
      have h0 : shlI (.int 1) (.int (k : Int)) st = .ok (.int (2 ^ k)) st := by
        rw [shlI_int (by omega) (by omega) (by decide)]
        simp
      have h1 : divI (.int m) (.int (2 ^ k)) st = .ok (.int (m / 2 ^ k)) st := by
        have e2 : ((2 : Int) ^ k) = ((2 ^ k : Nat) : Int) := by simp
        rw [e2]
        exact divI_small (by have := Nat.two_pow_pos k; omega) (by
          have : 2 ^ k < 2 ^ 17 := Nat.pow_lt_pow_right (by decide) (by omega)
          rw [Int.natAbs_natCast]
          omega)
      simp [b_law_tags_t1, h0, h1, p]
    · have hk3 := List.mem_range.mp hk2
      have h5 : ixD (.lst [.int a, .int b, .int c, .int d]) (.int (k : Int)) st = .ok (.int (f k)) st := ixD_lst (by
        rw [atI_nat' _ (by simpa using hk3)]
        have : k = 0 ∨ k = 1 ∨ k = 2 ∨ k = 3 := by omega
        rcases this with rfl | rfl | rfl | rfl <;> rfl)
      simp [b_law_tags_c1, h5]
  have hdd := dComp_of (vs := [2]) (src := dIterR (dC (.int 4))) (tg := tgN 2) (t := b_law_tags_t1) (f := b_law_tags_c1)
    (env := [some (.int m), some (.lst [.int a, .int b, .int c, .int d]), none]) (ds := rngD 4) (st := st) (st1 := st) (by simp) hcomp (by
      rw [List.length_map]
      exact Nat.le_trans (List.length_filter_le _ _) (by simp))
  have sub : (((List.range 4).filter p).map f).Sublist [a, b, c, d] := (List.filter_sublist (l := List.range 4) (p := p)).map f
  refine ⟨((List.range 4).filter p).map f, Fn.clean_same ?_ ?_, ?_, ?_, ?_⟩
  · simp only [b_law_tags, runF_def]
    simp [h1, h2, h3, h4, ha, hb, hc, hd, hdd, tuple_lst]
  · rw [noLoc_tup]; exact noLocs_ints _ _
  · refine List.Pairwise.sublist sub ?_
    simp
    omega
  · intro t ht
    have := sub.subset ht
    simp only [List.mem_cons, List.mem_nil_iff, or_false] at this
    omega
  · exact Nat.le_trans sub.length_le (by simp)

/-! ### routes, rules -/
structure RouteS where
  pfx : Str
  path : List Int
  weight : Int
  tags : List Int
def RouteS.enc (r : RouteS) : D := .tup [.str r.pfx, .tup (r.path.map D.int), .int r.weight, .tup (r.tags.map D.int)]
structure RouteOk (r : RouteS) : Prop where
  pfx : Bit 16 r.pfx
  path : r.path ≠ [] ∧ r.path.length ≤ 12 ∧ ∀ n ∈ r.path, 1 ≤ n ∧ n ≤ 999
  weight : 0 ≤ r.weight ∧ r.weight ≤ 1000
  tags : TagsOk r.tags
theorem route_noLoc (n : Nat) (r : RouteS) : noLoc n r.enc = true := by
  unfold RouteS.enc
  rw [noLoc_tup]
  simp [noLocs, noLoc, noLocs_ints]
theorem mod_lt {a b : Int} (h : 0 < b) : 0 ≤ a % b ∧ a % b < b := ⟨Int.emod_nonneg _ (by omega), Int.emod_lt_of_pos _ h⟩
theorem route_ok0 {m : Int} (hm : Big m) {ps : List Str} (hp : ps ≠ []) (hpl : ps.length < 1000) (f : Int) {ss : List Int} (hs : ss ≠ []) (hsl : ss.length < 1000) (st : Sto) :
    ∃ r : RouteS, fn_law_route [.int m, .lst (ps.map D.str), .int f, .lst (ss.map D.int)] st = .ok r.enc st ∧ r.pfx ∈ ps ∧ (∃ t, r.path = f :: t ∧ t.length ≤ 11 ∧ ∀ n ∈ t, n ∈ ss) ∧ (0 ≤ r.weight ∧ r.weight ≤ 1000) ∧ TagsOk r.tags := by
  have hl0 : 0 < ss.length := List.length_pos_iff.mpr hs
  have hp0 : 0 < ps.length := List.length_pos_iff.mpr hp
  -- how many behind the first
  obtain ⟨c, hc, e⟩ := pickE D.int (as := [m % 3, m % 5, 11]) (i := m / 16 % 3) st (mod_lt (by decide)).1 (by have := (mod_lt (a := m / 16) (show (0 : Int) < 3 by decide)).2; simpa using this)
  obtain ⟨k, hk, hk2⟩ : ∃ k : Nat, c = (k : Int) ∧ k ≤ 11 := by
    have a1 := mod_lt (a := m) (show (0 : Int) < 3 by decide)
    have a2 := mod_lt (a := m) (show (0 : Int) < 5 by decide)
    simp only [List.mem_cons, List.mem_nil_iff, or_false] at hc
    exact ⟨c.toNat, by omega, by omega⟩
  subst hk
  have e' : ixD (.lst [.int (m % 3), .int (m % 5), .int 11]) (.int (m / 16 % 3)) (st ++ [.lst [.int f]]) = .ok (.int (k : Int)) (st ++ [.lst [.int f]]) := by
    obtain ⟨d, hd, ed⟩ := pick (ds := [D.int (m % 3), D.int (m % 5), D.int 11]) (i := m / 16 % 3) (st ++ [.lst [.int f]]) (mod_lt (by decide)).1 (by have := (mod_lt (a := m / 16) (show (0 : Int) < 3 by decide)).2; simpa using this)
    have e0 : ixD (.lst [.int (m % 3), .int (m % 5), .int 11]) (.int (m / 16 % 3)) st = .ok (.int (k : Int)) st := e
    have : ∀ (o : Option D) , (match o with
      | some d => Rs.ok d st
      | none => Rs.bad) = .ok (.int (k : Int)) st → o = some (.int (k : Int)) := fun o h => by
      cases o with
      | none => cases h
      | some d => cases h; rfl
    exact ixD_lst (this _ e0)
  have hr : ∀ st, asR (.int (k : Int)) st = .ok (rngD k) st := fun st => by rw [asR_ok (by omega) (by omega)]; simp
  -- the path
  obtain ⟨en, sn, el, x, tl, rfl, rfl, hpl1, hpl2⟩ := loopN_inv (i := 5) (b := b_law_route_l1) (fun (j : Nat) => D.int (j : Int)) (fun j env st' => ∃ (x : Option D) (tl : List Int), env = [some (.int m), some (.lst (ps.map D.str)), some (.int f), some (.lst (ss.map D.int)), some (.loc st.length), x, none] ∧
      st' = st ++ [.lst ((f :: tl).map D.int)] ∧ tl.length = j ∧ ∀ n ∈ tl, n ∈ ss) (List.range k) 0 [some (.int m), some (.lst (ps.map D.str)), some (.int f), some (.lst (ss.map D.int)), some (.loc st.length), none, none] (st ++ [.lst [.int f]])
      ⟨none, [], rfl, rfl, rfl, fun n hn => by cases hn⟩ (by
    rintro j a env st' ha ⟨x, tl, rfl, rfl, hpl1, hpl2⟩
    generalize hpt : f :: tl = path
    have hpl : path.length = j + 1 := by rw [← hpt]; simp; omega
    have hj := (List.getElem?_eq_some_iff.mp ha).1
    rw [List.length_range] at hj
    have ea : a = j := by
      have := (List.getElem?_eq_some_iff.mp ha).2
      rw [List.getElem_range] at this
      exact this.symm
    subst ea
    have h1 : mulD (.int 13) (.int (a : Int)) (st ++ [.lst (path.map D.int)]) = .ok (.int (13 * (a : Int))) (st ++ [.lst (path.map D.int)]) := mulD_small (by decide) (by omega)
    have h2 : divI (.int m) (.int (64 + 13 * (a : Int))) (st ++ [.lst (path.map D.int)]) = .ok (.int (m / (64 + 13 * (a : Int)))) (st ++ [.lst (path.map D.int)]) := divI_small (by omega) (by omega)
    generalize m / (64 + 13 * (a : Int)) = q at *
    have h3 : modI (.int q) (.int (ss.length : Int)) (st ++ [.lst (path.map D.int)]) = .ok (.int (q % (ss.length : Int))) (st ++ [.lst (path.map D.int)]) := modI_int (by omega)
    have hq := mod_lt (a := q) (show (0 : Int) < (ss.length : Int) by omega)
    obtain ⟨n, hn, h4⟩ := pickE D.int (as := ss) (i := q % (ss.length : Int)) (st ++ [.lst (path.map D.int)]) hq.1 hq.2
    refine ⟨[some (.int m), some (.lst (ps.map D.str)), some (.int f), some (.lst (ss.map D.int)), some (.loc st.length), some (.int (a : Int)), none], st ++ [.lst ((path ++ [n]).map D.int)], ?_, some (.int (a : Int)), tl ++ [n], rfl, by rw [← hpt]; rfl, by simp; omega, fun z hz => ?_⟩
    · have h5 := append_new (st := st) (xs := path.map D.int) (.int n) (by simp; omega)
      have h6 := chkL_new st (path.map D.int)
      simp [b_law_route_l1, h1, h2, len_lst, h3, h4, h5, h6]
    · rcases List.mem_append.mp hz with hz | hz
      · exact hpl2 z hz
      · rw [List.mem_singleton.mp hz]; exact hn)
  rw [Nat.zero_add, List.length_range] at hpl1
  generalize hpt : f :: tl = path at *
  -- what else stands in it
  generalize hst : st ++ [Ob.lst (path.map D.int)] = st2 at *
  have b1 := mod_lt (a := m / 4096) (show (0 : Int) < 3 by decide)
  have b2 := mod_lt (a := m / 16384) (show (0 : Int) < 3 by decide)
  obtain ⟨w, hw, ew⟩ := pickE D.int (as := [0, m / 4096 % 3, 1000]) (i := m / 16384 % 3) st2 b2.1 (by simpa using b2.2)
  have ew' : ixD (.lst [.int 0, .int (m / 4096 % 3), .int 1000]) (.int (m / 16384 % 3)) st2 = .ok (.int w) st2 := ew
  have hw2 : 0 ≤ w ∧ w ≤ 1000 := by
    simp only [List.mem_cons, List.mem_nil_iff, or_false] at hw
    omega
  have b3 := mod_lt (a := m / 65536) (show (0 : Int) < (ps.length : Int) by omega)
  obtain ⟨p, hpm, ep⟩ := pickE D.str (as := ps) (i := m / 65536 % (ps.length : Int)) st2 b3.1 b3.2
  obtain ⟨ts, et, ht⟩ := tags_ok (hm.div 16777216) st2
  have et' : fn_law_tags [.int (m / 16777216)] st2 = .ok (.tup (ts.map D.int)) st2 := et
  have d1 : divI (.int m) (.int 16) (st ++ [.lst [.int f]]) = .ok (.int (m / 16)) (st ++ [.lst [.int f]]) := divI_small (by decide) (by decide)
  have d2 : divI (.int m) (.int 4096) st2 = .ok (.int (m / 4096)) st2 := divI_small (by decide) (by decide)
  have d3 : divI (.int m) (.int 16384) st2 = .ok (.int (m / 16384)) st2 := divI_small (by decide) (by decide)
  have d4 : divI (.int m) (.int 65536) st2 = .ok (.int (m / 65536)) st2 := divI_small (by decide) (by decide)
  have d5 : divI (.int m) (.int 16777216) st2 = .ok (.int (m / 16777216)) st2 := divI_small (by decide) (by decide)
  have d6 : modI (.int (m / 65536)) (.int (ps.length : Int)) st2 = .ok (.int (m / 65536 % (ps.length : Int))) st2 := modI_int (by omega)
  have d7 : tupleD [.loc st.length] st2 = .ok (.tup (path.map D.int)) st2 := by rw [← hst]; exact tuple_new st _
  have el' : loopL (tgN 5) b_law_route_l1 (rngD k) [some (.int m), some (.lst (ps.map D.str)), some (.int f), some (.lst (ss.map D.int)), some (.loc st.length), none, none] (st ++ [.lst [.int f]]) = .nx [some (.int m), some (.lst (ps.map D.str)), some (.int f), some (.lst (ss.map D.int)), some (.loc st.length), x, none] st2 := el
  refine ⟨⟨p, path, w, ts⟩, Fn.clean_ok (d := (RouteS.mk p path w ts).enc) (ext := [.lst (path.map D.int)]) ?_ (thaw_self (route_noLoc _ _)), hpm, ⟨tl, hpt.symm, by omega, hpl2⟩, hw2, ht⟩
  rw [hst]
  simp only [b_law_route, runF_def]
  simp [d1, e', hr, el', d2, d3, d4, d5, d6, d7, ew', ep, et', len_lst, RouteS.enc]

theorem route_ok {m : Int} (hm : Big m) {ps : List Str} (hp : ps ≠ []) (hps : ∀ p ∈ ps, Bit 16 p) (hpl : ps.length < 1000) {f : Int} (hf : 1 ≤ f ∧ f ≤ 999) {ss : List Int} (hs : ss ≠ []) (hss : ∀ n ∈ ss, 1 ≤ n ∧ n ≤ 999) (hsl : ss.length < 1000) (st : Sto) :
    ∃ r : RouteS, fn_law_route [.int m, .lst (ps.map D.str), .int f, .lst (ss.map D.int)] st = .ok r.enc st ∧ RouteOk r ∧ r.pfx ∈ ps ∧ r.path.head? = some f := by
  obtain ⟨r, e, h1, ⟨t, h2, h3, h4⟩, h5, h6⟩ := route_ok0 hm hp hpl f hs hsl st
  refine ⟨r, e, ⟨hps _ h1, ⟨by rw [h2]; simp, by rw [h2]; simp; omega, fun n hn => ?_⟩, h5, h6⟩, h1, by rw [h2]; rfl⟩
  rw [h2] at hn
  rcases List.mem_cons.mp hn with rfl | hn
  · exact hf
  · exact hss n (h4 n hn)
def optD : Option Int → D
  | none => .non
  | some i => .int i
structure RuleS where
  pfx : Str
  longest : Int
  number : Int
  tag : Int
  deed : Str
  prefer : Option Int
  more : Int
  less : Int
  ahead : Int
def RuleS.enc (r : RuleS) : D := .tup [.str r.pfx, .int r.longest, .int r.number, .int r.tag, .str r.deed, optD r.prefer, .int r.more, .int r.less, .int r.ahead]
structure RuleOk (r : RuleS) : Prop where
  pfx : Bit 16 r.pfx
  longest : (r.pfx.length : Int) ≤ r.longest ∧ r.longest ≤ 16
  number : r.number = 0 ∨ 1 ≤ r.number ∧ r.number ≤ 999
  tag : 0 ≤ r.tag ∧ r.tag ≤ 3
  deed : r.deed = "no" ∨ r.deed = "yes" ∨ r.deed = "on"
  prefer : ∀ i, r.prefer = some i → 0 ≤ i ∧ i ≤ 1000
  more : r.more = 0 ∨ r.more = 1 ∨ r.more = 2 ∨ r.more = 99
  less : r.less = 0 ∨ r.less = 1 ∨ r.less = 3
  ahead : 0 ≤ r.ahead ∧ r.ahead ≤ 3
theorem optD_noLoc (n : Nat) (o : Option Int) : noLoc n (optD o) = true := by
  cases o <;> simp [optD, noLoc]
theorem rule_noLoc (n : Nat) (r : RuleS) : noLoc n r.enc = true := by
  unfold RuleS.enc
  rw [noLoc_tup]
  simp [noLocs, noLoc, optD_noLoc]
theorem rule_ok {m : Int} (hm : Big m) {ps : List Str} (hp : ps ≠ []) (hps : ∀ p ∈ ps, Bit 16 p) (hpl : ps.length < 1000) {ss : List Int} (hs : ss ≠ []) (hss : ∀ n ∈ ss, 1 ≤ n ∧ n ≤ 999) (hsl : ss.length < 1000) (st : Sto) :
    ∃ r : RuleS, fn_law_rule [.int m, .lst (ps.map D.str), .lst (ss.map D.int)] st = .ok r.enc st ∧ RuleOk r := by
  have hl0 : 0 < ss.length := List.length_pos_iff.mpr hs
  have hp0 : 0 < ps.length := List.length_pos_iff.mpr hp
  have dv : ∀ (j : Int), 0 < j → j.natAbs < 2 ^ 200 → divI (.int m) (.int j) st = .ok (.int (m / j)) st := fun j h1 h2 => divI_small h1 h2
  have d8 := dv 8 (by decide) (by decide)
  have d24 := dv 24 (by decide) (by decide)
  have d72 := dv 72 (by decide) (by decide)
  have d288 := dv 288 (by decide) (by decide)
  have d4096 := dv 4096 (by decide) (by decide)
  have d1024 := dv 1024 (by decide) (by decide)
  have d65536 := dv 65536 (by decide) (by decide)
  have d16384 := dv 16384 (by decide) (by decide)
  have d20 := dv 1048576 (by decide) (by decide)
  have d24' := dv 16777216 (by decide) (by decide)
  have d22 := dv 4194304 (by decide) (by decide)
  have d36 := dv 68719476736 (by decide) (by decide)
  have e4 : divI (.int (m / 68719476736)) (.int 4) st = .ok (.int (m / 68719476736 / 4)) st := divI_small (by decide) (by decide)
  have e12 : divI (.int (m / 68719476736)) (.int 12) st = .ok (.int (m / 68719476736 / 12)) st := divI_small (by decide) (by decide)
  have mp : modI (.int m) (.int (ps.length : Int)) st = .ok (.int (m % (ps.length : Int))) st := modI_int (by omega)
  have ms : modI (.int (m / 4096)) (.int (ss.length : Int)) st = .ok (.int (m / 4096 % (ss.length : Int))) st := modI_int (by omega)
  -- what it begins with
  have b0 := mod_lt (a := m) (show (0 : Int) < (ps.length : Int) by omega)
  obtain ⟨p0, hp0m, ep0⟩ := pickE D.str (as := ps) (i := m % (ps.length : Int)) st b0.1 b0.2
  have bp0 := hps p0 hp0m
  have b1 := mod_lt (a := m / 24) (show (0 : Int) < 3 by decide)
  have b1' := mod_lt (a := m / 8) (show (0 : Int) < 3 by decide)
  have cutp : slD (.str p0) none (some (m / 24 % 3)) st = .ok (.str (cutS p0 none (some (m / 24 % 3)))) st := rfl
  -- the number, the tag, the deed, the preference
  have b2 := mod_lt (a := m / 4096) (show (0 : Int) < (ss.length : Int) by omega)
  obtain ⟨n0, hn0, en0⟩ := pickE D.int (as := ss) (i := m / 4096 % (ss.length : Int)) st b2.1 b2.2
  have b3 := mod_lt (a := m / 1024) (show (0 : Int) < 3 by decide)
  obtain ⟨n, hn, en⟩ := pickE D.int (as := [0, 0, n0]) (i := m / 1024 % 3) st b3.1 (by simpa using b3.2)
  have en' : ixD (.lst [.int 0, .int 0, .int n0]) (.int (m / 1024 % 3)) st = .ok (.int n) st := en
  have b4 := mod_lt (a := m / 65536) (show (0 : Int) < 3 by decide)
  have b5 := mod_lt (a := m / 16384) (show (0 : Int) < 3 by decide)
  obtain ⟨t, ht, et⟩ := pickE D.int (as := [0, 0, 1 + m / 65536 % 3]) (i := m / 16384 % 3) st b5.1 (by simpa using b5.2)
  have et' : ixD (.lst [.int 0, .int 0, .int (1 + m / 65536 % 3)]) (.int (m / 16384 % 3)) st = .ok (.int t) st := et
  have b6 := mod_lt (a := m / 1048576) (show (0 : Int) < 4 by decide)
  obtain ⟨dd, hdd, edd⟩ := pickE D.str (as := ["no", "yes", "on", "on"]) (i := m / 1048576 % 4) st b6.1 (by simpa using b6.2)
  have edd' : ixD (.lst [.str "no", .str "yes", .str "on", .str "on"]) (.int (m / 1048576 % 4)) st = .ok (.str dd) st := edd
  have b7 := mod_lt (a := m / 16777216) (show (0 : Int) < 1001 by decide)
  have b8 := mod_lt (a := m / 4194304) (show (0 : Int) < 4 by decide)
  obtain ⟨pr, hpr, epr⟩ := pickE optD (as := [none, some 100, some (m / 16777216 % 1001), some 200]) (i := m / 4194304 % 4) st b8.1 (by simpa using b8.2)
  have epr' : ixD (.lst [.non, .int 100, .int (m / 16777216 % 1001), .int 200]) (.int (m / 4194304 % 4)) st = .ok (optD pr) st := epr
  generalize hq : m / 68719476736 = q at *
  have b9 := mod_lt (a := q) (show (0 : Int) < 4 by decide)
  obtain ⟨mo, hmo, emo⟩ := pickE D.int (as := [0, 1, 2, 99]) (i := q % 4) st b9.1 (by simpa using b9.2)
  have emo' : ixD (.lst [.int 0, .int 1, .int 2, .int 99]) (.int (q % 4)) st = .ok (.int mo) st := emo
  have b10 := mod_lt (a := q / 4) (show (0 : Int) < 3 by decide)
  obtain ⟨le, hle, ele⟩ := pickE D.int (as := [0, 1, 3]) (i := q / 4 % 3) st b10.1 (by simpa using b10.2)
  have ele' : ixD (.lst [.int 0, .int 1, .int 3]) (.int (q / 4 % 3)) st = .ok (.int le) st := ele
  have b11 := mod_lt (a := q / 12) (show (0 : Int) < 4 by decide)
  have b12 := mod_lt (a := m / 288) (show (0 : Int) < 3 by decide)
  have b13 := mod_lt (a := m / 72) (show (0 : Int) < 4 by decide)
  obtain ⟨p, bp, hcase⟩ : ∃ p : Str, Bit 16 p ∧ ((0 < m / 8 % 3 ∧ p = cutS p0 none (some (m / 24 % 3))) ∨ (¬ 0 < m / 8 % 3 ∧ p = p0)) := by
    by_cases h : 0 < m / 8 % 3
    · exact ⟨_, (bp0.cut b1.1).mono (by omega), .inl ⟨h, rfl⟩⟩
    · exact ⟨_, bp0, .inr ⟨h, rfl⟩⟩
  have bpl := bp.1
  obtain ⟨lo, hlo, elo⟩ := pickE D.int (as := [16, (p.length : Int) + m / 72 % 4, 16]) (i := m / 288 % 3) st b12.1 (by simpa using b12.2)
  have elo' : ixD (.lst [.int 16, .int ((p.length : Int) + m / 72 % 4), .int 16]) (.int (m / 288 % 3)) st = .ok (.int lo) st := elo
  refine ⟨⟨p, if (16 : Int) < lo then 16 else lo, n, t, dd, pr, mo, le, q / 12 % 4⟩, Fn.clean_same ?_ (rule_noLoc _ _), ?_⟩
  · simp only [b_law_rule, b_law_rule_i1, runF_def, dIfS_def]
    rcases hcase with ⟨h1, h2⟩ | ⟨h1, h2⟩
    · subst h2
      simp [len_lst, len_str, mp, ep0, d8, h1, d24, cutp, d72, d288, elo', d4096, d1024, ms, en0, en', d65536, d16384, et', d20, edd', d24', d22, epr', d36, min2D, emo', e4, ele', e12, RuleS.enc]
    · subst h2
      simp [len_lst, len_str, mp, ep0, d8, h1, d24, cutp, d72, d288, elo', d4096, d1024, ms, en0, en', d65536, d16384, et', d20, edd', d24', d22, epr', d36, min2D, emo', e4, ele', e12, RuleS.enc]
  · simp only [List.mem_cons, List.mem_nil_iff, or_false] at hn ht hdd hpr hmo hle hlo
    refine ⟨bp, ?_, ?_, ?_, ?_, ?_, ?_, ?_, ?_⟩
    · show (p.length : Int) ≤ (if (16 : Int) < lo then 16 else lo) ∧ (if (16 : Int) < lo then 16 else lo) ≤ 16
      split <;> omega
    · have := hss n0 hn0
      show n = 0 ∨ 1 ≤ n ∧ n ≤ 999
      omega
    · show 0 ≤ t ∧ t ≤ 3
      omega
    · show dd = _ ∨ dd = _ ∨ dd = _
      rcases hdd with h | h | h | h
      · exact .inl h
      · exact .inr (.inl h)
      · exact .inr (.inr h)
      · exact .inr (.inr h)
    · intro i hi
      have hi' : pr = some i := hi
      subst hi'
      rcases hpr with h | h | h | h
      · cases h
      · cases h; decide
      · cases h; omega
      · cases h; decide
    · show mo = 0 ∨ mo = 1 ∨ mo = 2 ∨ mo = 99
      exact hmo
    · show le = 0 ∨ le = 1 ∨ le = 3
      exact hle
    · show 0 ≤ q / 12 % 4 ∧ q / 12 % 4 ≤ 3
      omega

/-! ### what fits -/
section
variable (r : RuleS) (q : RouteS) (st : Sto)
@[simp] theorem rule_0 : ixD r.enc (.int 0) st = .ok (.str r.pfx) st := nrfl rfl
@[simp] theorem rule_1 : ixD r.enc (.int 1) st = .ok (.int r.longest) st := nrfl rfl
@[simp] theorem rule_2 : ixD r.enc (.int 2) st = .ok (.int r.number) st := nrfl rfl
@[simp] theorem rule_3 : ixD r.enc (.int 3) st = .ok (.int r.tag) st := nrfl rfl
@[simp] theorem rule_4 : ixD r.enc (.int 4) st = .ok (.str r.deed) st := nrfl rfl
@[simp] theorem rule_5 : ixD r.enc (.int 5) st = .ok (optD r.prefer) st := nrfl rfl
@[simp] theorem rule_6 : ixD r.enc (.int 6) st = .ok (.int r.more) st := nrfl rfl
@[simp] theorem rule_7 : ixD r.enc (.int 7) st = .ok (.int r.less) st := nrfl rfl
@[simp] theorem rule_8 : ixD r.enc (.int 8) st = .ok (.int r.ahead) st := nrfl rfl
@[simp] theorem route_0 : ixD q.enc (.int 0) st = .ok (.str q.pfx) st := nrfl rfl
@[simp] theorem route_1 : ixD q.enc (.int 1) st = .ok (.tup (q.path.map D.int)) st := nrfl rfl
@[simp] theorem route_2 : ixD q.enc (.int 2) st = .ok (.int q.weight) st := nrfl rfl
@[simp] theorem route_3 : ixD q.enc (.int 3) st = .ok (.tup (q.tags.map D.int)) st := nrfl rfl
end
theorem flat_ints (ns : List Int) : (ns.map D.int).all flatD = true := by
  rw [List.all_map]; exact List.all_eq_true.mpr fun _ _ => rfl
/-- n is one of ns -/
def memB (n : Int) (ns : List Int) : Bool := ns.contains n
theorem any_ints (n : Int) (ns : List Int) : ((ns.map D.int).any fun d => eqFlat d (.int n)) = memB n ns := by
  rw [List.any_map]
  unfold memB
  induction ns with
  | nil => rfl
  | cons a ns ih =>
    rw [List.any_cons, List.contains_cons, ih]
    show ((a == n) || _) = _
    rw [show (a == n) = (n == a) from Bool.eq_iff_iff.mpr ⟨fun h => beq_iff_eq.mpr (beq_iff_eq.mp h).symm, fun h => beq_iff_eq.mpr (beq_iff_eq.mp h).symm⟩]
theorem in_tup (n : Int) (ns : List Int) (st : Sto) : inD (.int n) (.tup (ns.map D.int)) st = .ok (.bl (memB n ns)) st := by
  show (match (if flatD (.int n) = true ∧ (ns.map D.int).all flatD = true then some ((ns.map D.int).any fun d => eqFlat d (.int n)) else none) with
    | some b => Rs.ok (D.bl b) st
    | none => Rs.bad) = _
  rw [if_pos ⟨rfl, flat_ints ns⟩, any_ints]
theorem in_lst (n : Int) (ns : List Int) (st : Sto) : inD (.int n) (.lst (ns.map D.int)) st = .ok (.bl (memB n ns)) st := by
  show (match (if flatD (.int n) = true ∧ (ns.map D.int).all flatD = true then some ((ns.map D.int).any fun d => eqFlat d (.int n)) else none) with
    | some b => Rs.ok (D.bl b) st
    | none => Rs.bad) = _
  rw [if_pos ⟨rfl, flat_ints ns⟩, any_ints]
theorem notIn_lst (n : Int) (ns : List Int) (st : Sto) : notInD (.int n) (.lst (ns.map D.int)) st = .ok (.bl (!memB n ns)) st := by
  show (match (if flatD (.int n) = true ∧ (ns.map D.int).all flatD = true then some ((ns.map D.int).any fun d => eqFlat d (.int n)) else none) with
    | some b => Rs.ok (D.bl (!b)) st
    | none => Rs.bad) = _
  rw [if_pos ⟨rfl, flat_ints ns⟩, any_ints]
theorem notIn_new (n : Int) (ns : List Int) (st : Sto) : notInD (.int n) (.loc st.length) (st ++ [.lst (ns.map D.int)]) = .ok (.bl (!memB n ns)) (st ++ [.lst (ns.map D.int)]) := by
  have e : inB (.int n) (.loc st.length) (st ++ [.lst (ns.map D.int)]) = some (memB n ns) := by
    unfold inB
    dsimp only
    rw [get_new]
    dsimp only
    rw [if_pos ⟨rfl, flat_ints ns⟩, any_ints]
  unfold notInD
  rw [e]
def fitsB (r : RuleS) (q : RouteS) : Bool := Txt.startswith q.pfx r.pfx && !decide (r.longest < (q.pfx.length : Int)) && (r.number == 0 || memB r.number q.path) && (r.tag == 0 || memB r.tag q.tags)
theorem fits_ok (r : RuleS) (q : RouteS) (st : Sto) : fn_fits [r.enc, q.enc] st = .ok (.bl (fitsB r q)) st := by
  refine Fn.clean_same ?_ rfl
  have h1 : startsD (.str q.pfx) [.str r.pfx] st = .ok (.bl (Txt.startswith q.pfx r.pfx)) st := nrfl rfl
  simp only [b_fits, b_fits_i1, runF_def, dIfS_def]
  unfold fitsB
  cases e1 : Txt.startswith q.pfx r.pfx <;> cases e2 : decide (r.longest < (q.pfx.length : Int)) <;> cases e3 : (r.number == 0) <;> cases e4 : (r.tag == 0) <;> cases e5 : memB r.number q.path <;>
    simp [chkS, h1, e1, e2, e3, e4, e5, len_str, in_tup]
end DL

namespace DL
open PySem PySem.Spec PyProof.Rows L2
/-! ### sorted numbers -/
def srt (ns : List Int) : List Int := ns.mergeSort fun a b => decide (a ≤ b)
theorem srt_perm (ns : List Int) : (srt ns).Perm ns := List.mergeSort_perm _ _
theorem srt_sorted (ns : List Int) : (srt ns).Pairwise (· ≤ ·) := by
  have h := List.pairwise_mergeSort (le := fun a b : Int => decide (a ≤ b)) (fun a b c h1 h2 => by simp at *; omega) (fun a b => by simp; omega) ns
  exact h.imp fun h => by simpa using h
theorem sorted_one : ∀ {l m : List Int}, l.Perm m → l.Pairwise (· ≤ ·) → m.Pairwise (· ≤ ·) → l = m
  | [], m, p, _, _ => (List.Perm.nil_eq p)
  | a :: l, [], p, _, _ => by cases p.length_eq
  | a :: l, b :: m, p, hl, hm => by
    have h1 : a ≤ b := by
      rcases List.mem_cons.mp (p.symm.subset (List.mem_cons_self (a := b))) with h | h
      · omega
      · exact (List.pairwise_cons.mp hl).1 b h
    have h2 : b ≤ a := by
      rcases List.mem_cons.mp (p.subset (List.mem_cons_self (a := a))) with h | h
      · omega
      · exact (List.pairwise_cons.mp hm).1 a h
    have e : a = b := by omega
    subst e
    rw [sorted_one (List.Perm.cons_inv p) (List.pairwise_cons.mp hl).2 (List.pairwise_cons.mp hm).2]
theorem srt_of_perm {l m : List Int} (p : l.Perm m) : srt l = srt m := sorted_one ((srt_perm l).trans (p.trans (srt_perm m).symm)) (srt_sorted l) (srt_sorted m)
theorem srt_len (l : List Int) : (srt l).length = l.length := (srt_perm l).length_eq
theorem toP_ints (ns : List Int) : (ns.map D.int).map toP = ns.map PyData.int := by
  rw [List.map_map]
  rfl
theorem sortL_ints (ns : List Int) : sortL (ns.map D.int) = (srt ns).map D.int := by
  unfold sortL srt
  exact (PySem.W.sort_maps D.int (l := ns) (r := fun a b => decide (a ≤ b)) (s := PySem.W.dataLe false toP) fun a _ b _ => (congrFun (congrFun (PySem.W.dataLe_int (β := Int) fun b => b) a) b).symm).symm
theorem good_ints (ns : List Int) : (ns.map D.int).all (good 40) = true := by
  rw [List.all_map]; exact List.all_eq_true.mpr fun _ _ => rfl
theorem sorted_cond (ns : List Int) : PySem.W.AllAlike ((ns.map D.int).map toP) ∧ PySem.W.Sortable ((ns.map D.int).map toP) := by
  rw [toP_ints]
  exact ⟨PySem.W.AllAlike.of fun _ _ => by simp [PySem.W.alike], PySem.W.Sortable.others fun _ => ⟨(fun z => nomatch z), fun _ z => nomatch z⟩⟩
theorem sorted_lst (ns : List Int) (st : Sto) : sortedD false [.lst (ns.map D.int)] st = .ok (.lst ((srt ns).map D.int)) st := by
  unfold sortedD
  simp only [itemsOf]
  rw [if_pos ⟨rfl, good_ints ns, sorted_cond ns⟩, sortL_ints]
  rfl
theorem sorted_new (ns : List Int) (st : Sto) : sortedD false [.loc st.length] (st ++ [.lst (ns.map D.int)]) = .ok (.lst ((srt ns).map D.int)) (st ++ [.lst (ns.map D.int)]) := by
  unfold sortedD
  dsimp only
  rw [items_new]
  dsimp only
  rw [if_pos ⟨rfl, good_ints ns, sorted_cond ns⟩, sortL_ints]
  rfl
theorem sortA_lst (ds : List D) (st : Sto) : sortAD false [.lst ds] st = sortedD false [.lst ds] st := nrfl rfl
theorem dkeys_new (ds : List D) (st : Sto) : dkeys (.loc st.length) (st ++ [.lst ds]) = none := by
  unfold dkeys
  dsimp only
  rw [get_new]
theorem sortA_new (ds : List D) (st : Sto) : sortAD false [.loc st.length] (st ++ [.lst ds]) = sortedD false [.loc st.length] (st ++ [.lst ds]) := by
  unfold sortAD
  dsimp only
  rw [dkeys_new]
/-! ### tags put in and taken out -/
def keepT (ts : List Int) (less : Int) : List Int := ts.filter fun t => !(t == less)
def retagS (ts : List Int) (more less : Int) : List Int :=
  if (!(more == 0)) && ((!memB more (keepT ts less)) && decide (((keepT ts less).length : Int) < 4)) then srt (keepT ts less ++ [more]) else srt (keepT ts less)
theorem keepT_len (ts : List Int) (less : Int) : (keepT ts less).length ≤ ts.length := List.length_filter_le _ _
theorem retagS_len {ts : List Int} {more less : Int} (h : ts.length ≤ 4) : (retagS ts more less).length ≤ 4 := by
  have h2 := keepT_len ts less
  unfold retagS
  split
  · rename_i hc
    simp only [Bool.and_eq_true, decide_eq_true_eq] at hc
    rw [srt_len, List.length_append, List.length_singleton]
    omega
  · rw [srt_len]; omega
theorem memB_srt (n : Int) (ts : List Int) : memB n (srt ts) = memB n ts := by
  unfold memB
  rw [Bool.eq_iff_iff, List.contains_iff_mem, List.contains_iff_mem, (srt_perm ts).mem_iff]
theorem retag_comp {ts : List Int} {more less : Int} (st : Sto) : compL (tgN 4) b_retagged_t1 b_retagged_c1 [some (.tup (ts.map D.int)), some (.int more), some (.int less), none, none] (ts.map D.int) st = .ok ((keepT ts less).map D.int) st :=
  compL_filter D.int (fun t => !(t == less)) D.int ts (fun t _ => by simp [b_retagged_t1]) fun t _ _ => by simp [b_retagged_c1]
theorem retagged_ok {ts : List Int} (h : ts.length ≤ 4) (more less : Int) (st : Sto) : fn_retagged [.tup (ts.map D.int), .int more, .int less] st = .ok (.tup ((retagS ts more less).map D.int)) st := by
  have hd := dCompM_of (vs := [4]) (src := dIterA (dV 0)) (tg := tgN 4) (t := b_retagged_t1) (f := b_retagged_c1) (env := [some (.tup (ts.map D.int)), some (.int more), some (.int less), none, none]) (ds := ts.map D.int) (st := st) (st1 := st)
    (by simp) (retag_comp st) (by have := keepT_len ts less; rw [List.length_map]; omega)
  generalize hk : keepT ts less = ks at *
  have n1 := notIn_new more ks st
  have n2 := len_new st (ks.map D.int)
  have hl : ks.length ≤ 4 := by rw [← hk]; exact Nat.le_trans (keepT_len ts less) h
  have n3 := append_new (st := st) (xs := ks.map D.int) (.int more) (by rw [List.length_map]; omega)
  have n4 := chkL_new st (ks.map D.int)
  have n5 := (sortA_new _ _).trans (sorted_new ks st)
  have n6 := (sortA_new _ _).trans (sorted_new (ks ++ [more]) st)
  rw [List.map_append, List.map_cons, List.map_nil] at n6
  unfold retagS
  rw [hk]
  cases c1 : (more == 0) <;> cases c2 : memB more ks <;> cases c3 : decide ((ks.length : Int) < 4)
  case false.false.true =>
    refine Fn.clean_ok (ext := [.lst (ks.map D.int ++ [.int more])]) ?_ (thaw_self (by rw [noLoc_tup]; exact noLocs_ints _ _))
    simp only [b_retagged, b_retagged_i1, runF_def, dIfS_def]
    have c1' : ¬ more = 0 := by simpa using c1
    have c3' : (ks.length : Int) < 4 := by simpa using c3
    simp [hd, n1, n2, n3, n4, n6, c1', c2, c3', tuple_lst]
  all_goals
    refine Fn.clean_ok (ext := [.lst (ks.map D.int)]) ?_ (thaw_self (by rw [noLoc_tup]; exact noLocs_ints _ _))
    simp only [b_retagged, b_retagged_i1, runF_def, dIfS_def]
    simp [hd, n1, n2, n5, c1, c2, c3, tuple_lst]
/-! ### judged -/
def judgedS : List RuleS → RouteS → Int → Int → Option (RouteS × Int × Int)
  | [], q, p, a => some (q, p, a)
  | r :: rs, q, p, a =>
    if fitsB r q = true then
      if r.deed = "no" then none
      else if r.deed = "yes" then some ({ q with tags := retagS q.tags r.more r.less }, r.prefer.getD p, a + r.ahead)
      else judgedS rs { q with tags := retagS q.tags r.more r.less } (r.prefer.getD p) (a + r.ahead)
    else judgedS rs q p a
def resD : Option (RouteS × Int × Int) → D
  | none => .non
  | some (q, p, a) => .tup [q.enc, .int p, .int a]
theorem tup_noLoc3 (n : Nat) (q : RouteS) (p a : Int) : noLoc n (.tup [q.enc, .int p, .int a]) = true := by
  rw [noLoc_tup]
  simp [noLocs, noLoc, route_noLoc]
theorem resD_noLoc (n : Nat) (o : Option (RouteS × Int × Int)) : noLoc n (resD o) = true := by
  cases o with
  | none => rfl
  | some x => exact tup_noLoc3 _ _ _ _
theorem isn_opt (o : Option Int) (st : Sto) : isnD (optD o) .non st = .ok (.bl o.isSome) st := by
  cases o <;> rfl
@[simp] theorem isn_nn (st : Sto) : isnD .non .non st = .ok (.bl false) st := nrfl rfl
@[simp] theorem isn_in (i : Int) (st : Sto) : isnD (.int i) .non st = .ok (.bl true) st := nrfl rfl
@[simp] theorem is_nn (st : Sto) : isD .non .non st = .ok (.bl true) st := nrfl rfl
@[simp] theorem is_in (i : Int) (st : Sto) : isD (.int i) .non st = .ok (.bl false) st := nrfl rfl
@[simp] theorem isn_tup (ds : List D) (st : Sto) : isnD (.tup ds) .non st = .ok (.bl true) st := nrfl rfl
@[simp] theorem is_tup (ds : List D) (st : Sto) : isD (.tup ds) .non st = .ok (.bl false) st := nrfl rfl
theorem is_opt (o : Option Int) (st : Sto) : isD (optD o) .non st = .ok (.bl o.isNone) st := by
  cases o <;> rfl
theorem judged_loop (R : D) (st : Sto) : ∀ (rs : List RuleS) (q : RouteS) (p a : Int) (x : Option D), q.tags.length ≤ 4 →
    SR.fin (SR.seq (loopL (tgN 4) b_judged_l1 (rs.map RuleS.enc) [some R, some q.enc, some (.int p), some (.int a), x] st) (dRet (dTup [dV 1, dV 2, dV 3]))) = .ok (resD (judgedS rs q p a)) st
  | [], q, p, a, x, h => by
    rw [List.map_nil, loopL_nil]
    simp [judgedS, resD]
  | r :: rs, q, p, a, x, h => by
    have hf := fits_ok r q st
    have hr := retagged_ok h r.more r.less st
    have ih1 := judged_loop R st rs q p a
    have ih2 := judged_loop R st rs { q with tags := retagS q.tags r.more r.less } (r.prefer.getD p) (a + r.ahead)
    rw [List.map_cons]
    unfold judgedS
    cases c1 : fitsB r q with
    | false =>
      rw [if_neg Bool.false_ne_true, loopN_nx (e := [some R, some q.enc, some (.int p), some (.int a), some r.enc]) (s := st)]
      · exact ih1 _ h
      · rw [c1] at hf
        simp [b_judged_l1, b_judged_i1, b_judged_i2, b_judged_i3, b_judged_i4, dIfS_def, hf]
    | true =>
      rw [if_pos rfl]
      rw [c1] at hf
      have he : RouteS.enc { q with tags := retagS q.tags r.more r.less } = .tup [.str q.pfx, .tup (q.path.map D.int), .int q.weight, .tup ((retagS q.tags r.more r.less).map D.int)] := rfl
      by_cases c2 : r.deed = "no"
      · rw [if_pos c2, loopN_rt (x := .non) (s := st)]
        · simp [resD]
        · cases c4 : r.prefer <;> simp [b_judged_l1, b_judged_i1, b_judged_i2, b_judged_i3, b_judged_i4, dIfS_def, hf, hr, isn_opt, c4, c2, optD]
      · rw [if_neg c2]
        by_cases c3 : r.deed = "yes"
        · rw [if_pos c3, loopN_bk (e := [some R, some (RouteS.enc { q with tags := retagS q.tags r.more r.less }), some (.int (r.prefer.getD p)), some (.int (a + r.ahead)), some r.enc]) (s := st)]
          · simp [resD]
          · have c5 : ¬ (("yes" : Str) = "no") := by decide
            cases c4 : r.prefer <;> simp [b_judged_l1, b_judged_i1, b_judged_i2, b_judged_i3, b_judged_i4, dIfS_def, hf, hr, isn_opt, c4, c3, c5, optD, he]
        · rw [if_neg c3, loopN_nx (e := [some R, some (RouteS.enc { q with tags := retagS q.tags r.more r.less }), some (.int (r.prefer.getD p)), some (.int (a + r.ahead)), some r.enc]) (s := st)]
          · exact ih2 _ (retagS_len h)
          · cases c4 : r.prefer <;> simp [b_judged_l1, b_judged_i1, b_judged_i2, b_judged_i3, b_judged_i4, dIfS_def, hf, hr, isn_opt, c4, c2, c3, optD, he]
theorem judged_ok (rs : List RuleS) (q : RouteS) (h : q.tags.length ≤ 4) (st : Sto) : fn_judged [.lst (rs.map RuleS.enc), q.enc] st = .ok (resD (judgedS rs q 100 0)) st := by
  refine Fn.clean_same ?_ (resD_noLoc _ _)
  rw [← judged_loop (.lst (rs.map RuleS.enc)) st rs q 100 0 none h]
  simp only [b_judged, runF_def]
  simp
end DL

namespace DL
open PySem PySem.Spec PyProof.Rows L2
/-! ### a thing is == to itself -/
theorem plain_ints (ns : List Int) : PyData.plainAll (ns.map PyData.int) = true := by
  induction ns with
  | nil => simp [PyData.plainAll]
  | cons n ns ih => simp [PyData.plainAll, PyData.plain, ih]
theorem plain_strs (ns : List Str) : PyData.plainAll (ns.map PyData.str) = true := by
  induction ns with
  | nil => simp [PyData.plainAll]
  | cons n ns ih => simp [PyData.plainAll, PyData.plain, ih]
mutual
theorem toP_plain : ∀ d : D, (toP d).plain = true
  | .non => by simp [toP, PyData.plain]
  | .bl _ => by simp [toP, PyData.plain]
  | .int _ => by simp [toP, PyData.plain]
  | .str _ => by simp [toP, PyData.plain]
  | .loc _ => by simp [toP, PyData.plain]
  | .fn _ => by simp [toP, PyData.plain]
  | .scr ns => by simp [toP, PyData.plain, plain_ints]
  | .kt ns => by simp [toP, PyData.plain, plain_strs]
  | .tup ds => by simp only [toP, PyData.plain]; exact toPs_plain ds
  | .lst ds => by simp only [toP, PyData.plain]; exact toPs_plain ds
theorem toPs_plain : ∀ ds : List D, PyData.plainAll (toPs ds) = true
  | [] => by simp [toPs, PyData.plainAll]
  | d :: ds => by simp only [toPs, PyData.plainAll, toP_plain d, toPs_plain ds]; rfl
end
theorem eqv_self (d : D) : PyData.eqv (toP d) (toP d) = true := PySem.SeqAt.eqv_refl_plain _ (toP_plain d)
theorem ne_self {d : D} {st : Sto} (h : good 40 (der st d) = true) : neD d d st = .ok (.bl false) st := by
  rw [neD_good h h, eqv_self]
  rfl
theorem good_int (n : Nat) (i : Int) : good n (.int i) = true := by cases n <;> rfl
theorem good_str (n : Nat) (i : Str) : good n (.str i) = true := by cases n <;> rfl
theorem good_optD (n : Nat) (o : Option Int) : good n (optD o) = true := by cases o <;> cases n <;> rfl
theorem good_ints' (n : Nat) (ns : List Int) : (ns.map D.int).all (good n) = true := by
  rw [List.all_map]; exact List.all_eq_true.mpr fun _ _ => good_int n _
theorem good_route (n : Nat) (q : RouteS) : good (n + 2) q.enc = true := by
  show ([D.str q.pfx, .tup (q.path.map D.int), .int q.weight, .tup (q.tags.map D.int)]).all (good (n + 1)) = true
  simp only [List.all_cons, List.all_nil, good_int, good_str, Bool.and_true, Bool.true_and]
  show ((q.path.map D.int).all (good n) && (q.tags.map D.int).all (good n)) = true
  rw [good_ints', good_ints']
  rfl
theorem good_rule (n : Nat) (r : RuleS) : good (n + 1) r.enc = true := by
  show ([D.str r.pfx, .int r.longest, .int r.number, .int r.tag, .str r.deed, optD r.prefer, .int r.more, .int r.less, .int r.ahead]).all (good n) = true
  simp [good_int, good_str, good_optD]
theorem good_rules (n : Nat) (rs : List RuleS) : good (n + 2) (.lst (rs.map RuleS.enc)) = true := by
  show (rs.map RuleS.enc).all (good (n + 1)) = true
  rw [List.all_map]; exact List.all_eq_true.mpr fun r _ => good_rule n r
theorem good_res (n : Nat) (o : Option (RouteS × Int × Int)) : good (n + 3) (resD o) = true := by
  cases o with
  | none => rfl
  | some x =>
    obtain ⟨q, p, a⟩ := x
    show ([q.enc, D.int p, .int a]).all (good (n + 2)) = true
    simp [good_int, good_route]
theorem ne_res (o : Option (RouteS × Int × Int)) (st : Sto) : neD (resD o) (resD o) st = .ok (.bl false) st := ne_self (by
  cases o with
  | none => rfl
  | some x => exact good_res 37 (some x))
theorem ne_rules (rs : List RuleS) (st : Sto) : neD (.lst (rs.map RuleS.enc)) (.lst (rs.map RuleS.enc)) st = .ok (.bl false) st := ne_self (good_rules 38 rs)
theorem ne_route (q : RouteS) (st : Sto) : neD q.enc q.enc st = .ok (.bl false) st := ne_self (good_route 38 q)
theorem ne_nil (rs : List RuleS) (st : Sto) : neD (.lst (rs.map RuleS.enc)) (.lst []) st = .ok (.bl (!rs.isEmpty)) st := by
  rw [neD_good (x := .lst (rs.map RuleS.enc)) (y := .lst []) (good_rules 38 rs) rfl]
  cases rs with
  | nil => simp [der, toP, toPs, PyData.eqv, PyData.eqvAll]
  | cons r rs => simp [der, toP, toPs, PyData.eqv, PyData.eqvAll]
/-! ### comprehensions whose items are told of alone -/
theorem compL_ex {i : Nat} {f : DE} {env : En} {st : Sto} {α β : Type} (enc : α → D) (enc' : β → D) (Q : β → Prop) : ∀ (as : List α), (∀ a ∈ as, ∃ b, f (env.set i (some (enc a))) st = .ok (enc' b) st ∧ Q b) →
    ∃ bs : List β, compL (tgN i) dYes f env (as.map enc) st = .ok (bs.map enc') st ∧ bs.length = as.length ∧ ∀ b ∈ bs, Q b
  | [], _ => ⟨[], rfl, rfl, fun _ h => by cases h⟩
  | a :: as, hh => by
    obtain ⟨b, e, hb⟩ := hh a List.mem_cons_self
    obtain ⟨bs, ih, hl, hq⟩ := compL_ex enc enc' Q as fun b hb => hh b (List.mem_cons_of_mem _ hb)
    refine ⟨b :: bs, ?_, by simp [hl], fun z hz => (List.mem_cons.mp hz).elim (fun h => h ▸ hb) (hq z)⟩
    rw [List.map_cons, compN_cons, show dYes (env.set i (some (enc a))) st = .ok true st from rfl, noX_ok, Rs.bind_ok, if_pos rfl, e, noX_ok, Rs.bind_ok, ih]
    rfl
/-! ### the law -/
theorem isi_bool (b : Bool) (st : Sto) : isiD "bool" (.bl b) st = .ok (.bl true) st := by
  have e : kitB "bool" "bool" = some true := by decide +kernel
  unfold isiD tyNm
  dsimp only
  rw [e]
theorem isi_tup (ds : List D) (st : Sto) : isiD "tuple" (.tup ds) st = .ok (.bl true) st := by
  have e : kitB "tuple" "tuple" = some true := by decide +kernel
  unfold isiD tyNm
  dsimp only
  rw [e]
@[simp] theorem trip_0 (a b c : D) (st : Sto) : ixD (.tup [a, b, c]) (.int 0) st = .ok a st := nrfl rfl
@[simp] theorem trip_2 (a b c : D) (st : Sto) : ixD (.tup [a, b, c]) (.int 2) st = .ok c st := nrfl rfl

/-! ### routes compared -/
theorem eqvAll_ints (a b : List Int) : PyData.eqvAll (a.map PyData.int) (b.map PyData.int) = decide (a = b) := by
  induction a generalizing b with
  | nil => cases b <;> simp [PyData.eqvAll]
  | cons x a ih => cases b with
    | nil => simp [PyData.eqvAll]
    | cons y b => simp only [List.map_cons, PyData.eqvAll, ih, PyData.eqv]; rw [Bool.eq_iff_iff]; simp
theorem toPs_ints (ns : List Int) : toPs (ns.map D.int) = ns.map PyData.int := by
  induction ns with
  | nil => simp [toPs]
  | cons a ns ih => simp [toPs, toP, ih]
theorem toPs_strs (ns : List Str) : toPs (ns.map D.str) = ns.map PyData.str := by
  induction ns with
  | nil => simp [toPs]
  | cons a ns ih => simp [toPs, toP, ih]
instance : DecidableEq RouteS := fun a b => by
  cases a; cases b
  simp only [RouteS.mk.injEq]
  exact inferInstance
def RouteS.pd (r : RouteS) : PyData := .tuple [.str r.pfx, .tuple (r.path.map .int), .int r.weight, .tuple (r.tags.map .int)]
theorem toP_route (r : RouteS) : toP r.enc = r.pd := by
  simp [RouteS.enc, toP, toPs, toPs_ints, RouteS.pd]
theorem eqv_route (a b : RouteS) : PyData.eqv a.pd b.pd = decide (a = b) := by
  cases a; cases b
  simp only [RouteS.pd, PyData.eqv, PyData.eqvAll, eqvAll_ints]
  rw [Bool.eq_iff_iff]; simp
def optR : Option RouteS → D
  | none => .non
  | some q => q.enc
theorem toP_optR_eqv (a b : Option RouteS) : PyData.eqv (toP (optR a)) (toP (optR b)) = decide (a = b) := by
  cases a with
  | none => cases b with
    | none => simp [optR, toP, PyData.eqv]
    | some y => simp [optR, toP_route, toP, RouteS.pd, PyData.eqv]
  | some x => cases b with
    | none => simp [optR, toP_route, toP, RouteS.pd, PyData.eqv]
    | some y =>
      show PyData.eqv (toP x.enc) (toP y.enc) = _
      rw [toP_route, toP_route, eqv_route, Bool.eq_iff_iff]
      simp
theorem good_optR (n : Nat) (o : Option RouteS) : good (n + 2) (optR o) = true := by
  cases o with
  | none => rfl
  | some q => exact good_route n q
theorem der_route (st : Sto) (q : RouteS) : der st q.enc = q.enc := rfl
theorem der_optR (st : Sto) (o : Option RouteS) : der st (optR o) = optR o := by cases o <;> rfl
theorem ne_optR (a b : Option RouteS) (st : Sto) : neD (optR a) (optR b) st = .ok (.bl (!decide (a = b))) st := by
  rw [neD_good (by rw [der_optR]; exact good_optR 38 a) (by rw [der_optR]; exact good_optR 38 b), der_optR, der_optR, toP_optR_eqv]
end DL

/-! CS: rows of keys and things; what lies where in a store. -/
namespace DL
open PySem PySem.Spec PyProof.Rows L2
section
variable {κ κ' α : Type} [DecidableEq κ] [DecidableEq κ']
def aGet : List (κ × α) → κ → Option α
  | [], _ => none
  | (j, d) :: r, k => if j = k then some d else aGet r k
def aPut (kvs : List (κ × α)) (k : κ) (d : α) : List (κ × α) := if kvs.any (fun kv => decide (kv.1 = k)) = true then kvs.map fun kv => if kv.1 = k then (kv.1, d) else kv else kvs ++ [(k, d)]
def aDrop (kvs : List (κ × α)) (k : κ) : List (κ × α) := kvs.filter fun kv => decide (kv.1 ≠ k)
def aEnc (f : κ → κ') (h : α → D) (kvs : List (κ × α)) : List (κ' × D) := kvs.map fun x => (f x.1, h x.2)
variable {f : κ → κ'} {h : α → D}
theorem look_enc (hf : ∀ a b, f a = f b → a = b) (k : κ) : ∀ kvs : List (κ × α), look (aEnc f h kvs) (f k) = (aGet kvs k).map h
  | [] => rfl
  | (j, d) :: r => by
    show (if f j = f k then some (h d) else look (aEnc f h r) (f k)) = _
    unfold aGet
    by_cases e : j = k
    · rw [if_pos (by rw [e]), if_pos e]; rfl
    · rw [if_neg fun z => e (hf _ _ z), if_neg e]; exact look_enc hf k r
theorem any_enc (hf : ∀ a b, f a = f b → a = b) (k : κ) : ∀ kvs : List (κ × α), ((aEnc f h kvs).any fun kv => decide (kv.1 = f k)) = kvs.any fun kv => decide (kv.1 = k)
  | [] => rfl
  | (j, d) :: r => by
    have ih := any_enc hf k r
    unfold aEnc at ih ⊢
    rw [List.map_cons, List.any_cons, List.any_cons, ih]
    congr 1
    by_cases e : j = k
    · simp [e]
    · have : f j ≠ f k := fun z => e (hf _ _ z)
      simp [e, this]
theorem put_enc (hf : ∀ a b, f a = f b → a = b) (kvs : List (κ × α)) (k : κ) (d : α) : putD (aEnc f h kvs) (f k) (h d) = aEnc f h (aPut kvs k d) := by
  unfold putD aPut
  rw [any_enc hf]
  split
  · unfold aEnc
    rw [List.map_map, List.map_map]
    refine List.map_congr_left fun x _ => ?_
    by_cases e : x.1 = k
    · simp [e]
    · have : f x.1 ≠ f k := fun z => e (hf _ _ z)
      simp [e, this]
  · unfold aEnc
    rw [List.map_append]
    rfl
theorem drop_enc (hf : ∀ a b, f a = f b → a = b) (k : κ) : ∀ kvs : List (κ × α), dropD (aEnc f h kvs) (f k) = aEnc f h (aDrop kvs k)
  | [] => rfl
  | (j, d) :: r => by
    have ih := drop_enc hf k r
    unfold dropD aDrop aEnc at *
    rw [List.map_cons, List.filter_cons, List.filter_cons, ih]
    by_cases e : j = k
    · simp [e]
    · have : f j ≠ f k := fun z => e (hf _ _ z)
      simp [e, this]
theorem aEnc_len (kvs : List (κ × α)) : (aEnc f h kvs).length = kvs.length := by unfold aEnc; simp
/-! what a row holds -/
theorem aGet_mem {k : κ} {d : α} : ∀ {kvs : List (κ × α)}, aGet kvs k = some d → (k, d) ∈ kvs
  | [], e => by cases e
  | (j, x) :: r, e => by
    unfold aGet at e
    split at e
    · rename_i hj
      cases e; subst hj; exact List.mem_cons_self
    · exact List.mem_cons_of_mem _ (aGet_mem e)
theorem aGet_none {k : κ} : ∀ {kvs : List (κ × α)}, aGet kvs k = none ↔ k ∉ kvs.map (·.1)
  | [] => by simp [aGet]
  | (j, x) :: r => by
    unfold aGet
    by_cases hj : j = k
    · simp [hj]
    · rw [if_neg hj, aGet_none (kvs := r)]
      simp only [List.map_cons, List.mem_cons, not_or]
      exact ⟨fun z => ⟨fun e => hj e.symm, z⟩, fun z => z.2⟩
theorem aGet_isSome {k : κ} {kvs : List (κ × α)} : (aGet kvs k).isSome = true ↔ k ∈ kvs.map (·.1) := by
  cases e : aGet kvs k with
  | none => simp only [Option.isSome_none, Bool.false_eq_true, false_iff]; exact aGet_none.mp e
  | some d => simp only [Option.isSome_some, true_iff]; exact List.mem_map_of_mem (aGet_mem e)
theorem aGet_of {k : κ} {d : α} : ∀ {kvs : List (κ × α)}, (kvs.map (·.1)).Nodup → (k, d) ∈ kvs → aGet kvs k = some d
  | [], _, e => by cases e
  | (j, x) :: r, nd, e => by
    rw [List.map_cons, List.nodup_cons] at nd
    unfold aGet
    rcases List.mem_cons.mp e with e | e
    · cases e; rw [if_pos rfl]
    · have : j ≠ k := fun z => nd.1 (by rw [z]; exact List.mem_map.mpr ⟨_, e, rfl⟩)
      rw [if_neg this]
      exact aGet_of nd.2 e
theorem aPut_keys (kvs : List (κ × α)) (k : κ) (d : α) : (aPut kvs k d).map (·.1) = if k ∈ kvs.map (·.1) then kvs.map (·.1) else kvs.map (·.1) ++ [k] := by
  have e : (kvs.any fun kv => decide (kv.1 = k)) = true ↔ k ∈ kvs.map (·.1) := by
    rw [List.any_eq_true]
    simp only [decide_eq_true_eq, List.mem_map]
  unfold aPut
  by_cases hk : k ∈ kvs.map (·.1)
  · rw [if_pos (e.mpr hk), if_pos hk, List.map_map]
    refine List.map_congr_left fun x _ => ?_
    show (if x.1 = k then (x.1, d) else x).1 = x.1
    split <;> rfl
  · rw [if_neg (fun z => hk (e.mp z)), if_neg hk, List.map_append]; rfl
theorem aPut_nodup {kvs : List (κ × α)} (k : κ) (d : α) (h : (kvs.map (·.1)).Nodup) : ((aPut kvs k d).map (·.1)).Nodup := by
  rw [aPut_keys]
  split
  · exact h
  · rename_i hk; exact nodup_snoc h hk
theorem aGet_map {k j : κ} {d : α} : ∀ kvs : List (κ × α), aGet (kvs.map fun kv => if kv.1 = k then (kv.1, d) else kv) j = if j = k then (aGet kvs j).map fun _ => d else aGet kvs j
  | [] => by
    show (none : Option α) = if j = k then (none : Option α).map fun _ => d else none
    split <;> rfl
  | (i, x) :: r => by
    have ih := aGet_map (k := k) (j := j) (d := d) r
    rw [List.map_cons]
    by_cases hi : i = k
    · subst hi
      rw [if_pos rfl]
      unfold aGet
      by_cases hj : i = j
      · subst hj; simp
      · rw [if_neg hj, if_neg hj, ih]
    · rw [if_neg hi]
      unfold aGet
      by_cases hj : i = j
      · subst hj; rw [if_pos rfl, if_neg hi]; simp
      · rw [if_neg hj, if_neg hj, ih]
theorem aGet_append {j : κ} : ∀ (a b : List (κ × α)), aGet (a ++ b) j = (aGet a j).or (aGet b j)
  | [], b => rfl
  | (i, x) :: r, b => by
    rw [List.cons_append]
    show (if i = j then some x else aGet (r ++ b) j) = (if i = j then some x else aGet r j).or (aGet b j)
    by_cases hi : i = j
    · rw [if_pos hi, if_pos hi]; rfl
    · rw [if_neg hi, if_neg hi]; exact aGet_append r b
theorem aGet_put (kvs : List (κ × α)) (k j : κ) (d : α) : aGet (aPut kvs k d) j = if j = k then some d else aGet kvs j := by
  have e : (kvs.any fun kv => decide (kv.1 = k)) = true ↔ k ∈ kvs.map (·.1) := by
    rw [List.any_eq_true]
    simp only [decide_eq_true_eq, List.mem_map]
  unfold aPut
  by_cases hk : k ∈ kvs.map (·.1)
  · rw [if_pos (e.mpr hk), aGet_map]
    by_cases hj : j = k
    · subst hj
      rw [if_pos rfl, if_pos rfl]
      have := aGet_isSome.mpr hk
      cases ee : aGet kvs j with
      | none => rw [ee] at this; cases this
      | some _ => rfl
    · rw [if_neg hj, if_neg hj]
  · rw [if_neg (fun z => hk (e.mp z)), aGet_append]
    by_cases hj : j = k
    · subst hj
      rw [if_pos rfl, aGet_none.mpr hk]
      show aGet [(j, d)] j = _
      unfold aGet; rw [if_pos rfl]
    · rw [if_neg hj]
      have : aGet [(k, d)] j = none := by
        unfold aGet; rw [if_neg fun z => hj z.symm]; rfl
      rw [this]
      cases aGet kvs j <;> rfl
theorem aGet_drop (kvs : List (κ × α)) (k j : κ) : aGet (aDrop kvs k) j = if j = k then none else aGet kvs j := by
  induction kvs with
  | nil => unfold aDrop aGet; simp
  | cons x r ih =>
    obtain ⟨i, x⟩ := x
    unfold aDrop at ih ⊢
    rw [List.filter_cons]
    by_cases hi : i = k
    · subst hi
      simp only [ne_eq, not_true_eq_false, decide_false, Bool.false_eq_true, if_false]
      rw [ih]
      by_cases hj : j = i
      · rw [if_pos hj, if_pos hj]
      · rw [if_neg hj, if_neg hj]
        conv => rhs; unfold aGet
        rw [if_neg fun z => hj z.symm]
    · simp only [ne_eq, hi, not_false_eq_true, decide_true, if_true]
      show (if i = j then some x else aGet (List.filter _ r) j) = _
      rw [ih]
      by_cases hj : j = k
      · subst hj; rw [if_neg hi, if_pos rfl, if_pos rfl]
      · rw [if_neg hj, if_neg hj]
        conv => rhs; unfold aGet
theorem aDrop_keys (kvs : List (κ × α)) (k : κ) : (aDrop kvs k).map (·.1) = (kvs.map (·.1)).filter fun j => decide (j ≠ k) := by
  unfold aDrop
  rw [List.filter_map]
  rfl
theorem aDrop_nodup {kvs : List (κ × α)} (k : κ) (h : (kvs.map (·.1)).Nodup) : ((aDrop kvs k).map (·.1)).Nodup := by
  rw [aDrop_keys]; exact h.sublist List.filter_sublist
theorem mem_aPut {kvs : List (κ × α)} {k : κ} {d : α} {x : κ × α} (h : x ∈ aPut kvs k d) : x = (k, d) ∨ x ∈ kvs := by
  unfold aPut at h
  split at h
  · obtain ⟨y, hy, e⟩ := List.mem_map.mp h
    split at e
    · rename_i hk; left; rw [← e, hk]
    · right; rw [← e]; exact hy
  · rcases List.mem_append.mp h with h | h
    · exact .inr h
    · exact .inl (List.mem_singleton.mp h)
theorem mem_aDrop {kvs : List (κ × α)} {k : κ} {x : κ × α} (h : x ∈ aDrop kvs k) : x ∈ kvs := (List.mem_filter.mp h).1
theorem aPut_len (kvs : List (κ × α)) (k : κ) (d : α) : (aPut kvs k d).length ≤ kvs.length + 1 := by
  unfold aPut; split <;> simp
end
theorem inl_inj (a b : Int) (h : (Sum.inl a : Key) = .inl b) : a = b := Sum.inl.inj h
theorem inr_inj (a b : Str) (h : (Sum.inr a : Key) = .inr b) : a = b := Sum.inr.inj h
/-! ### steps at a store -/
section
variable {st : Sto} {l c i : Nat} {fs : List D} {d : D}
theorem fld_at (h : st[l]? = some (.ins c fs)) (hi : fs[i]? = some d) : fldD c i (.loc l) st = .ok d st := by
  unfold fldD; simp only [h, if_true, hi]
theorem isIns_at (h : st[l]? = some (.ins c fs)) : isIns c st (.loc l) = true := by
  unfold isIns; simp only [h, beq_self_eq_true]
theorem isDi_at {z : Bool} {kvs : List (Key × D)} (h : st[l]? = some (.dk z kvs)) : isDi st (.loc l) = true := by
  unfold isDi; simp only [h]
theorem isDi_at2 {z : Bool} {kvs : List (List Key × D)} (h : st[l]? = some (.dt z kvs)) : isDi st (.loc l) = true := by
  unfold isDi; simp only [h]
theorem ix_at {z : Bool} {kvs : List (Key × D)} {k : D} {key : Key} (h : st[l]? = some (.dk z kvs)) (hk : keyOf k = some key) (hl : look kvs key = some d) : ixD (.loc l) k st = .ok d st := by
  unfold ixD; simp only [h, hk, hl]
theorem in_at {z : Bool} {kvs : List (Key × D)} {k : D} {key : Key} (h : st[l]? = some (.dk z kvs)) (hk : keyOf k = some key) : inD k (.loc l) st = .ok (.bl (look kvs key).isSome) st := by
  unfold inD inB; simp only [h, hk, Option.map_some]
theorem notIn_at {z : Bool} {kvs : List (Key × D)} {k : D} {key : Key} (h : st[l]? = some (.dk z kvs)) (hk : keyOf k = some key) : notInD k (.loc l) st = .ok (.bl !(look kvs key).isSome) st := by
  unfold notInD inB; simp only [h, hk, Option.map_some]
theorem put_at {kvs : List (Key × D)} {k : D} {key : Key} (h : st[l]? = some (.dk false kvs)) (hk : keyOf k = some key) (hn : kvs.length < 1000000) : putS l k d st = some (st.set l (.dk false (putD kvs key d))) := by
  unfold putS; simp only [h, hk]; rw [if_pos hn]
theorem getD_at {z : Bool} {kvs : List (Key × D)} {k : D} {key : Key} (h : st[l]? = some (.dk z kvs)) (hk : keyOf k = some key) : getO l k st = some (look kvs key) := by
  unfold getO; simp only [h, hk, Option.map_some]
end
@[simp] theorem key_int (i : Int) : keyOf (.int i) = some (.inl i) := nrfl rfl
@[simp] theorem key_str (i : Str) : keyOf (.str i) = some (.inr i) := nrfl rfl
end DL

/-! CW: simp words for attributes, methods, dicts, locks; the least of offers. -/
namespace DL
open PySem PySem.Spec PyProof.Rows L2
@[simp] theorem dMth_def (c : Nat) (F : Fn) (fo : DE) (fs : List DE) (env : En) (st : Sto) : dMth c F fo fs env st = (fo env st).bind fun x st => if isIns c st x = true then (runL fs env st).bind fun ds st => F (x :: ds) st else .bad := nrfl rfl
def setFR (c i n : Nat) (env : En) (x y : D) (st : Sto) : SR := match x with
  | .loc l => match st[l]? with
    | some (.ins c' fs) => if c' = c ∧ i ≤ fs.length ∧ i < n then .nx env (st.set l (.ins c (putAt i y fs))) else .bad
    | _ => .bad
  | _ => .bad
@[simp] theorem dSetF_def (c i n : Nat) (fo fv : DE) (env : En) (st : Sto) : dSetF c i n fo fv env st = (fv env st).thn env fun y st => (fo env st).thn env fun x st => setFR c i n env x y st := nrfl rfl
def putR (env : En) (d k v : D) (st : Sto) : SR := match d with
  | .loc l => match putS l k v st with
    | some st' => .nx env st'
    | none => .bad
  | _ => .bad
@[simp] theorem dPut_def (fd fk fv : DE) (env : En) (st : Sto) : dPut fd fk fv env st = (fv env st).thn env fun v st => (fd env st).thn env fun d st => (fk env st).thn env fun k st => putR env d k v st := nrfl rfl
@[simp] theorem dGet1_def (fd fk : DE) (env : En) (st : Sto) : dGet1 fd fk env st = (fd env st).bind fun x st => if isDi st x = true then (fk env st).bind fun k st => getD1 x k st else .bad := nrfl rfl
@[simp] theorem dPop1_def (fd fk : DE) (env : En) (st : Sto) : dPop1 fd fk env st = (fd env st).bind fun x st => if isDi st x = true then (fk env st).bind fun k st => popD1 x k st else .bad := nrfl rfl
@[simp] theorem dPop2_def (fd fk fz : DE) (env : En) (st : Sto) : dPop2 fd fk fz env st = (fd env st).bind fun x st => if isDi st x = true then (fk env st).bind fun k st => (fz env st).bind fun z st => popD2 x k z st else .bad := nrfl rfl
@[simp] theorem dIterK_def (f : DE) (env : En) (st : Sto) : dIterK f env st = (f env st).bind asKeys := nrfl rfl
@[simp] theorem dNew_def (c : Nat) (F : Fn) (fs : List DE) (env : En) (st : Sto) : dNew c F fs env st = (runL fs env st).bind fun ds st => newD c F ds st := nrfl rfl
@[simp] theorem dRaise_def (c : Nat) (env : En) (st : Sto) : dRaise c env st = .exc c env st := nrfl rfl
@[simp] theorem dDk_def (env : En) (st : Sto) : dDk env st = .ok (.loc st.length) (st ++ [.dk false []]) := nrfl rfl
@[simp] theorem dDt_def (env : En) (st : Sto) : dDt env st = .ok (.loc st.length) (st ++ [.dt false []]) := nrfl rfl
def chainK (h : Rs D) (k : Sto → Rs D) : Rs D := h.bind fun z st => match z with
  | .bl true => k st
  | .bl false => .ok (.bl false) st
  | _ => .bad
@[simp] theorem chainK_ok (b : Bool) (st : Sto) (k : Sto → Rs D) : chainK (.ok (.bl b) st) k = if b = true then k st else .ok (.bl false) st := by
  cases b <;> rfl
@[simp] theorem dChain_def (h h' : D → D → Sto → Rs D) (f k m : DE) (env : En) (st : Sto) : dChain h h' f k m env st = (f env st).bind fun x st => (k env st).bind fun y st => chainK (h x y st) fun st => (m env st).bind fun w st => h' y w st := nrfl rfl
@[simp] theorem dIterZ_def (fs : List DE) (env : En) (st : Sto) : dIterZ fs env st = (runL fs env st).bind asZip := nrfl rfl
@[simp] theorem asZip_tup (xs ys : List D) (st : Sto) : asZip [.tup xs, .tup ys] st = .ok (List.zipWith pairD xs ys) st := nrfl rfl
@[simp] theorem asZip_lst (xs ys : List D) (st : Sto) : asZip [.lst xs, .lst ys] st = .ok (List.zipWith pairD xs ys) st := nrfl rfl
def tgR (r : Option En) (st : Sto) : SR := match r with
  | some env' => .nx env' st
  | none => .bad
@[simp] theorem tgR_some (e : En) (st : Sto) : tgR (some e) st = .nx e st := nrfl rfl
@[simp] theorem dSetT_def (is : List Nat) (f : DE) (env : En) (st : Sto) : dSet (tgT is) f env st = (f env st).thn env fun d st => tgR (tgT is d env) st := nrfl rfl
@[simp] theorem tgT_tup (is : List Nat) (ds : List D) (env : En) : tgT is (.tup ds) env = tgNs is ds env := nrfl rfl
@[simp] theorem tgNs_nil (env : En) : tgNs [] [] env = some env := nrfl rfl
@[simp] theorem tgNs_cons (i : Nat) (is : List Nat) (d : D) (ds : List D) (env : En) : tgNs (i :: is) (d :: ds) env = tgNs is ds (env.set i (some d)) := nrfl rfl
@[simp] theorem trip_1 (a b c : D) (st : Sto) : ixD (.tup [a, b, c]) (.int 1) st = .ok b st := nrfl rfl
@[simp] theorem pair_0 (a b : D) (st : Sto) : ixD (.tup [a, b]) (.int 0) st = .ok a st := nrfl rfl
@[simp] theorem pair_1 (a b : D) (st : Sto) : ixD (.tup [a, b]) (.int 1) st = .ok b st := nrfl rfl
section
variable {st : Sto} {l c i n : Nat} {fs : List D} {d y : D} {env : En}
theorem setF_at (h : st[l]? = some (.ins c fs)) (hi : i ≤ fs.length) (hn : i < n) : setFR c i n env (.loc l) y st = .nx env (st.set l (.ins c (putAt i y fs))) := by
  unfold setFR; simp only [h]; rw [if_pos ⟨trivial, hi, hn⟩]
theorem putR_at {kvs : List (Key × D)} {k : D} {key : Key} (h : st[l]? = some (.dk false kvs)) (hk : keyOf k = some key) (hn : kvs.length < 1000000) : putR env (.loc l) k d st = .nx env (st.set l (.dk false (putD kvs key d))) := by
  unfold putR; simp only [put_at h hk hn]
theorem getD1_at {z : Bool} {kvs : List (Key × D)} {k : D} {key : Key} (h : st[l]? = some (.dk z kvs)) (hk : keyOf k = some key) : getD1 (.loc l) k st = .ok ((look kvs key).getD .non) st := by
  unfold getD1; simp only [getD_at h hk]
  cases look kvs key <;> rfl
theorem pop1_at {kvs : List (Key × D)} {k : D} {key : Key} (h : st[l]? = some (.dk false kvs)) (hk : keyOf k = some key) (hl : look kvs key = some d) : popD1 (.loc l) k st = .ok d (st.set l (.dk false (dropD kvs key))) := by
  unfold popD1; simp only [h, hk, hl]
theorem drop_none {kvs : List (Key × D)} {key : Key} (hl : look kvs key = none) : dropD kvs key = kvs := by
  induction kvs with
  | nil => rfl
  | cons x r ih =>
    obtain ⟨j, x⟩ := x
    unfold look at hl
    split at hl
    · cases hl
    · rename_i hj
      have ih := ih hl
      unfold dropD at ih ⊢
      rw [List.filter_cons_of_pos (by simp [hj]), ih]
theorem set_same {o : Ob} (h : st[l]? = some o) : st.set l o = st := by
  obtain ⟨hl, e⟩ := List.getElem?_eq_some_iff.mp h
  rw [← e]; exact List.set_getElem_self hl
/-- d.pop(k, None): what it tells is dropped here -/
theorem pop2_at {kvs : List (Key × D)} {k z : D} {key : Key} (h : st[l]? = some (.dk false kvs)) (hk : keyOf k = some key) : popD2 (.loc l) k z st = .ok ((look kvs key).getD z) (st.set l (.dk false (dropD kvs key))) := by
  unfold popD2; simp only [h, hk]
  cases hl : look kvs key with
  | none => simp only [Option.getD_none]; rw [drop_none hl, set_same h]
  | some d => rfl
theorem lock_at {lc : Lc} {b : DS} {kvs : List (Key × D)} (h1 : lc env st = some l) (h2 : st[l]? = some (.dk false kvs)) : dLock lc b env st = unl l (.dk false kvs) (b env (st.set l (.dk true kvs))) := by
  unfold dLock; simp only [h1, h2]
theorem lockT_at {lc : Lc} {b : DS} {kvs : List (List Key × D)} (h1 : lc env st = some l) (h2 : st[l]? = some (.dt false kvs)) : dLock lc b env st = unl l (.dt false kvs) (b env (st.set l (.dt true kvs))) := by
  unfold dLock; simp only [h1, h2]
theorem lockE_at {lc : Lc} {f : DE} {kvs : List (Key × D)} (h1 : lc env st = some l) (h2 : st[l]? = some (.dk false kvs)) : dLockE lc f env st = unlR l (.dk false kvs) (f env (st.set l (.dk true kvs))) := by
  unfold dLockE; simp only [h1, h2]
theorem lockET_at {lc : Lc} {f : DE} {kvs : List (List Key × D)} (h1 : lc env st = some l) (h2 : st[l]? = some (.dt false kvs)) : dLockE lc f env st = unlR l (.dt false kvs) (f env (st.set l (.dt true kvs))) := by
  unfold dLockE; simp only [h1, h2]
theorem lcV_at (h : env[i]? = some (some (.loc l))) : lcV i env st = some l := by unfold lcV; simp only [h]
theorem lcF_at {lc : Lc} {m : Nat} (h1 : lc env st = some l) (h2 : st[l]? = some (.ins c fs)) (h3 : fs[i]? = some (.loc m)) : lcF c i lc env st = some m := by
  unfold lcF; simp only [h1, h2, h3, if_true]
theorem keys_at {kvs : List (Key × D)} (h : st[l]? = some (.dk true kvs)) : asKeys (.loc l) st = .ok (kvs.map fun q => keyD q.1) st := by
  unfold asKeys; simp only [h]
theorem keysT_at {kvs : List (List Key × D)} (h : st[l]? = some (.dt true kvs)) : asKeys (.loc l) st = .ok (kvs.map fun q => .tup (q.1.map keyD)) st := by
  unfold asKeys; simp only [h]
theorem dkeys_at {z : Bool} {kvs : List (Key × D)} (h : st[l]? = some (.dk z kvs)) : dkeys (.loc l) st = some kvs := by
  unfold dkeys; simp only [h]
theorem dkeysF_at {kvs : List (Key × D)} (h : st[l]? = some (.dk false kvs)) : dkeysF (.loc l) st = some kvs := by
  unfold dkeysF; simp only [h]
theorem items_dk {z : Bool} {kvs : List (Key × D)} (h : st[l]? = some (.dk z kvs)) : itemsOf st (.loc l) = none := by
  unfold itemsOf; simp only [h]
theorem list_dk {kvs : List (Key × D)} (h : st[l]? = some (.dk false kvs)) : listAD false [.loc l] st = .ok (.lst (kvs.map fun q => keyD q.1)) st := by
  unfold listAD; simp only [items_dk h]
  unfold listKD; simp only [dkeysF_at h]
  rfl
theorem dict_at {kvs : List (Key × D)} (h : st[l]? = some (.dk false kvs)) : dictD [.loc l] st = .ok (.loc st.length) (st ++ [.dk false kvs]) := by
  unfold dictD; simp only [dkeys_at h]
@[simp] theorem unl_nx (l : Nat) (o : Ob) (e : En) (st : Sto) : unl l o (.nx e st) = .nx e (st.set l o) := nrfl rfl
@[simp] theorem unl_rt (l : Nat) (o : Ob) (e : D) (st : Sto) : unl l o (.rt e st) = .rt e (st.set l o) := nrfl rfl
@[simp] theorem unlR_ok {α : Type} (l : Nat) (o : Ob) (e : α) (st : Sto) : unlR l o (.ok e st) = .ok e (st.set l o) := nrfl rfl
theorem txtKeys_map {α : Type} (f : α → Str) (h : α → D) (l : List α) : txtKeys ((l.map fun x => ((Sum.inr (f x) : Key), h x)).map (·.1)) = some (l.map f) := by
  induction l with
  | nil => rfl
  | cons a l ih => rw [List.map_cons, List.map_cons, List.map_cons]; unfold txtKeys; rw [ih]; rfl
theorem intKeys_map {α : Type} (f : α → Int) (h : α → D) (l : List α) : intKeys ((l.map fun x => ((Sum.inl (f x) : Key), h x)).map (·.1)) = some (l.map f) := by
  induction l with
  | nil => rfl
  | cons a l ih => rw [List.map_cons, List.map_cons, List.map_cons]; unfold intKeys; rw [ih]; rfl
theorem sort_txt {α : Type} {z : Bool} (f : α → Str) (hh : α → D) (xs : List α) (h : st[l]? = some (.dk z (xs.map fun x => ((Sum.inr (f x) : Key), hh x)))) (hl : xs.length < 64) : sortAD false [.loc l] st = .ok (.lst ((srtS (xs.map f)).map D.str)) st := by
  unfold sortAD; simp only [dkeys_at h]
  unfold sortKD; simp only [dkeys_at h, txtKeys_map]
  rw [if_pos (by rw [List.length_map]; exact hl)]
  rfl
theorem sort_int {α : Type} {z : Bool} (f : α → Int) (hh : α → D) (xs : List α) (h : st[l]? = some (.dk z (xs.map fun x => ((Sum.inl (f x) : Key), hh x)))) (hl : xs.length < 64) (ne : xs ≠ []) : sortAD false [.loc l] st = .ok (.lst ((srtI (xs.map f)).map D.int)) st := by
  unfold sortAD; simp only [dkeys_at h]
  have : txtKeys ((xs.map fun x => ((Sum.inl (f x) : Key), hh x)).map (·.1)) = none := by
    cases xs with
    | nil => exact absurd rfl ne
    | cons a r => rfl
  unfold sortKD; simp only [dkeys_at h, this, intKeys_map]
  rw [if_pos (by rw [List.length_map]; exact hl)]
  rfl
end
end DL

/-! CM: a router as plain data, and how it lies in a store. -/
namespace DL
open PySem PySem.Spec PyProof.Rows L2
structure Nb where
  l : Nat
  ls : Nat
  lt : Nat
  up : Bool
  rin : List RuleS
  rout : List RuleS
  said : List (Str × RouteS)
  told : List (Str × RouteS)
structure Rt where
  l : Nat
  lo : Nat
  lw : Nat
  z : Bool
  num : Int
  others : List (Int × Nb)
  owned : List (Str × Unit)
def saidD (kvs : List (Str × RouteS)) : List (Key × D) := aEnc Sum.inr RouteS.enc kvs
def Nb.ob (b : Nb) : Ob := .ins 4 [.bl b.up, .lst (b.rin.map RuleS.enc), .lst (b.rout.map RuleS.enc), .loc b.ls, .loc b.lt]
structure NbAt (st : Sto) (b : Nb) : Prop where
  i : st[b.l]? = some (.ins 4 [.bl b.up, .lst (b.rin.map RuleS.enc), .lst (b.rout.map RuleS.enc), .loc b.ls, .loc b.lt])
  s : st[b.ls]? = some (.dk false (saidD b.said))
  t : st[b.lt]? = some (.dk false (saidD b.told))
def Nb.pl (b : Nb) : List Nat := [b.l, b.ls, b.lt]
def nbLoc (b : Nb) : D := .loc b.l
def Rt.oD (R : Rt) : List (Key × D) := aEnc Sum.inl nbLoc R.others
def unitT (_ : Unit) : D := .bl true
def Rt.wD (R : Rt) : List (Key × D) := aEnc Sum.inr unitT R.owned
def Rt.pl (R : Rt) : List Nat := R.l :: R.lo :: R.lw :: R.others.flatMap fun x => x.2.pl
structure RAt (st : Sto) (R : Rt) : Prop where
  i : st[R.l]? = some (.ins 5 [.int R.num, .loc R.lo, .loc R.lw])
  o : st[R.lo]? = some (.dk R.z R.oD)
  w : st[R.lw]? = some (.dk false R.wD)
  n : ∀ x ∈ R.others, NbAt st x.2
  nd : R.pl.Nodup
  keys : (R.others.map (·.1)).Nodup
def Rt.nb (R : Rt) (o : Int) : Option Nb := aGet R.others o
def Rt.setNb (R : Rt) (o : Int) (b : Nb) : Rt := { R with others := aPut R.others o b }
theorem lt_of_get {st : Sto} {l : Nat} {o : Ob} (h : st[l]? = some o) : l < st.length := (List.getElem?_eq_some_iff.mp h).1
theorem NbAt.frame {st st' : Sto} {b : Nb} (h : NbAt st b) (k : ∀ q ∈ b.pl, st'[q]? = st[q]?) : NbAt st' b :=
  ⟨by rw [k b.l (by simp [Nb.pl])]; exact h.i, by rw [k b.ls (by simp [Nb.pl])]; exact h.s, by rw [k b.lt (by simp [Nb.pl])]; exact h.t⟩
theorem NbAt.lt {st : Sto} {b : Nb} (h : NbAt st b) : ∀ q ∈ b.pl, q < st.length := fun q hq => by
  simp only [Nb.pl, List.mem_cons, List.mem_nil_iff, or_false] at hq
  rcases hq with rfl | rfl | rfl
  · exact lt_of_get h.i
  · exact lt_of_get h.s
  · exact lt_of_get h.t
theorem Rt.mem_pl {R : Rt} {q : Nat} : q ∈ R.pl ↔ q = R.l ∨ q = R.lo ∨ q = R.lw ∨ ∃ x ∈ R.others, q ∈ x.2.pl := by
  simp only [Rt.pl, List.mem_cons, List.mem_flatMap]
theorem RAt.lt {st : Sto} {R : Rt} (h : RAt st R) : ∀ q ∈ R.pl, q < st.length := fun q hq => by
  rcases Rt.mem_pl.mp hq with rfl | rfl | rfl | ⟨x, hx, hq⟩
  · exact lt_of_get h.i
  · exact lt_of_get h.o
  · exact lt_of_get h.w
  · exact (h.n x hx).lt q hq
theorem RAt.frame {st st' : Sto} {R : Rt} (h : RAt st R) (k : ∀ q ∈ R.pl, st'[q]? = st[q]?) : RAt st' R :=
  ⟨by rw [k R.l (Rt.mem_pl.mpr (.inl rfl))]; exact h.i, by rw [k R.lo (Rt.mem_pl.mpr (.inr (.inl rfl)))]; exact h.o, by rw [k R.lw (Rt.mem_pl.mpr (.inr (.inr (.inl rfl))))]; exact h.w,
    fun x hx => (h.n x hx).frame fun q hq => k q (Rt.mem_pl.mpr (.inr (.inr (.inr ⟨x, hx, hq⟩)))), h.nd, h.keys⟩
/-- the row split at a key that is there -/
theorem aPut_split {κ α : Type} [DecidableEq κ] {o : κ} {b : α} : ∀ {kvs : List (κ × α)}, (kvs.map (·.1)).Nodup → aGet kvs o = some b → ∃ A B, kvs = A ++ (o, b) :: B ∧ (∀ b', aPut kvs o b' = A ++ (o, b') :: B) ∧ (∀ x ∈ A, x.1 ≠ o) ∧ ∀ x ∈ B, x.1 ≠ o := fun {kvs} nd h => by
  obtain ⟨A, B, e⟩ := List.append_of_mem (aGet_mem h)
  subst e
  rw [List.map_append, List.map_cons, List.nodup_append, List.nodup_cons] at nd
  have hA : ∀ x ∈ A, x.1 ≠ o := fun x hx e => nd.2.2 x.1 (List.mem_map.mpr ⟨x, hx, rfl⟩) o List.mem_cons_self e
  have hB : ∀ x ∈ B, x.1 ≠ o := fun x hx e => nd.2.1.1 (by rw [← e]; exact List.mem_map.mpr ⟨x, hx, rfl⟩)
  refine ⟨A, B, rfl, fun b' => ?_, hA, hB⟩
  unfold aPut
  rw [if_pos (by simp), List.map_append, List.map_cons, if_pos rfl]
  have k : ∀ (l : List (κ × α)), (∀ x ∈ l, x.1 ≠ o) → (l.map fun kv => if kv.1 = o then (kv.1, b') else kv) = l := fun l hl => by
    conv => rhs; rw [← List.map_id l]
    exact List.map_congr_left fun x hx => if_neg (hl x hx)
  rw [k A hA, k B hB]
/-- one neighbour's cells are laid anew, some perhaps at new places -/
theorem RAt.upd {st st' : Sto} {R : Rt} {o : Int} {b b' : Nb} (h : RAt st R) (hb : aGet R.others o = some b) (k : ∀ q < st.length, q ∉ b.pl → st'[q]? = st[q]?) (hn : NbAt st' b') (hl : b'.l = b.l) (nd : b'.pl.Nodup) (hp : ∀ q ∈ b'.pl, q ∈ b.pl ∨ st.length ≤ q) : RAt st' (R.setNb o b') := by
  obtain ⟨A, B, e1, e2, hA, hB⟩ := aPut_split h.keys hb
  have e2 := e2 b'
  have nd0 := h.nd
  have hlt := h.lt
  have hi := h.i
  have ho := h.o
  have hw := h.w
  have hnn := h.n
  have hk := h.keys
  obtain ⟨l, lo, lw, z, num, others, owned⟩ := R
  dsimp only at *
  subst e1
  simp only [Rt.pl, List.flatMap_append, List.flatMap_cons] at nd0 hlt
  have D : ∀ q, q ∈ l :: lo :: lw :: (A.flatMap (fun x => x.2.pl)) ∨ q ∈ B.flatMap (fun x => x.2.pl) → q ∉ b.pl ∧ q < st.length := fun q hq => by
    refine ⟨fun hqb => ?_, hlt q ?_⟩
    · simp only [List.nodup_cons, List.nodup_append, List.mem_append, not_or, List.mem_cons] at nd0 hq
      obtain ⟨⟨a1, a2, a3, a4, a5⟩, ⟨b1, b2, b3, b4⟩, ⟨c1, c2, c3⟩, d1, ⟨f1, f2, f3⟩, g1⟩ := nd0
      rcases hq with (rfl | rfl | rfl | hq) | hq
      · exact a4 hqb
      · exact b3 hqb
      · exact c2 hqb
      · exact g1 q hq q (.inl hqb) rfl
      · exact f3 q hqb q hq rfl
    · simp only [List.mem_append, List.mem_cons] at hq ⊢
      rcases hq with (h | h | h | h) | h
      · exact .inl h
      · exact .inr (.inl h)
      · exact .inr (.inr (.inl h))
      · exact .inr (.inr (.inr (.inl h)))
      · exact .inr (.inr (.inr (.inr (.inr h))))
  have fr : ∀ q, q ∈ l :: lo :: lw :: (A.flatMap (fun x => x.2.pl)) ∨ q ∈ B.flatMap (fun x => x.2.pl) → st'[q]? = st[q]? ∧ q ∉ b'.pl := fun q hq => by
    obtain ⟨d1, d2⟩ := D q hq
    refine ⟨k q d2 d1, fun z => ?_⟩
    rcases hp q z with z | z
    · exact d1 z
    · omega
  unfold Rt.setNb
  rw [e2]
  refine ⟨by rw [(fr l (.inl List.mem_cons_self)).1]; exact hi, ?_, by rw [(fr lw (.inl (by simp))).1]; exact hw, fun x hx => ?_, ?_, ?_⟩
  · rw [(fr lo (.inl (by simp))).1, ho]
    show _ = some (Ob.dk z (aEnc Sum.inl nbLoc (A ++ (o, b') :: B)))
    unfold Rt.oD aEnc
    rw [List.map_append, List.map_append, List.map_cons, List.map_cons]
    unfold nbLoc
    rw [hl]
  · rcases List.mem_append.mp hx with hx | hx
    · exact (hnn x (List.mem_append_left _ hx)).frame fun q hq => (fr q (.inl (by simp only [List.mem_cons, List.mem_flatMap]; exact .inr (.inr (.inr ⟨x, hx, hq⟩))))).1
    · rcases List.mem_cons.mp hx with e | hx
      · rw [e]; exact hn
      · exact (hnn x (List.mem_append_right _ (List.mem_cons_of_mem _ hx))).frame fun q hq => (fr q (.inr (List.mem_flatMap.mpr ⟨x, hx, hq⟩))).1
  · simp only [Rt.pl, List.flatMap_append, List.flatMap_cons]
    have FA : ∀ q ∈ A.flatMap (fun x => x.2.pl), q ∉ b'.pl := fun q hq => (fr q (.inl (by simp only [List.mem_cons]; exact .inr (.inr (.inr hq))))).2
    have FB : ∀ q ∈ B.flatMap (fun x => x.2.pl), q ∉ b'.pl := fun q hq => (fr q (.inr hq)).2
    have F1 := (fr l (.inl (by simp))).2
    have F2 := (fr lo (.inl (by simp))).2
    have F3 := (fr lw (.inl (by simp))).2
    simp only [List.nodup_cons, List.nodup_append, List.mem_append, not_or, List.mem_cons] at nd0 ⊢
    obtain ⟨⟨a1, a2, a3, a4, a5⟩, ⟨b1, b2, b3, b4⟩, ⟨c1, c2, c3⟩, d1, ⟨f1, f2, f3⟩, g1⟩ := nd0
    refine ⟨⟨a1, a2, a3, F1, a5⟩, ⟨b1, b2, F2, b4⟩, ⟨c1, F3, c3⟩, d1, ⟨nd, f2, fun x hx y hy e => FB y hy (e ▸ hx)⟩, fun x hx y hy e => ?_⟩
    rcases hy with hy | hy
    · exact FA x hx (e ▸ hy)
    · exact g1 x hx y (.inr hy) e
  · rw [List.map_append, List.map_cons] at hk ⊢
    exact hk
/-- what is changed of a store -/
structure Chg (F : List Nat) (st st' : Sto) (F' : List Nat) : Prop where
  keep : ∀ q < st.length, q ∉ F → st'[q]? = st[q]?
  len : st.length ≤ st'.length
  new : ∀ q ∈ F', q ∈ F ∨ st.length ≤ q
theorem Chg.refl (F : List Nat) (st : Sto) : Chg F st st F := ⟨fun _ _ _ => rfl, Nat.le_refl _, fun _ h => .inl h⟩
theorem Chg.trans {F F1 F2 : List Nat} {st st1 st2 : Sto} (a : Chg F st st1 F1) (b : Chg F1 st1 st2 F2) : Chg F st st2 F2 :=
  ⟨fun q hq n => by
    rw [b.keep q (Nat.lt_of_lt_of_le hq a.len) fun m => (a.new q m).elim n fun z => by omega, a.keep q hq n], Nat.le_trans a.len b.len, fun q hq => (b.new q hq).elim (a.new q) fun z => .inr (Nat.le_trans a.len z)⟩
end DL

/-! CR1: what is a prefix, a route, a rule. -/
namespace DL
open PySem PySem.Spec PyProof.Rows L2
theorem compG_cons {tg : Tg} {t : DT} {f : DE} {env env' : En} {d : D} {ds : List D} {st : Sto} (h : tg d env = some env') : compL tg t f env (d :: ds) st = (noX (t env' st)).bind fun c st => if c = true then (noX (f env' st)).bind fun y st => (compL tg t f env ds st).bind fun ys st => .ok (y :: ys) st else compL tg t f env ds st := by
  conv => lhs; unfold compL
  rw [h]
theorem compG_map {tg : Tg} {f : DE} {env : En} {st : Sto} {α : Type} (enc : α → D) (h : α → D) : ∀ (as : List α), (∀ a ∈ as, ∃ env', tg (enc a) env = some env' ∧ f env' st = .ok (h a) st) → compL tg dYes f env (as.map enc) st = .ok (as.map h) st
  | [], _ => rfl
  | a :: as, hh => by
    obtain ⟨env', e1, e2⟩ := hh a List.mem_cons_self
    have ih := compG_map enc h as fun b hb => hh b (List.mem_cons_of_mem _ hb)
    rw [List.map_cons, compG_cons e1, show dYes env' st = .ok true st from rfl, noX_ok, Rs.bind_ok, if_pos rfl, e2, noX_ok, Rs.bind_ok, ih]
    rfl
theorem compG_filter {tg : Tg} {t : DT} {f : DE} {env : En} {st : Sto} {α : Type} (enc : α → D) (p : α → Bool) (h : α → D) : ∀ (as : List α), (∀ a ∈ as, ∃ env', tg (enc a) env = some env' ∧ t env' st = .ok (p a) st ∧ (p a = true → f env' st = .ok (h a) st)) → compL tg t f env (as.map enc) st = .ok ((as.filter p).map h) st
  | [], _ => rfl
  | a :: as, hh => by
    obtain ⟨env', e1, e2, e3⟩ := hh a List.mem_cons_self
    have ih := compG_filter enc p h as fun b hb => hh b (List.mem_cons_of_mem _ hb)
    rw [List.map_cons, compG_cons e1, e2, noX_ok, Rs.bind_ok]
    cases hp : p a with
    | false => rw [if_neg Bool.false_ne_true, ih, List.filter_cons_of_neg (by simp [hp])]
    | true =>
      rw [if_pos rfl, e3 hp, noX_ok, Rs.bind_ok, ih, List.filter_cons_of_pos hp]
      rfl
theorem all_map {α : Type} (p : α → Bool) (as : List α) (st : Sto) : allD [.lst (as.map fun a => D.bl (p a))] st = .ok (.bl (as.all p)) st := by
  have e : (as.map fun a => D.bl (p a)) = (as.map p).map D.bl := by rw [List.map_map]; rfl
  rw [e]
  unfold allD
  simp only [bls?_map]
  rw [List.all_map]
  rfl
def isBit (c : Nat) : Bool := c == 48 || c == 49
def isPfx (s : Str) : Bool := decide (s.length ≤ 16) && s.cps.toList.all isBit
theorem isPfx_of {s : Str} (h : Bit 16 s) : isPfx s = true := by
  unfold isPfx
  rw [Bool.and_eq_true, decide_eq_true_eq, List.all_eq_true]
  refine ⟨h.1, fun c hc => ?_⟩
  rcases h.2 c hc with rfl | rfl <;> rfl
theorem bit_of {s : Str} (h : isPfx s = true) : Bit 16 s := by
  unfold isPfx at h
  rw [Bool.and_eq_true, decide_eq_true_eq, List.all_eq_true] at h
  refine ⟨h.1, fun c hc => ?_⟩
  have := h.2 c hc
  simpa [isBit] using this
theorem sign_in (c : Nat) (st : Sto) : inD (.str ⟨#[c]⟩) (.str "01") st = .ok (.bl (isBit c)) st := by
  have e : strIn ⟨#[c]⟩ "01" = decide (c ∈ ("01" : Str).cps.toList) := StrLaws.found_one ("01" : Str) c
  have e2 : ("01" : Str).cps.toList = [48, 49] := by decide
  show Rs.ok (D.bl (strIn ⟨#[c]⟩ "01")) st = _
  rw [e, e2]
  congr 2
  rw [Bool.eq_iff_iff]
  simp [isBit]
theorem is_prefix_ok {s : Str} (hl : s.length ≤ 1000) (st : Sto) : fn_is_prefix [.str s] st = .ok (.bl (isPfx s)) st := by
  refine Fn.clean_same ?_ rfl
  have hc : compL (tgN 1) dYes b_is_prefix_c1 [some (.str s), none] (s.cps.toList.map fun c => D.str ⟨#[c]⟩) st = .ok (s.cps.toList.map fun c => D.bl (isBit c)) st :=
    compL_map (fun c => D.str ⟨#[c]⟩) (fun c => D.bl (isBit c)) _ fun c _ => by simp [b_is_prefix_c1, sign_in]
  have hd := dComp_of (vs := [1]) (src := dIterA (dV 0)) (tg := tgN 1) (t := dYes) (f := b_is_prefix_c1) (env := [some (.str s), none]) (st := st) (st1 := st) (by simp [asAny, signs]) hc (by rw [List.length_map, ← str_len]; omega)
  have ha := all_map isBit s.cps.toList st
  have hle : leD (.int (s.length : Int)) (.int 16) st = .ok (.bl (decide (s.length ≤ 16))) st := by
    rw [leD_int]; congr 2; rw [Bool.eq_iff_iff]; simp; omega
  unfold isPfx
  simp only [b_is_prefix, runF_def]
  cases h : decide (s.length ≤ 16) with
  | false => rw [h] at hle; simp [len_str, hle]
  | true => rw [h] at hle; simp [len_str, hle, hd, ha]
/-! ### tags -/
def inB1 (lo hi : Int) (n : Int) : Bool := decide (lo ≤ n) && decide (n ≤ hi)
def risingB (ts : List Int) : Bool := (ts.zip ts.tail).all fun x => decide (x.1 < x.2)
def tagsB (ts : List Int) : Bool := decide (ts.length ≤ 4) && ts.all (inB1 1 99) && risingB ts
theorem chain_le (a b c : Int) (st : Sto) (k : Sto → Rs D) (hk : k st = leD (.int b) (.int c) st) : chainK (leD (.int a) (.int b) st) k = .ok (.bl (inB1 a c b)) st := by
  rw [leD_int, chainK_ok, hk, leD_int]
  unfold inB1
  cases decide (a ≤ b) <;> rfl
theorem zip_ints (ts us : List Int) : List.zipWith pairD (ts.map D.int) (us.map D.int) = (ts.zip us).map fun x => pairD (.int x.1) (.int x.2) := by
  induction ts generalizing us with
  | nil => rfl
  | cons t ts ih => cases us with
    | nil => rfl
    | cons u us => simp only [List.map_cons, List.zipWith_cons_cons, List.zip_cons_cons, ih]
theorem zip_tail (ts : List Int) : List.zipWith pairD (ts.map D.int) (ts.map D.int).tail = (ts.zip ts.tail).map fun x => pairD (.int x.1) (.int x.2) := by
  rw [← List.map_tail]; exact zip_ints _ _
theorem are_tags_ok {ts : List Int} (hl : ts.length ≤ 1000) (st : Sto) : fn_are_tags [.tup (ts.map D.int)] st = .ok (.bl (tagsB ts)) st := by
  refine Fn.clean_same ?_ rfl
  have hc : compL (tgN 1) dYes b_are_tags_c1 [some (.tup (ts.map D.int)), none, none, none] (ts.map D.int) st = .ok (ts.map fun t => D.bl (inB1 1 99 t)) st :=
    compL_map D.int (fun t => D.bl (inB1 1 99 t)) _ fun t _ => by
      have := chain_le 1 t 99 st (fun st => leD (.int t) (.int 99) st) rfl
      simp [b_are_tags_c1, this, -leD_int]
  have hd := dComp_of (vs := [1]) (src := dIterA (dV 0)) (tg := tgN 1) (t := dYes) (f := b_are_tags_c1) (env := [some (.tup (ts.map D.int)), none, none, none]) (st := st) (st1 := st) (by simp) hc (by simp; omega)
  have ha := all_map (inB1 1 99) ts st
  have hcut : slD (.tup (ts.map D.int)) (some 1) none st = .ok (.tup (ts.map D.int).tail) st := by
    show Rs.ok (D.tup (cutD _ _ _)) st = _
    rw [cutD_from _ (by decide), ← List.drop_one]; rfl
  have hc2 : compL (tgT [2, 3]) dYes b_are_tags_c2 [some (.tup (ts.map D.int)), none, none, none] ((ts.zip ts.tail).map fun x => pairD (.int x.1) (.int x.2)) st = .ok ((ts.zip ts.tail).map fun x => D.bl (decide (x.1 < x.2))) st :=
    compG_map (fun x : Int × Int => pairD (.int x.1) (.int x.2)) (fun x => D.bl (decide (x.1 < x.2))) _ fun x _ => ⟨[some (.tup (ts.map D.int)), none, some (.int x.1), some (.int x.2)], rfl, by simp [b_are_tags_c2]⟩
  have hd2 := dComp_of (vs := [2, 3]) (src := dIterZ [(dV 0), (dSl (dV 0) (dPart (dC (.int 1))) dNoPart)]) (tg := tgT [2, 3]) (t := dYes) (f := b_are_tags_c2) (env := [some (.tup (ts.map D.int)), none, none, none]) (st := st) (st1 := st)
    (by simp [hcut, zip_tail]) hc2 (by rw [List.length_map, List.length_zip]; omega)
  have ha2 := all_map (fun x : Int × Int => decide (x.1 < x.2)) (ts.zip ts.tail) st
  have hgt : gtD (.int (ts.length : Int)) (.int 4) st = .ok (.bl (!decide (ts.length ≤ 4))) st := by
    rw [gtD_int]; congr 2; rw [Bool.eq_iff_iff]; simp; omega
  unfold tagsB risingB
  simp only [b_are_tags, b_are_tags_i1, runF_def]
  cases h : decide (ts.length ≤ 4) with
  | false => rw [h] at hgt; simp [len_tup, hgt, -gtD_int]
  | true =>
    rw [h] at hgt
    cases h2 : ts.all (inB1 1 99) with
    | false => rw [h2] at ha; simp [len_tup, hgt, -gtD_int, hd, ha]
    | true => rw [h2] at ha; simp [len_tup, hgt, -gtD_int, hd, ha, hd2, ha2]
/-! ### need_prefix, need_route, need_rule -/
theorem need_prefix_ok {s : Str} (hl : s.length ≤ 1000) (st : Sto) : fn_need_prefix [.str s] st = if isPfx s = true then .ok .non st else .exc 1 st := by
  have h := is_prefix_ok hl st
  by_cases hp : isPfx s = true
  · rw [if_pos hp]
    rw [hp] at h
    refine Fn.clean_same ?_ rfl
    simp [b_need_prefix, b_need_prefix_i1, h]
  · rw [if_neg hp]
    rw [Bool.not_eq_true _ |>.mp hp] at h
    refine Fn.clean_exc (ext := []) ?_
    simp [b_need_prefix, b_need_prefix_i1, h]
structure GoodRoute (q : RouteS) : Prop where
  pfx : isPfx q.pfx = true
  path : (1 ≤ q.path.length ∧ q.path.length ≤ 12) ∧ q.path.all (inB1 1 999) = true
  weight : inB1 0 1000 q.weight = true
  tags : tagsB q.tags = true
instance (q : RouteS) : Decidable (GoodRoute q) := decidable_of_iff (isPfx q.pfx = true ∧ ((1 ≤ q.path.length ∧ q.path.length ≤ 12) ∧ q.path.all (inB1 1 999) = true) ∧ inB1 0 1000 q.weight = true ∧ tagsB q.tags = true) ⟨fun ⟨a, b, c, d⟩ => ⟨a, b, c, d⟩, fun ⟨a, b, c, d⟩ => ⟨a, b, c, d⟩⟩
theorem good_iff (q : RouteS) : GoodRoute q ↔ isPfx q.pfx = true ∧ ((1 ≤ q.path.length ∧ q.path.length ≤ 12) ∧ q.path.all (inB1 1 999) = true) ∧ inB1 0 1000 q.weight = true ∧ tagsB q.tags = true := ⟨fun ⟨a, b, c, d⟩ => ⟨a, b, c, d⟩, fun ⟨a, b, c, d⟩ => ⟨a, b, c, d⟩⟩
theorem need_route_ok {q : RouteS} (h1 : q.pfx.length ≤ 1000) (h2 : q.path.length ≤ 1000) (h3 : q.tags.length ≤ 1000) (st : Sto) : fn_need_route [q.enc] st = if GoodRoute q then .ok .non st else .exc 1 st := by
  have hp := need_prefix_ok h1 st
  have ht := are_tags_ok h3 st
  have hc : compL (tgN 5) dYes b_need_route_c1 [some q.enc, some (.str q.pfx), some (.tup (q.path.map D.int)), some (.int q.weight), some (.tup (q.tags.map D.int)), none] (q.path.map D.int) st = .ok (q.path.map fun t => D.bl (inB1 1 999 t)) st :=
    compL_map D.int (fun t => D.bl (inB1 1 999 t)) _ fun t _ => by
      have := chain_le 1 t 999 st (fun st => leD (.int t) (.int 999) st) rfl
      simp [b_need_route_c1, this, -leD_int]
  have hd := dComp_of (vs := [5]) (src := dIterA (dV 2)) (tg := tgN 5) (t := dYes) (f := b_need_route_c1) (env := [some q.enc, some (.str q.pfx), some (.tup (q.path.map D.int)), some (.int q.weight), some (.tup (q.tags.map D.int)), none]) (st := st) (st1 := st) (by simp) hc (by simp; omega)
  have ha := all_map (inB1 1 999) q.path st
  have hw := chain_le 0 q.weight 1000 st (fun st => leD (.int q.weight) (.int 1000) st) rfl
  have hn : chainK (leD (.int 1) (.int (q.path.length : Int)) st) (fun st => leD (.int (q.path.length : Int)) (.int 12) st) = .ok (.bl (decide (1 ≤ q.path.length ∧ q.path.length ≤ 12))) st := by
    rw [chain_le 1 _ 12 st _ rfl]
    congr 2
    unfold inB1
    rw [Bool.eq_iff_iff, Bool.and_eq_true]
    simp
    omega
  have he : q.enc = .tup [.str q.pfx, .tup (q.path.map D.int), .int q.weight, .tup (q.tags.map D.int)] := rfl
  rw [he] at hd ⊢
  by_cases c1 : isPfx q.pfx = true
  · rw [if_pos c1] at hp
    by_cases c2 : 1 ≤ q.path.length ∧ q.path.length ≤ 12
    · rw [decide_eq_true c2] at hn
      cases c3 : q.path.all (inB1 1 999) with
      | false =>
        rw [c3] at ha
        rw [if_neg fun h => by rw [h.path.2] at c3; cases c3]
        refine Fn.clean_exc (ext := []) ?_
        simp [b_need_route, b_need_route_i1, b_need_route_i2, hp, hn, hd, ha, len_tup, -leD_int]
      | true =>
        rw [c3] at ha
        cases c4 : inB1 0 1000 q.weight with
        | false =>
          rw [c4] at hw
          rw [if_neg fun h => by rw [h.weight] at c4; cases c4]
          refine Fn.clean_exc (ext := []) ?_
          simp [b_need_route, b_need_route_i1, b_need_route_i2, hp, hn, hd, ha, hw, len_tup, -leD_int]
        | true =>
          rw [c4] at hw
          cases c5 : tagsB q.tags with
          | false =>
            rw [c5] at ht
            rw [if_neg fun h => by rw [h.tags] at c5; cases c5]
            refine Fn.clean_exc (ext := []) ?_
            simp [b_need_route, b_need_route_i1, b_need_route_i2, hp, hn, hd, ha, hw, ht, len_tup, -leD_int]
          | true =>
            rw [c5] at ht
            rw [if_pos ⟨c1, ⟨c2, c3⟩, c4, c5⟩]
            refine Fn.clean_same ?_ rfl
            simp [b_need_route, b_need_route_i1, b_need_route_i2, hp, hn, hd, ha, hw, ht, len_tup, -leD_int]
    · rw [decide_eq_false c2] at hn
      rw [if_neg fun h => c2 h.path.1]
      refine Fn.clean_exc (ext := []) ?_
      simp [b_need_route, b_need_route_i1, b_need_route_i2, hp, hn, len_tup, -leD_int]
  · rw [if_neg c1] at hp
    rw [if_neg fun h => c1 h.pfx]
    refine Fn.clean_exc (ext := []) ?_
    simp [b_need_route, b_need_route_i1, b_need_route_i2, hp]
end DL

/-! CR2: what is a rule. -/
namespace DL
open PySem PySem.Spec PyProof.Rows L2
def deedB (d : Str) : Bool := (["no", "yes", "on"] : List Str).any fun z => z == d
def prefB (o : Option Int) : Bool := match o with
  | none => true
  | some i => inB1 0 1000 i
def goodRuleB (r : RuleS) : Bool := (isPfx r.pfx && (inB1 0 16 r.longest && inB1 0 999 r.number)) && ((([r.tag, r.more, r.less].all (inB1 0 99)) && deedB r.deed) && (prefB r.prefer && inB1 0 3 r.ahead))
theorem need_rule_ok {r : RuleS} (h1 : r.pfx.length ≤ 1000) (st : Sto) : fn_need_rule [r.enc] st = if goodRuleB r = true then .ok .non st else .exc 2 st := by
  have hp := is_prefix_ok h1 st
  have hl := chain_le 0 r.longest 16 st (fun st => leD (.int r.longest) (.int 16) st) rfl
  have hn := chain_le 0 r.number 999 st (fun st => leD (.int r.number) (.int 999) st) rfl
  have hah := chain_le 0 r.ahead 3 st (fun st => leD (.int r.ahead) (.int 3) st) rfl
  have hdd := notIn_kt r.deed ["no", "yes", "on"] st
  have hc : ∀ a b c d e f g h i : Option D, compL (tgN 10) dYes b_need_rule_c1 [some r.enc, a, b, c, d, e, f, g, h, i, none] ([r.tag, r.more, r.less].map D.int) st = .ok ([r.tag, r.more, r.less].map fun t => D.bl (inB1 0 99 t)) st := fun a b c d e f g h i =>
    compL_map D.int (fun t => D.bl (inB1 0 99 t)) _ fun t _ => by
      have := chain_le 0 t 99 st (fun st => leD (.int t) (.int 99) st) rfl
      simp [b_need_rule_c1, this, -leD_int]
  have hd := dComp_of (vs := [10]) (src := dIterA (dTup [(dV 4), (dV 7), (dV 8)])) (tg := tgN 10) (t := dYes) (f := b_need_rule_c1) (env := [some r.enc, some (.str r.pfx), some (.int r.longest), some (.int r.number), some (.int r.tag), some (.str r.deed), some (optD r.prefer), some (.int r.more), some (.int r.less), some (.int r.ahead), none]) (st := st) (st1 := st)
    (by simp) (hc _ _ _ _ _ _ _ _ _) (by simp)
  have ha := all_map (inB1 0 99) [r.tag, r.more, r.less] st
  generalize ([r.tag, r.more, r.less].map fun t => D.bl (inB1 0 99 t)) = cl at *
  have he : r.enc = .tup [.str r.pfx, .int r.longest, .int r.number, .int r.tag, .str r.deed, optD r.prefer, .int r.more, .int r.less, .int r.ahead] := rfl
  rw [he] at hd ⊢
  unfold goodRuleB
  have hdd' : notInD (.str r.deed) (.kt ["no", "yes", "on"]) st = .ok (.bl (!deedB r.deed)) st := hdd
  generalize [r.tag, r.more, r.less].all (inB1 0 99) = c3 at *
  generalize deedB r.deed = c4 at *
  generalize inB1 0 3 r.ahead = c5 at *
  generalize inB1 0 16 r.longest = c6 at *
  generalize inB1 0 999 r.number = c7 at *
  generalize isPfx r.pfx = c8 at *
  cases c8
  case false =>
    rw [if_neg (by simp)]
    refine Fn.clean_exc (ext := []) ?_
    simp [b_need_rule, b_need_rule_i1, hp]
  cases c6
  case false =>
    rw [if_neg (by simp)]
    refine Fn.clean_exc (ext := []) ?_
    simp [b_need_rule, b_need_rule_i1, hp, hl, -leD_int]
  cases c7
  case false =>
    rw [if_neg (by simp)]
    refine Fn.clean_exc (ext := []) ?_
    simp [b_need_rule, b_need_rule_i1, hp, hl, hn, -leD_int]
  cases c3
  case false =>
    rw [if_neg (by simp)]
    refine Fn.clean_exc (ext := []) ?_
    simp [b_need_rule, b_need_rule_i1, b_need_rule_i2, hp, hl, hn, hd, ha, -leD_int]
  cases c4
  case false =>
    rw [if_neg (by simp)]
    refine Fn.clean_exc (ext := []) ?_
    simp [b_need_rule, b_need_rule_i1, b_need_rule_i2, hp, hl, hn, hd, ha, hdd', -leD_int]
  cases hpr : r.prefer with
  | none =>
    rw [hpr] at hd
    have hd : dComp [10] (dIterA (dTup [dV 4, dV 7, dV 8])) (tgN 10) dYes b_need_rule_c1 [some (.tup [.str r.pfx, .int r.longest, .int r.number, .int r.tag, .str r.deed, .non, .int r.more, .int r.less, .int r.ahead]), some (.str r.pfx), some (.int r.longest), some (.int r.number), some (.int r.tag), some (.str r.deed), some .non, some (.int r.more), some (.int r.less), some (.int r.ahead), none] st = _ := hd
    cases c5
    · rw [if_neg (by simp)]
      refine Fn.clean_exc (ext := []) ?_
      simp [b_need_rule, b_need_rule_i1, b_need_rule_i2, b_need_rule_i3, hp, hl, hn, hd, ha, hdd', hah, optD, -leD_int]
    · rw [if_pos (by simp [prefB])]
      refine Fn.clean_same ?_ rfl
      simp [b_need_rule, b_need_rule_i1, b_need_rule_i2, b_need_rule_i3, hp, hl, hn, hd, ha, hdd', hah, optD, -leD_int]
  | some i =>
    rw [hpr] at hd
    have hd : dComp [10] (dIterA (dTup [dV 4, dV 7, dV 8])) (tgN 10) dYes b_need_rule_c1 [some (.tup [.str r.pfx, .int r.longest, .int r.number, .int r.tag, .str r.deed, .int i, .int r.more, .int r.less, .int r.ahead]), some (.str r.pfx), some (.int r.longest), some (.int r.number), some (.int r.tag), some (.str r.deed), some (.int i), some (.int r.more), some (.int r.less), some (.int r.ahead), none] st = _ := hd
    have hpi := chain_le 0 i 1000 st (fun st => leD (.int i) (.int 1000) st) rfl
    have e2 : prefB (some i) = inB1 0 1000 i := rfl
    rw [e2]
    generalize inB1 0 1000 i = c9 at *
    cases c9
    case false =>
      rw [if_neg (by simp)]
      refine Fn.clean_exc (ext := []) ?_
      simp [b_need_rule, b_need_rule_i1, b_need_rule_i2, b_need_rule_i3, hp, hl, hn, hd, ha, hdd', hpi, optD, -leD_int]
    cases c5
    · rw [if_neg (by simp)]
      refine Fn.clean_exc (ext := []) ?_
      simp [b_need_rule, b_need_rule_i1, b_need_rule_i2, b_need_rule_i3, hp, hl, hn, hd, ha, hdd', hah, hpi, optD, -leD_int]
    · rw [if_pos (by simp)]
      refine Fn.clean_same ?_ rfl
      simp [b_need_rule, b_need_rule_i1, b_need_rule_i2, b_need_rule_i3, hp, hl, hn, hd, ha, hdd', hah, hpi, optD, -leD_int]
end DL

/-! CR3: what is chosen for a prefix. -/
namespace DL
open PySem PySem.Spec PyProof.Rows L2
open PySem.W (AlikeAll dataLt alike alikeAll keyToks keyToksAll)
/-- a choice: whose, the route, the preference -/
abbrev Ch := Int × RouteS × Int
def offerM (num o : Int) (b : Nb) (p : Str) : Option Ch :=
  match aGet b.said p with
  | none => none
  | some q => if memB num q.path = true then none else (judgedS b.rin q 100 0).map fun x => (o, x.1, x.2.1)
def chD (c : Ch) : D := .tup [.int c.1, c.2.1.enc, .int c.2.2]
def offD (c : Ch) : D := .tup [.tup [.int (0 - c.2.2), .int (c.2.1.path.length : Int), .int c.2.1.weight, .int c.1], chD c]
def optOff : Option Ch → D
  | none => .non
  | some c => offD c
def optCh : Option Ch → D
  | none => .non
  | some c => chD c
theorem nbLoc_eq (b : Nb) : nbLoc b = .loc b.l := rfl
theorem RAt.look {st : Sto} {R : Rt} (h : RAt st R) (o : Int) : look R.oD (.inl o) = (aGet R.others o).map nbLoc := look_enc inl_inj o R.others
theorem saidD_look (kvs : List (Str × RouteS)) (p : Str) : look (saidD kvs) (.inr p) = (aGet kvs p).map RouteS.enc := look_enc inr_inj p kvs
theorem RAt.ixo {st : Sto} {R : Rt} (h : RAt st R) {o : Int} {b : Nb} (hb : aGet R.others o = some b) : ixD (.loc R.lo) (.int o) st = .ok (.loc b.l) st := ix_at h.o (key_int o) (by rw [h.look, hb]; rfl)
theorem RAt.nbAt {st : Sto} {R : Rt} (h : RAt st R) {o : Int} {b : Nb} (hb : aGet R.others o = some b) : NbAt st b := h.n (o, b) (aGet_mem hb)
@[simp] theorem subI_int' (i j : Int) (st : Sto) : subI (.int i) (.int j) st = .ok (.int (i - j)) st := nrfl rfl
theorem ix_route1 (q : RouteS) (st : Sto) : ixD q.enc (.int 1) st = .ok (.tup (q.path.map D.int)) st := nrfl rfl
theorem ix_route0 (q : RouteS) (st : Sto) : ixD q.enc (.int 0) st = .ok (.str q.pfx) st := nrfl rfl
theorem ix_route2 (q : RouteS) (st : Sto) : ixD q.enc (.int 2) st = .ok (.int q.weight) st := nrfl rfl
theorem ix_route3 (q : RouteS) (st : Sto) : ixD q.enc (.int 3) st = .ok (.tup (q.tags.map D.int)) st := nrfl rfl
theorem offD_noLoc (n : Nat) (c : Option Ch) : noLoc n (optOff c) = true := by
  cases c with
  | none => rfl
  | some c =>
    show noLoc n (.tup [.tup [.int _, .int _, .int _, .int _], .tup [.int _, c.2.1.enc, .int _]]) = true
    simp [noLoc, noLocs, route_noLoc]
theorem optCh_noLoc (n : Nat) (c : Option Ch) : noLoc n (optCh c) = true := by
  cases c with
  | none => rfl
  | some c =>
    show noLoc n (.tup [.int _, c.2.1.enc, .int _]) = true
    simp [noLoc, noLocs, route_noLoc]
theorem offer_ok {st : Sto} {R : Rt} (h : RAt st R) {o : Int} {b : Nb} (hb : aGet R.others o = some b) (hs : ∀ x ∈ b.said, x.2.tags.length ≤ 4) (p : Str) : fn_Router_offer [.loc R.l, .int o, .str p] st = .ok (optOff (offerM R.num o b p)) st := by
  refine Fn.clean_same ?_ (offD_noLoc _ _)
  have nb := h.nbAt hb
  have f0 : fldD 5 0 (.loc R.l) st = .ok (.int R.num) st := fld_at h.i rfl
  have f1 : fldD 5 1 (.loc R.l) st = .ok (.loc R.lo) st := fld_at h.i rfl
  have f2 := h.ixo hb
  have f3 : fldD 4 3 (.loc b.l) st = .ok (.loc b.ls) st := fld_at nb.i rfl
  have f4 : fldD 4 1 (.loc b.l) st = .ok (.lst (b.rin.map RuleS.enc)) st := fld_at nb.i rfl
  have f5 := notIn_at nb.s (key_str p)
  rw [saidD_look] at f5
  unfold offerM
  cases hq : aGet b.said p with
  | none =>
    rw [hq] at f5
    simp [b_Router_offer, b_Router_offer_i1, b_Router_offer_i2, f0, f1, f2, f3, f4, f5, optOff]
  | some q =>
    rw [hq] at f5
    have f6 : ixD (.loc b.ls) (.str p) st = .ok q.enc st := ix_at nb.s (key_str p) (by rw [saidD_look, hq]; rfl)
    have f7 := ix_route1 q st
    have f8 := in_tup R.num q.path st
    have hq4 := hs _ (aGet_mem hq)
    have f9 := judged_ok b.rin q hq4 st
    cases hm : memB R.num q.path with
    | true =>
      rw [hm] at f8
      simp [b_Router_offer, b_Router_offer_i1, b_Router_offer_i2, f0, f1, f2, f3, f4, f5, f6, f7, f8, optOff, hm]
    | false =>
      rw [hm] at f8
      cases hj : judgedS b.rin q 100 0 with
      | none =>
        rw [hj] at f9
        have f9 : fn_judged [.lst (b.rin.map RuleS.enc), q.enc] st = .ok .non st := f9
        simp [b_Router_offer, b_Router_offer_i1, b_Router_offer_i2, f0, f1, f2, f3, f4, f5, f6, f7, f8, f9, optOff, hm, hj]
      | some x =>
        obtain ⟨q', pr, a⟩ := x
        rw [hj] at f9
        have f9 : fn_judged [.lst (b.rin.map RuleS.enc), q.enc] st = .ok (.tup [q'.enc, .int pr, .int a]) st := f9
        have g1 := ix_route1 q' st
        have g2 := ix_route2 q' st
        simp [b_Router_offer, b_Router_offer_i1, b_Router_offer_i2, f0, f1, f2, f3, f4, f5, f6, f7, f8, f9, g1, g2, len_tup, optOff, offD, chD, hm, hj]
/-! ### the least offer -/
def intToks : List Int → List (Int ⊕ List Nat)
  | [] => [.inl 0]
  | n :: ns => .inl 1 :: .inl n :: intToks ns
def lexB : List Int → List Int → Bool
  | a :: as, b :: bs => if a = b then lexB as bs else decide (a < b)
  | _, _ => false
theorem lexB_cons (a b : Int) (as bs : List Int) : lexB (a :: as) (b :: bs) = if a = b then lexB as bs else decide (a < b) := rfl
theorem keyToks_ints (ns : List Int) : keyToksAll (ns.map PyData.int) = intToks ns := by
  induction ns with
  | nil => simp [keyToksAll, intToks]
  | cons n ns ih => simp [keyToksAll, keyToks, intToks, ih]
theorem item_int (a b : Int) : itemOrd.blt (Sum.inl a : Int ⊕ List Nat) (Sum.inl b) = decide (a < b) := rfl
theorem lexLt_ints : ∀ (as bs : List Int) (l m : List (Int ⊕ List Nat)), as.length = bs.length → PyProof.Rows.lexLt itemOrd (intToks as ++ l) (intToks bs ++ m) = if as = bs then PyProof.Rows.lexLt itemOrd l m else lexB as bs
  | [], [], l, m, _ => by
    rw [if_pos rfl]
    show PyProof.Rows.lexLt itemOrd (.inl 0 :: l) (.inl 0 :: m) = _
    rw [lex_self]
  | [], _ :: _, _, _, h => by cases h
  | _ :: _, [], _, _, h => by cases h
  | a :: as, b :: bs, l, m, h => by
    have ih := lexLt_ints as bs l m (by simpa using h)
    show PyProof.Rows.lexLt itemOrd (.inl 1 :: .inl a :: (intToks as ++ l)) (.inl 1 :: .inl b :: (intToks bs ++ m)) = _
    rw [lex_self]
    by_cases e : a = b
    · subst e
      rw [lex_self, ih, lexB_cons, if_pos rfl]
      by_cases e2 : as = bs
      · rw [if_pos e2, if_pos (by rw [e2])]
      · rw [if_neg e2, if_neg fun z => e2 (List.cons.inj z).2]
    · rw [lex_diff (fun z => e (Sum.inl.inj z)), item_int, if_neg fun z => e (List.cons.inj z).1, lexB_cons, if_neg e]
def chKey (c : Ch) : List Int := [0 - c.2.2, (c.2.1.path.length : Int), c.2.1.weight, c.1]
def chLt (a b : Ch) : Bool := lexB (chKey a) (chKey b)
def RouteS.pdCh (c : Ch) : PyData := .tuple [.int c.1, c.2.1.pd, .int c.2.2]
theorem toP_ch (c : Ch) : toP (chD c) = RouteS.pdCh c := by
  simp [chD, toP, toPs, toP_route, RouteS.pdCh]
theorem toP_off (c : Ch) : toP (offD c) = .tuple [.tuple ((chKey c).map .int), RouteS.pdCh c] := by
  unfold offD
  simp only [toP, toPs, toP_ch]
  rfl
theorem off_lt {a b : Ch} (h : a.1 ≠ b.1) : dataLt (toP (offD a)) (toP (offD b)) = chLt a b := by
  rw [toP_off, toP_off]
  unfold dataLt
  simp only [keyToks, keyToksAll, keyToks_ints]
  rw [lex_self, lexLt_ints (chKey a) (chKey b) _ _ rfl, if_neg fun z => h (by
    have := congrArg (fun l : List Int => l.getD 3 0) z
    simpa [chKey] using this)]
  rfl
theorem alikeAll_ints (a b : List Int) : alikeAll (a.map PyData.int) (b.map PyData.int) = true := by
  induction a generalizing b with
  | nil => cases b <;> simp [alikeAll]
  | cons x a ih => cases b with
    | nil => simp [alikeAll]
    | cons y b => simp [alikeAll, alike, ih]
theorem route_alike (a b : RouteS) : alike a.pd b.pd = true := by
  simp [RouteS.pd, alike, alikeAll, alikeAll_ints]
theorem off_alike (a b : Ch) : alike (toP (offD a)) (toP (offD b)) = true := by
  rw [toP_off, toP_off]
  simp [alike, alikeAll, alikeAll_ints, RouteS.pdCh, route_alike]
theorem pd_inj {a b : RouteS} (h : a.pd = b.pd) : a = b := by
  have e := eqv_route a b
  rw [h] at e
  have e2 := eqv_route b b
  rw [e2] at e
  simpa using e.symm
theorem ch_inj {a b : Ch} (h : RouteS.pdCh a = RouteS.pdCh b) : a = b := by
  unfold RouteS.pdCh at h
  simp only [PyData.tuple.injEq, List.cons.injEq, PyData.int.injEq, and_true] at h
  obtain ⟨h1, h2, h3⟩ := h
  exact Prod.ext h1 (Prod.ext (pd_inj h2) h3)
theorem off_inj {a b : Ch} (h : toP (offD a) = toP (offD b)) : a = b := by
  rw [toP_off, toP_off] at h
  simp only [PyData.tuple.injEq, List.cons.injEq, and_true] at h
  exact ch_inj h.2
theorem good_ch (n : Nat) (c : Ch) : good (n + 3) (chD c) = true := by
  show ([D.int c.1, c.2.1.enc, .int c.2.2]).all (good (n + 2)) = true
  simp [good_int, good_route]
theorem good_off (n : Nat) (c : Ch) : good (n + 4) (offD c) = true := by
  show ([D.tup [.int (0 - c.2.2), .int (c.2.1.path.length : Int), .int c.2.1.weight, .int c.1], chD c]).all (good (n + 3)) = true
  simp only [List.all_cons, List.all_nil, good_ch, Bool.and_true]
  show ([D.int (0 - c.2.2), .int (c.2.1.path.length : Int), .int c.2.1.weight, .int c.1]).all (good (n + 2)) = true
  simp [good_int]
def minCh (x : Ch) (xs : List Ch) : Ch := xs.foldl (fun a y => if chLt y a = true then y else a) x
theorem minOf_off : ∀ (xs : List Ch) (x : Ch), (x :: xs).Pairwise (fun a b => a.1 ≠ b.1) → minOf (offD x) (xs.map offD) = offD (minCh x xs)
  | [], x, _ => rfl
  | y :: xs, x, h => by
    have h1 := (List.pairwise_cons.mp h).1 y List.mem_cons_self
    have h2 := (List.pairwise_cons.mp h).1
    have h3 := (List.pairwise_cons.mp h).2
    unfold minOf minCh
    rw [List.map_cons, List.foldl_cons, List.foldl_cons, off_lt fun z => h1 z.symm]
    have ih : ∀ z, z = x ∨ z = y → (z :: xs).Pairwise (fun a b => a.1 ≠ b.1) := fun z hz => by
      rcases hz with rfl | rfl
      · exact List.pairwise_cons.mpr ⟨fun w hw => h2 w (List.mem_cons_of_mem _ hw), (List.pairwise_cons.mp h3).2⟩
      · exact h3
    cases hc : chLt y x with
    | true => rw [if_pos rfl, if_pos rfl]; exact minOf_off xs y (ih y (.inr rfl))
    | false => rw [if_neg Bool.false_ne_true, if_neg Bool.false_ne_true]; exact minOf_off xs x (ih x (.inl rfl))
theorem min_off (x : Ch) (xs : List Ch) (h : (x :: xs).Pairwise (fun a b => a.1 ≠ b.1)) (st : Sto) : minLD [.lst ((x :: xs).map offD)] st = .ok (offD (minCh x xs)) st := by
  rw [List.map_cons]
  unfold minLD
  dsimp only
  rw [if_pos, minOf_off xs x h]
  refine ⟨?_, ⟨?_, ?_⟩, ?_⟩
  · rw [← List.map_cons, List.all_map]; exact List.all_eq_true.mpr fun c _ => good_off 35 c
  · intro a ha b hb
    rw [← List.map_cons, List.map_map] at ha hb
    obtain ⟨u, _, rfl⟩ := List.mem_map.mp ha
    obtain ⟨v, _, rfl⟩ := List.mem_map.mp hb
    exact off_alike u v
  · intro a ha
    rw [← List.map_cons, List.map_map] at ha
    obtain ⟨u, _, rfl⟩ := List.mem_map.mp ha
    intro z
    have z : toP (offD u) = .none := z
    rw [toP_off] at z; cases z
  · intro a ha b hb e
    rw [← List.map_cons] at ha hb
    obtain ⟨u, _, rfl⟩ := List.mem_map.mp ha
    obtain ⟨v, _, rfl⟩ := List.mem_map.mp hb
    rw [off_inj e]
end DL

/-! CR4: best, prefixes, chosen, find. -/
namespace DL
open PySem PySem.Spec PyProof.Rows L2
def ownCh (p : Str) : Ch := (0, ⟨p, [], 0, []⟩, 100)
def offersM (R : Rt) (p : Str) : List Ch := R.others.filterMap fun x => offerM R.num x.1 x.2 p
def leastM : List Ch → Option Ch
  | [] => none
  | x :: xs => some (minCh x xs)
def bestM (R : Rt) (p : Str) : Option Ch := if (aGet R.owned p).isSome = true then some (ownCh p) else leastM (offersM R p)
structure NbOk (U : List Str) (b : Nb) : Prop where
  said : ∀ x ∈ b.said, x.1 ∈ U ∧ x.2.pfx = x.1 ∧ x.2.tags.length ≤ 4 ∧ x.2.path.length ≤ 12
  told : ∀ x ∈ b.told, x.1 ∈ U ∧ x.2.pfx = x.1
  saidN : (b.said.map (·.1)).Nodup
  toldN : (b.told.map (·.1)).Nodup
  rin : b.rin.length ≤ 8 ∧ ∀ r ∈ b.rin, 0 ≤ r.ahead ∧ r.ahead ≤ 3
  rout : b.rout.length ≤ 8 ∧ ∀ r ∈ b.rout, 0 ≤ r.ahead ∧ r.ahead ≤ 3
structure RtOk (U : List Str) (R : Rt) : Prop where
  small : U.length < 64
  own : ∀ x ∈ R.owned, x.1 ∈ U
  ownN : (R.owned.map (·.1)).Nodup
  nb : ∀ x ∈ R.others, NbOk U x.2
  few : R.others.length ≤ 1000
def Rt.lk (R : Rt) : Rt := { R with z := true }
def Rt.ul (R : Rt) : Rt := { R with z := false }
theorem RAt.apart {st : Sto} {R : Rt} (h : RAt st R) : R.l ≠ R.lo ∧ R.lo ≠ R.lw ∧ R.l ≠ R.lw ∧ ∀ x ∈ R.others, ∀ q ∈ x.2.pl, q ≠ R.l ∧ q ≠ R.lo ∧ q ≠ R.lw := by
  have nd := h.nd
  simp only [Rt.pl, List.nodup_cons, List.mem_cons, not_or, List.mem_flatMap] at nd
  obtain ⟨⟨a, b, c⟩, ⟨d, e⟩, f, _⟩ := nd
  refine ⟨a, d, b, fun x hx q hq => ⟨fun z => c ⟨x, hx, z ▸ hq⟩, fun z => e ⟨x, hx, z ▸ hq⟩, fun z => f ⟨x, hx, z ▸ hq⟩⟩⟩
theorem get_set_ne {st : Sto} {l q : Nat} {o : Ob} (h : q ≠ l) : (st.set l o)[q]? = st[q]? := List.getElem?_set_ne h.symm
theorem get_set_self {st : Sto} {l : Nat} {o : Ob} (h : l < st.length) : (st.set l o)[l]? = some o := List.getElem?_set_self h
theorem RAt.lock {st : Sto} {R : Rt} (h : RAt st R) : RAt (st.set R.lo (.dk true R.oD)) R.lk := by
  obtain ⟨a, b, c, d⟩ := h.apart
  exact ⟨by rw [get_set_ne (l := R.lo) (q := R.lk.l) a]; exact h.i, get_set_self (lt_of_get h.o), by rw [get_set_ne (l := R.lo) (q := R.lk.lw) b.symm]; exact h.w,
    fun x hx => (h.n x hx).frame fun q hq => get_set_ne (d x hx q hq).2.1, h.nd, h.keys⟩
theorem RAt.more {st : Sto} {R : Rt} (h : RAt st R) (ext : Sto) : RAt (st ++ ext) R := h.frame fun q hq => List.getElem?_append_left (h.lt q hq)
theorem keys_oD (R : Rt) : (R.oD.map fun q => keyD q.1) = R.others.map fun x => D.int x.1 := by
  unfold Rt.oD aEnc
  rw [List.map_map]; rfl
theorem isn_off (c : Option Ch) (st : Sto) : isnD (optOff c) .non st = .ok (.bl c.isSome) st := by cases c <;> rfl
theorem is_ch (c : Option Ch) (st : Sto) : isD (optCh c) .non st = .ok (.bl c.isNone) st := by cases c <;> rfl
theorem isn_ch (c : Option Ch) (st : Sto) : isnD (optCh c) .non st = .ok (.bl c.isSome) st := by cases c <;> rfl
theorem filter_some {α : Type} (l : List (Option α)) (f : α → D) (g : Option α → D) (hg : ∀ a, g (some a) = f a) : ((l.filter fun o => o.isSome).map g) = (l.filterMap id).map f := by
  induction l with
  | nil => rfl
  | cons o l ih =>
    cases o with
    | none => simpa using ih
    | some a => simp [ih, hg]
theorem eq_nilG (xs : List D) (hg : xs.all (good 39) = true) (st : Sto) : eqD (.lst xs) (.lst []) st = .ok (.bl xs.isEmpty) st := by
  rw [eqD_good (x := .lst xs) (y := .lst []) (by exact hg) rfl]
  cases xs with
  | nil => simp [der, toP, toPs, PyData.eqv, PyData.eqvAll]
  | cons r rs => simp [der, toP, toPs, PyData.eqv, PyData.eqvAll]
theorem offers_pw (R : Rt) (p : Str) (hk : (R.others.map (·.1)).Nodup) : (offersM R p).Pairwise fun a b => a.1 ≠ b.1 := by
  unfold offersM
  have e : ∀ (x : Int × Nb) (c : Ch), offerM R.num x.1 x.2 p = some c → c.1 = x.1 := fun x c h => by
    unfold offerM at h
    split at h
    · cases h
    · split at h
      · cases h
      · obtain ⟨y, _, e⟩ := Option.map_eq_some_iff.mp h
        rw [← e]
  rw [List.Nodup, List.pairwise_map] at hk
  rw [List.pairwise_filterMap]
  exact hk.imp fun {a b} hab c hc d hd z => hab (by rw [← e a c hc, ← e b d hd, z])
theorem ix_off1 (c : Ch) (st : Sto) : ixD (offD c) (.int 1) st = .ok (chD c) st := nrfl rfl
theorem set_back {st : Sto} {l : Nat} {o o' : Ob} (h : st[l]? = some o) : (st.set l o').set l o = st := by
  rw [List.set_set]; exact set_same h
def offsM (R : Rt) (p : Str) : List (Option Ch) := R.others.map fun x => offerM R.num x.1 x.2 p
theorem best_ok {U : List Str} {st : Sto} {R : Rt} (h : RAt st R) (hz : R.z = false) (ok : RtOk U R) (p : Str) : fn_Router_best [.loc R.l, .str p] st = .ok (optCh (bestM R p)) st := by
  refine Fn.clean_same ?_ (optCh_noLoc _ _)
  have f2 : fldD 5 2 (.loc R.l) st = .ok (.loc R.lw) st := fld_at h.i rfl
  have f5 := in_at h.w (key_str p)
  have el : look R.wD (.inr p) = (aGet R.owned p).map unitT := look_enc inr_inj p R.owned
  rw [el, Option.isSome_map] at f5
  unfold bestM
  cases hc : (aGet R.owned p).isSome with
  | true =>
    rw [hc] at f5
    simp [b_Router_best, b_Router_best_i1, b_Router_best_i2, f2, f5, optCh, chD, ownCh, RouteS.enc]
  | false =>
    rw [hc] at f5
    have ho := h.o
    rw [hz] at ho
    have h1 := h.lock
    have g1 : fldD 5 1 (.loc R.l) (st.set R.lo (.dk true R.oD)) = .ok (.loc R.lo) (st.set R.lo (.dk true R.oD)) := fld_at h1.i rfl
    have g2 : asKeys (.loc R.lo) (st.set R.lo (.dk true R.oD)) = .ok (R.others.map fun x => D.int x.1) (st.set R.lo (.dk true R.oD)) := by
      rw [← keys_oD]; exact keys_at (get_set_self (lt_of_get ho))
    have hc1 : compL (tgN 4) dYes b_Router_best_c1 [some (.loc R.l), some (.str p), none, none, none, none] (R.others.map fun x => D.int x.1) (st.set R.lo (.dk true R.oD)) = .ok (R.others.map fun x => optOff (offerM R.num x.1 x.2 p)) (st.set R.lo (.dk true R.oD)) :=
      compL_map (fun x : Int × Nb => D.int x.1) (fun x => optOff (offerM R.num x.1 x.2 p)) _ fun x hx => by
        have hb : aGet R.lk.others x.1 = some x.2 := aGet_of h.keys hx
        have e := offer_ok h1 hb (fun y hy => ((ok.nb x hx).said y hy).2.2.1) p
        have e : fn_Router_offer [.loc R.l, .int x.1, .str p] (st.set R.lo (.dk true R.oD)) = .ok (optOff (offerM R.num x.1 x.2 p)) (st.set R.lo (.dk true R.oD)) := e
        have e2 : isIns 5 (st.set R.lo (.dk true R.oD)) (.loc R.l) = true := isIns_at h1.i
        simp [b_Router_best_c1, e, e2]
    have hd1 := dComp_of (vs := [4]) (src := dIterK (dU (fldD 5 1) (dV 0))) (tg := tgN 4) (t := dYes) (f := b_Router_best_c1) (env := [some (.loc R.l), some (.str p), none, none, none, none]) (st := st.set R.lo (.dk true R.oD)) (st1 := st.set R.lo (.dk true R.oD)) (by simp [g1, g2]) hc1 (by rw [List.length_map]; have := ok.few; omega)
    have hlk : lcF 5 1 (lcV 0) [some (.loc R.l), some (.str p), none, none, none, none] st = some R.lo := lcF_at (lcV_at rfl) h.i rfl
    have hL := lock_at (b := dSet (tgN 2) (dComp [4] (dIterK (dU (fldD 5 1) (dV 0))) (tgN 4) dYes b_Router_best_c1)) hlk ho
    rw [dSetN_def, hd1, Rs.thn_ok, unl_nx, set_back ho] at hL
    have eo : (R.others.map fun x => optOff (offerM R.num x.1 x.2 p)) = (offsM R p).map optOff := by unfold offsM; rw [List.map_map]; rfl
    rw [eo] at hL
    have em : (offsM R p).filterMap id = offersM R p := by unfold offsM offersM; rw [List.filterMap_map]; rfl
    have hc2 : compL (tgN 5) b_Router_best_t1 b_Router_best_c2 [some (.loc R.l), some (.str p), some (.lst ((offsM R p).map optOff)), none, none, none] ((offsM R p).map optOff) st = .ok ((offersM R p).map offD) st := by
      rw [← em, ← filter_some _ offD optOff fun _ => rfl]
      exact compL_filter optOff (fun o => o.isSome) optOff _ (fun o _ => by simp [b_Router_best_t1, isn_off]) fun o _ _ => by simp [b_Router_best_c2]
    have hd2 := dComp_of (vs := [5]) (src := dIterA (dV 2)) (tg := tgN 5) (t := b_Router_best_t1) (f := b_Router_best_c2) (env := [some (.loc R.l), some (.str p), some (.lst ((offsM R p).map optOff)), none, none, none]) (st := st) (st1 := st) (by simp) hc2 (by
      rw [List.length_map]
      refine Nat.le_trans (List.length_filterMap_le _ _) ?_
      have := ok.few; omega)
    generalize ((offsM R p).map optOff) = lo at *
    have hpw := offers_pw R p h.keys
    have hq := eq_nilG ((offersM R p).map offD) (by rw [List.all_map]; exact List.all_eq_true.mpr fun c _ => good_off 35 c) st
    rw [if_neg Bool.false_ne_true]
    generalize offersM R p = os at *
    cases os with
    | nil =>
      have hq : eqD (.lst []) (.lst []) st = .ok (.bl true) st := hq
      have hd2 : dComp [5] (dIterA (dV 2)) (tgN 5) b_Router_best_t1 b_Router_best_c2 [some (.loc R.l), some (.str p), some (.lst lo), none, none, none] st = .ok (.lst []) st := hd2
      simp only [b_Router_best, runF_def]
      simp [b_Router_best_i1, b_Router_best_i2, f2, f5, hL, hd2, hq, leastM, optCh]
    | cons c cs =>
      have hm := min_off c cs hpw st
      have e3 : (c :: cs).map offD ≠ [] := by simp
      have hq : eqD (.lst ((c :: cs).map offD)) (.lst []) st = .ok (.bl false) st := hq
      generalize (c :: cs).map offD = ls at *
      have hx := ix_off1 (minCh c cs) st
      simp only [b_Router_best, runF_def]
      simp [b_Router_best_i1, b_Router_best_i2, f2, f5, hL, hd2, hq, hm, hx, leastM, optCh]
end DL

/-! CR5: prefixes, chosen, find. -/
namespace DL
open PySem PySem.Spec PyProof.Rows L2
def addK (ks : List (Str × Unit)) (p : Str) : List (Str × Unit) := aPut ks p ()
def nbKeys (b : Nb) : List Str := b.said.map (·.1) ++ b.told.map (·.1)
def pfxRows (R : Rt) : List (Str × Unit) := (R.others.flatMap fun x => nbKeys x.2).foldl addK R.owned
def pfxs (R : Rt) : List Str := srtS ((pfxRows R).map (·.1))
theorem nodup_len {α : Type} [DecidableEq α] : ∀ {l U : List α}, l.Nodup → (∀ x ∈ l, x ∈ U) → l.length ≤ U.length
  | [], _, _, _ => Nat.zero_le _
  | a :: l, U, nd, h => by
    have ha := h a List.mem_cons_self
    have nd2 := List.nodup_cons.mp nd
    have ih := nodup_len (l := l) (U := U.erase a) nd2.2 fun x hx => by
      have hne : x ≠ a := fun z => nd2.1 (z ▸ hx)
      exact (List.mem_erase_of_ne hne).mpr (h x (List.mem_cons_of_mem _ hx))
    rw [List.length_erase_of_mem ha] at ih
    have : 0 < U.length := List.length_pos_of_mem ha
    rw [List.length_cons]
    omega
/-- rows of keys out of U, each once -/
structure KRow (U : List Str) (ks : List (Str × Unit)) : Prop where
  nd : (ks.map (·.1)).Nodup
  sub : ∀ x ∈ ks, x.1 ∈ U
theorem KRow.len {U : List Str} {ks : List (Str × Unit)} (h : KRow U ks) : ks.length ≤ U.length := by
  have := nodup_len h.nd (U := U) fun x hx => by
    obtain ⟨y, hy, rfl⟩ := List.mem_map.mp hx
    exact h.sub y hy
  rwa [List.length_map] at this
theorem KRow.add {U : List Str} {ks : List (Str × Unit)} (h : KRow U ks) {p : Str} (hp : p ∈ U) : KRow U (addK ks p) :=
  ⟨aPut_nodup p () h.nd, fun x hx => (mem_aPut hx).elim (fun e => by rw [e]; exact hp) (h.sub x)⟩
theorem KRow.adds {U : List Str} : ∀ {ps : List Str} {ks : List (Str × Unit)}, KRow U ks → (∀ p ∈ ps, p ∈ U) → KRow U (ps.foldl addK ks)
  | [], _, h, _ => h
  | p :: ps, ks, h, hp => KRow.adds (ps := ps) (h.add (hp p List.mem_cons_self)) fun q hq => hp q (List.mem_cons_of_mem _ hq)
theorem RtOk.row {U : List Str} {R : Rt} (ok : RtOk U R) : KRow U R.owned := ⟨ok.ownN, ok.own⟩
theorem NbOk.keys {U : List Str} {b : Nb} (ok : NbOk U b) : ∀ p ∈ nbKeys b, p ∈ U := fun p hp => by
  rcases List.mem_append.mp hp with hp | hp
  · obtain ⟨x, hx, rfl⟩ := List.mem_map.mp hp
    exact (ok.said x hx).1
  · obtain ⟨x, hx, rfl⟩ := List.mem_map.mp hp
    exact (ok.told x hx).1
def wEnc (ks : List (Str × Unit)) : List (Key × D) := aEnc Sum.inr unitT ks
theorem inner_ok {U : List Str} (hU : U.length < 64) {S : Sto} (a0 a2 : Option D) : ∀ (ps : List Str) (ks : List (Str × Unit)) (a3 : Option D), KRow U ks → (∀ p ∈ ps, p ∈ U) →
    ∃ b3, loopL (tgN 3) b_Router_prefixes_l1 (ps.map D.str) [a0, some (.loc S.length), a2, a3] (S ++ [.dk false (wEnc ks)]) = .nx [a0, some (.loc S.length), a2, b3] (S ++ [.dk false (wEnc (ps.foldl addK ks))])
  | [], ks, a3, _, _ => ⟨a3, rfl⟩
  | p :: ps, ks, a3, hk, hp => by
    have hp1 := hp p List.mem_cons_self
    obtain ⟨b3, ih⟩ := inner_ok hU a0 a2 ps (addK ks p) (some (.str p)) (hk.add hp1) fun q hq => hp q (List.mem_cons_of_mem _ hq)
    refine ⟨b3, ?_⟩
    have g : (S ++ [Ob.dk false (wEnc ks)])[S.length]? = some (.dk false (wEnc ks)) := by simp
    have hl : (wEnc ks).length < 1000000 := by
      have := hk.len
      unfold wEnc; rw [aEnc_len]; omega
    have e := putR_at (d := D.bl true) (env := [a0, some (.loc S.length), a2, some (.str p)]) g (key_str p) hl
    have e2 : putD (wEnc ks) (Sum.inr p) (D.bl true) = wEnc (addK ks p) := put_enc (h := unitT) inr_inj ks p ()
    have e3 : (S ++ [Ob.dk false (wEnc ks)]).set S.length (.dk false (wEnc (addK ks p))) = S ++ [.dk false (wEnc (addK ks p))] := by
      rw [List.set_append_right _ _ (Nat.le_refl _)]; simp
    rw [e2, e3] at e
    rw [List.map_cons, loopN_nx (e := [a0, some (.loc S.length), a2, some (.str p)]) (s := S ++ [.dk false (wEnc (addK ks p))])]
    · exact ih
    · simp [b_Router_prefixes_l1, e]
theorem keys_said (kvs : List (Str × RouteS)) : ((saidD kvs).map fun q => keyD q.1) = (kvs.map (·.1)).map D.str := by
  unfold saidD aEnc
  rw [List.map_map, List.map_map]; rfl
theorem outer_ok {U : List Str} (hU : U.length < 64) {S : Sto} {R : Rt} (h : RAt S R) (hn : ∀ x ∈ R.others, NbOk U x.2) : ∀ (xs : List (Int × Nb)) (ks : List (Str × Unit)) (a2 a3 : Option D), (∀ x ∈ xs, x ∈ R.others) → KRow U ks →
    ∃ b2 b3, loopL (tgN 2) b_Router_prefixes_l2 (xs.map fun x => D.int x.1) [some (.loc R.l), some (.loc S.length), a2, a3] (S ++ [.dk false (wEnc ks)]) = .nx [some (.loc R.l), some (.loc S.length), b2, b3] (S ++ [.dk false (wEnc ((xs.flatMap fun x => nbKeys x.2).foldl addK ks))])
  | [], ks, a2, a3, _, _ => ⟨a2, a3, rfl⟩
  | x :: xs, ks, a2, a3, hx, hk => by
    have hx1 := hx x List.mem_cons_self
    have hs := (hn x hx1).keys
    obtain ⟨b3, e1⟩ := inner_ok hU (S := S) (some (.loc R.l)) (some (.int x.1)) (nbKeys x.2) ks a3 hk hs
    obtain ⟨c2, c3, ih⟩ := outer_ok hU h hn xs ((nbKeys x.2).foldl addK ks) (some (.int x.1)) b3 (fun y hy => hx y (List.mem_cons_of_mem _ hy)) (hk.adds hs)
    refine ⟨c2, c3, ?_⟩
    rw [List.map_cons, List.flatMap_cons, List.foldl_append, loopN_nx (e := [some (.loc R.l), some (.loc S.length), some (.int x.1), b3]) (s := S ++ [.dk false (wEnc ((nbKeys x.2).foldl addK ks))])]
    · exact ih
    · have hm := h.more [.dk false (wEnc ks)]
      have hb : aGet R.others x.1 = some x.2 := aGet_of h.keys hx1
      have nb := hm.nbAt hb
      have f1 : fldD 5 1 (.loc R.l) (S ++ [.dk false (wEnc ks)]) = .ok (.loc R.lo) (S ++ [.dk false (wEnc ks)]) := fld_at hm.i rfl
      have f2 := hm.ixo hb
      have f3 : fldD 4 3 (.loc x.2.l) (S ++ [.dk false (wEnc ks)]) = .ok (.loc x.2.ls) (S ++ [.dk false (wEnc ks)]) := fld_at nb.i rfl
      have f4 : fldD 4 4 (.loc x.2.l) (S ++ [.dk false (wEnc ks)]) = .ok (.loc x.2.lt) (S ++ [.dk false (wEnc ks)]) := fld_at nb.i rfl
      have f5 := list_dk nb.s
      have f6 := list_dk nb.t
      rw [keys_said] at f5 f6
      have f7 : addD (.lst ((x.2.said.map (·.1)).map D.str)) (.lst ((x.2.told.map (·.1)).map D.str)) (S ++ [.dk false (wEnc ks)]) = .ok (.lst ((nbKeys x.2).map D.str)) (S ++ [.dk false (wEnc ks)]) := by
        unfold nbKeys
        rw [List.map_append]
        refine addD_lst ?_
        have l1 := nodup_len (hn x hx1).saidN (U := U) fun p hp => hs p (List.mem_append_left _ hp)
        have l2 := nodup_len (hn x hx1).toldN (U := U) fun p hp => hs p (List.mem_append_right _ hp)
        simp only [List.length_map] at l1 l2 ⊢
        have := hU
        omega
      generalize ((x.2.said.map (·.1)).map D.str) = la at *
      generalize ((x.2.told.map (·.1)).map D.str) = lb at *
      generalize ((nbKeys x.2).map D.str) = lc at *
      simp [b_Router_prefixes_l2, f1, f2, f3, f4, f5, f6, f7, e1]
theorem prefixes_okR {U : List Str} {st : Sto} {R : Rt} (h : RAt st R) (hz : R.z = false) (ok : RtOk U R) : fn_Router_prefixes [.loc R.l] st = .ok (.lst ((pfxs R).map D.str)) st := by
  have ho := h.o
  rw [hz] at ho
  have hw := h.w
  have f2 : fldD 5 2 (.loc R.l) st = .ok (.loc R.lw) st := fld_at h.i rfl
  have f3 := dict_at hw
  have h1 := h.lock
  obtain ⟨b2, b3, e1⟩ := outer_ok ok.small h1 (R := R.lk) ok.nb R.others R.owned none none (fun x hx => hx) ok.row
  have eL : (st.set R.lo (.dk true R.oD)).length = st.length := List.length_set
  rw [eL] at e1
  have e1 : loopL (tgN 2) b_Router_prefixes_l2 (R.others.map fun x => D.int x.1) [some (.loc R.l), some (.loc st.length), none, none] (st.set R.lo (.dk true R.oD) ++ [.dk false (wEnc R.owned)]) = .nx [some (.loc R.l), some (.loc st.length), b2, b3] (st.set R.lo (.dk true R.oD) ++ [.dk false (wEnc (pfxRows R))]) := e1
  have hm := h1.more [.dk false (wEnc R.owned)]
  have g1 : fldD 5 1 (.loc R.l) (st.set R.lo (.dk true R.oD) ++ [.dk false (wEnc R.owned)]) = .ok (.loc R.lo) (st.set R.lo (.dk true R.oD) ++ [.dk false (wEnc R.owned)]) := fld_at hm.i rfl
  have g2 : asKeys (.loc R.lo) (st.set R.lo (.dk true R.oD) ++ [.dk false (wEnc R.owned)]) = .ok (R.others.map fun x => D.int x.1) (st.set R.lo (.dk true R.oD) ++ [.dk false (wEnc R.owned)]) := by
    rw [← keys_oD]; exact keys_at hm.o
  have hm0 := h.more [.dk false (wEnc R.owned)]
  have ho0 : (st ++ [Ob.dk false (wEnc R.owned)])[R.lo]? = some (.dk false R.oD) := by rw [List.getElem?_append_left (lt_of_get ho)]; exact ho
  have hlk : lcF 5 1 (lcV 0) [some (.loc R.l), some (.loc st.length), none, none] (st ++ [Ob.dk false (wEnc R.owned)]) = some R.lo := lcF_at (lcV_at rfl) hm0.i rfl
  have hL := lock_at (b := dFor (dIterK (dU (fldD 5 1) (dV 0))) (tgN 2) b_Router_prefixes_l2) hlk ho0
  rw [List.set_append_left _ _ (lt_of_get ho), dFor_def] at hL
  have es : dIterK (dU (fldD 5 1) (dV 0)) [some (.loc R.l), some (.loc st.length), none, none] (st.set R.lo (.dk true R.oD) ++ [.dk false (wEnc R.owned)]) = .ok (R.others.map fun x => D.int x.1) (st.set R.lo (.dk true R.oD) ++ [.dk false (wEnc R.owned)]) := by simp [g1, g2]
  rw [es, Rs.thn_ok, e1, unl_nx, List.set_append_left _ _ (by rw [eL]; exact lt_of_get ho), set_back ho] at hL
  have hr : KRow U (pfxRows R) := ok.row.adds fun p hp => by
    obtain ⟨x, hx, hp⟩ := List.mem_flatMap.mp hp
    exact (ok.nb x hx).keys p hp
  have hs := sort_txt (z := false) (st := st ++ [Ob.dk false (wEnc (pfxRows R))]) (l := st.length) (fun x : Str × Unit => x.1) (fun x => unitT x.2) (pfxRows R) (by simp [wEnc, aEnc]) (Nat.lt_of_le_of_lt hr.len ok.small)
  refine Fn.clean_ok (ext := [.dk false (wEnc (pfxRows R))]) (d := .lst ((pfxs R).map D.str)) ?_ (thaw_self (by rw [noLoc_lst]; exact noLocs_strs _ _))
  unfold pfxs
  generalize (srtS ((pfxRows R).map (·.1))).map D.str = out at *
  have f3' : dictD [.loc R.lw] st = .ok (.loc st.length) (st ++ [.dk false (wEnc R.owned)]) := f3
  simp only [b_Router_prefixes, runF_def]
  simp [f2, f3', hL, hs]
/-! ### what stands in it -/
theorem mem_adds {p : Str} : ∀ {ps : List Str} {ks : List (Str × Unit)}, p ∈ (ps.foldl addK ks).map (·.1) ↔ p ∈ ks.map (·.1) ∨ p ∈ ps
  | [], ks => by simp
  | q :: ps, ks => by
    rw [List.foldl_cons, mem_adds (ps := ps)]
    have : p ∈ (addK ks q).map (·.1) ↔ p ∈ ks.map (·.1) ∨ p = q := by
      unfold addK
      rw [aPut_keys]
      split
      · rename_i hq
        exact ⟨.inl, fun h => h.elim id fun e => e ▸ hq⟩
      · rw [List.mem_append, List.mem_singleton]
    rw [this, List.mem_cons, or_assoc]
theorem mem_pfxs {R : Rt} {p : Str} : p ∈ pfxs R ↔ p ∈ R.owned.map (·.1) ∨ ∃ x ∈ R.others, p ∈ x.2.said.map (·.1) ∨ p ∈ x.2.told.map (·.1) := by
  unfold pfxs
  rw [(srtS_perm _).mem_iff]
  unfold pfxRows
  rw [mem_adds, List.mem_flatMap]
  unfold nbKeys
  simp only [List.mem_append]
theorem pfxs_nodup {U : List Str} {R : Rt} (ok : RtOk U R) : (pfxs R).Nodup := by
  unfold pfxs
  rw [(srtS_perm _).nodup_iff]
  exact (ok.row.adds fun p hp => by
    obtain ⟨x, hx, hp⟩ := List.mem_flatMap.mp hp
    exact (ok.nb x hx).keys p hp).nd
theorem pfxs_sub {U : List Str} {R : Rt} (ok : RtOk U R) : ∀ p ∈ pfxs R, p ∈ U := fun p hp => by
  rcases mem_pfxs.mp hp with h | ⟨x, hx, h⟩
  · obtain ⟨y, hy, rfl⟩ := List.mem_map.mp h; exact ok.own y hy
  · exact (ok.nb x hx).keys p (List.mem_append.mpr h)
theorem pfxs_len {U : List Str} {R : Rt} (ok : RtOk U R) : (pfxs R).length ≤ U.length := nodup_len (pfxs_nodup ok) (pfxs_sub ok)
/-! ### chosen, find -/
def chosenM (R : Rt) : List Str := (pfxs R).filter fun p => (bestM R p).isSome
theorem chosen_ok {U : List Str} {st : Sto} {R : Rt} (h : RAt st R) (hz : R.z = false) (ok : RtOk U R) : fn_Router_chosen [.loc R.l] st = .ok (.lst ((chosenM R).map D.str)) st := by
  refine Fn.clean_same ?_ (by rw [noLoc_lst]; exact noLocs_strs _ _)
  have e2 : isIns 5 st (.loc R.l) = true := isIns_at h.i
  have hp := prefixes_okR h hz ok
  have hc : compL (tgN 1) b_Router_chosen_t1 b_Router_chosen_c1 [some (.loc R.l), none] ((pfxs R).map D.str) st = .ok (((pfxs R).filter fun p => (bestM R p).isSome).map D.str) st :=
    compL_filter D.str (fun p => (bestM R p).isSome) D.str _ (fun p _ => by
      have e := best_ok h hz ok p
      simp [b_Router_chosen_t1, e2, e, isn_ch]) fun p _ _ => by simp [b_Router_chosen_c1]
  have hd := dComp_of (vs := [1]) (src := dIterA (dMth 5 fn_Router_prefixes (dV 0) [])) (tg := tgN 1) (t := b_Router_chosen_t1) (f := b_Router_chosen_c1) (env := [some (.loc R.l), none]) (st := st) (st1 := st) (by simp [e2, hp]) hc (by
    rw [List.length_map]
    have := pfxs_len ok
    have := ok.small
    exact Nat.le_trans (List.length_filter_le _ _) (by omega))
  unfold chosenM
  generalize (((pfxs R).filter fun p => (bestM R p).isSome).map D.str) = out at *
  simp only [b_Router_chosen, runF_def]
  simp [hd]
def cutK (a : Str) (k : Nat) : Str := cutS a none (some (k : Int))
def findL (R : Rt) (a : Str) : List Nat → Option Ch
  | [] => none
  | k :: ks => match bestM R (cutK a k) with
    | some c => some c
    | none => findL R a ks
def findM (R : Rt) (a : Str) : Option Ch := findL R a (List.range 17).reverse
theorem find_loop {U : List Str} {st : Sto} {R : Rt} (h : RAt st R) (hz : R.z = false) (ok : RtOk U R) (a : Str) : ∀ (ks : List Nat) (a2 a3 : Option D),
    SR.fin (SR.seq (loopL (tgN 2) b_Router_find_l1 (ks.map fun (k : Nat) => D.int (k : Int)) [some (.loc R.l), some (.str a), a2, a3] st) (dRet (dC .non))) = .ok (optCh (findL R a ks)) st
  | [], a2, a3 => by rw [List.map_nil, loopL_nil]; simp [findL, optCh]
  | k :: ks, a2, a3 => by
    have e2 : isIns 5 st (.loc R.l) = true := isIns_at h.i
    have e := best_ok h hz ok (cutK a k)
    have ec : slD (.str a) none (some (k : Int)) st = .ok (.str (cutK a k)) st := rfl
    have ei := isn_ch (bestM R (cutK a k)) st
    have ih := find_loop h hz ok a ks (some (.int (k : Int))) (some (optCh (bestM R (cutK a k))))
    rw [List.map_cons]
    unfold findL
    cases hb : bestM R (cutK a k) with
    | none =>
      rw [hb] at e ei ih
      rw [loopN_nx (e := [some (.loc R.l), some (.str a), some (.int (k : Int)), some (optCh none)]) (s := st)]
      · exact ih
      · simp [b_Router_find_l1, b_Router_find_i1, e2, ec, e, ei]
    | some c =>
      rw [hb] at e ei
      rw [loopN_rt (x := optCh (some c)) (s := st)]
      · simp
      · simp [b_Router_find_l1, b_Router_find_i1, e2, ec, e, ei]
theorem find_okR {U : List Str} {st : Sto} {R : Rt} (h : RAt st R) (hz : R.z = false) (ok : RtOk U R) (a : Str) : fn_Router_find [.loc R.l, .str a] st = .ok (optCh (findM R a)) st := by
  refine Fn.clean_same ?_ (optCh_noLoc _ _)
  have e := find_loop h hz ok a (List.range 17).reverse none none
  have er : (rngD 17).reverse = (List.range 17).reverse.map fun (k : Nat) => D.int (k : Int) := by
    rw [List.map_reverse]; rfl
  have e1 : dIterV (dU lrD (dB addD (dC (.int 16)) (dC (.int 1)))) [some (.loc R.l), some (.str a), none, none] st = .ok ((List.range 17).reverse.map fun (k : Nat) => D.int (k : Int)) st := by
    rw [← er]
    simp
  unfold findM
  rw [← e]
  simp only [b_Router_find, runF_def]
  generalize ((List.range 17).reverse.map fun (k : Nat) => D.int (k : Int)) = ks at *
  simp [e1, er]
end DL

/-! CR6: what a neighbour is to have, what is due to it, what it is told. -/
namespace DL
open PySem PySem.Spec PyProof.Rows L2
/-! what rules leave of a route -/
theorem judgedS_cons (r : RuleS) (rs : List RuleS) (q : RouteS) (p a : Int) : judgedS (r :: rs) q p a = if fitsB r q = true then
      if r.deed = "no" then none
      else if r.deed = "yes" then some ({ q with tags := retagS q.tags r.more r.less }, r.prefer.getD p, a + r.ahead)
      else judgedS rs { q with tags := retagS q.tags r.more r.less } (r.prefer.getD p) (a + r.ahead)
    else judgedS rs q p a := by conv => lhs; unfold judgedS
theorem judgedS_keeps : ∀ {rs : List RuleS} {q q' : RouteS} {p a p' a' : Int}, (∀ r ∈ rs, 0 ≤ r.ahead ∧ r.ahead ≤ 3) → q.tags.length ≤ 4 → judgedS rs q p a = some (q', p', a') →
    q'.pfx = q.pfx ∧ q'.path = q.path ∧ q'.weight = q.weight ∧ q'.tags.length ≤ 4 ∧ a ≤ a' ∧ a' ≤ a + 3 * (rs.length : Int)
  | [], q, q', p, a, p', a', _, ht, h => by
    cases h
    exact ⟨rfl, rfl, rfl, ht, by omega, by simp⟩
  | r :: rs, q, q', p, a, p', a', hr, ht, h => by
    have h1 := hr r List.mem_cons_self
    have h2 : ∀ r ∈ rs, 0 ≤ r.ahead ∧ r.ahead ≤ 3 := fun x hx => hr x (List.mem_cons_of_mem _ hx)
    have hl : ((r :: rs).length : Int) = rs.length + 1 := by simp
    rw [judgedS_cons] at h
    split at h
    · split at h
      · cases h
      · split at h
        · cases h
          exact ⟨rfl, rfl, rfl, retagS_len ht, by omega, by omega⟩
        · obtain ⟨k1, k2, k3, k4, k5, k6⟩ := judgedS_keeps h2 (retagS_len ht) h
          exact ⟨k1, k2, k3, k4, by omega, by omega⟩
    · obtain ⟨k1, k2, k3, k4, k5, k6⟩ := judgedS_keeps h2 ht h
      exact ⟨k1, k2, k3, k4, by omega, by omega⟩
theorem offerM_ok {U : List Str} {b : Nb} (ok : NbOk U b) {num o : Int} {p : Str} {c : Ch} (h : offerM num o b p = some c) : c.1 = o ∧ c.2.1.pfx = p ∧ c.2.1.tags.length ≤ 4 ∧ c.2.1.path.length ≤ 12 ∧ p ∈ U := by
  unfold offerM at h
  split at h
  · cases h
  · rename_i q hq
    split at h
    · cases h
    · obtain ⟨x, hj, e⟩ := Option.map_eq_some_iff.mp h
      obtain ⟨q', p', a'⟩ := x
      obtain ⟨s1, s2, s3, s4⟩ := ok.said _ (aGet_mem hq)
      obtain ⟨k1, k2, k3, k4, _⟩ := judgedS_keeps ok.rin.2 s3 hj
      rw [← e]
      exact ⟨rfl, k1.trans s2, k4, by rw [k2]; exact s4, s1⟩
theorem minCh_mem : ∀ (xs : List Ch) (x : Ch), minCh x xs ∈ x :: xs
  | [], x => List.mem_cons_self
  | y :: xs, x => by
    unfold minCh
    rw [List.foldl_cons]
    rcases List.mem_cons.mp (minCh_mem xs (if chLt y x = true then y else x)) with h | h
    · have h : List.foldl (fun a y => if chLt y a = true then y else a) (if chLt y x = true then y else x) xs = if chLt y x = true then y else x := h
      rw [h]
      split
      · exact List.mem_cons_of_mem _ List.mem_cons_self
      · exact List.mem_cons_self
    · exact List.mem_cons_of_mem _ (List.mem_cons_of_mem _ h)
theorem bestM_some {R : Rt} {p : Str} {c : Ch} (h : bestM R p = some c) : c = ownCh p ∨ c ∈ offersM R p := by
  unfold bestM at h
  split at h
  · cases h; exact .inl rfl
  · cases e : offersM R p with
    | nil => rw [e] at h; cases h
    | cons x xs =>
      rw [e] at h
      cases h
      exact .inr (minCh_mem xs x)
theorem bestM_ok {U : List Str} {R : Rt} (ok : RtOk U R) {p : Str} {c : Ch} (h : bestM R p = some c) : c.2.1.pfx = p ∧ c.2.1.tags.length ≤ 4 ∧ c.2.1.path.length ≤ 12 := by
  rcases bestM_some h with rfl | h
  · exact ⟨rfl, Nat.zero_le _, Nat.zero_le _⟩
  · obtain ⟨x, hx, e⟩ := List.mem_filterMap.mp h
    obtain ⟨_, k1, k2, k3, _⟩ := offerM_ok (ok.nb x hx) e
    exact ⟨k1, k2, k3⟩
/-! ### to_have -/
def haveP (num : Int) (many : Int) (path : List Int) : List Int := List.replicate (1 + many).toNat num ++ path
def haveC (num o : Int) (rout : List RuleS) (p : Str) (c : Ch) : Option RouteS :=
  if c.1 = o ∨ memB o c.2.1.path = true then none else
  match judgedS rout c.2.1 100 0 with
  | none => none
  | some x => if 12 < (haveP num x.2.2 x.1.path).length then none else some ⟨p, haveP num x.2.2 x.1.path, 0, x.1.tags⟩
def haveM (R : Rt) (o : Int) (b : Nb) (p : Str) : Option RouteS := (bestM R p).bind (haveC R.num o b.rout p)
theorem rep_ints (n : Nat) (a : Int) : (List.replicate n [D.int a]).flatten = (List.replicate n a).map D.int := by
  induction n with
  | zero => rfl
  | succ n ih => rw [List.replicate_succ, List.replicate_succ, List.flatten_cons, ih]; rfl
theorem optR_noLoc (n : Nat) (o : Option RouteS) : noLoc n (optR o) = true := by
  cases o with
  | none => rfl
  | some q => exact route_noLoc n q
theorem to_have_ok {U : List Str} {st : Sto} {R : Rt} (h : RAt st R) (hz : R.z = false) (ok : RtOk U R) {o : Int} {b : Nb} (hb : aGet R.others o = some b) (p : Str) : fn_Router_to_have [.loc R.l, .int o, .str p] st = .ok (optR (haveM R o b p)) st := by
  refine Fn.clean_same ?_ (optR_noLoc _ _)
  have nb := h.nbAt hb
  have okb := ok.nb (o, b) (aGet_mem hb)
  have e2 : isIns 5 st (.loc R.l) = true := isIns_at h.i
  have f0 : fldD 5 0 (.loc R.l) st = .ok (.int R.num) st := fld_at h.i rfl
  have f1 : fldD 5 1 (.loc R.l) st = .ok (.loc R.lo) st := fld_at h.i rfl
  have f2 := h.ixo hb
  have f3 : fldD 4 2 (.loc b.l) st = .ok (.lst (b.rout.map RuleS.enc)) st := fld_at nb.i rfl
  have e := best_ok h hz ok p
  have ei := is_ch (bestM R p) st
  unfold haveM
  cases hc : bestM R p with
  | none =>
    rw [hc] at e ei
    have e : fn_Router_best [.loc R.l, .str p] st = .ok .non st := e
    have ei : isD .non .non st = .ok (.bl true) st := ei
    simp [b_Router_to_have, b_Router_to_have_i1, b_Router_to_have_i2, b_Router_to_have_i3, e2, e, optR]
  | some c =>
    rw [hc] at e ei
    obtain ⟨o', q, pr⟩ := c
    obtain ⟨k1, k2, k3⟩ := bestM_ok ok hc
    dsimp only at k1 k2 k3
    have e : fn_Router_best [.loc R.l, .str p] st = .ok (.tup [.int o', q.enc, .int pr]) st := e
    have g1 := ix_route1 q st
    have g2 := in_tup o q.path st
    rw [Option.bind_some]
    by_cases c1 : o' = o
    · unfold haveC
      rw [if_pos (.inl c1)]
      simp [b_Router_to_have, b_Router_to_have_i1, b_Router_to_have_i2, b_Router_to_have_i3, e2, e, c1, optR]
    · cases c2 : memB o q.path with
      | true =>
        unfold haveC
        rw [if_pos (.inr c2)]
        rw [c2] at g2
        simp [b_Router_to_have, b_Router_to_have_i1, b_Router_to_have_i2, b_Router_to_have_i3, e2, e, c1, g1, g2, optR]
      | false =>
        rw [c2] at g2
        unfold haveC
        rw [if_neg (by rintro (z | z); exact c1 z; rw [c2] at z; cases z)]
        have j := judged_ok b.rout q k2 st
        cases hj : judgedS b.rout q 100 0 with
        | none =>
          rw [hj] at j
          have j : fn_judged [.lst (b.rout.map RuleS.enc), q.enc] st = .ok .non st := j
          simp [b_Router_to_have, b_Router_to_have_i1, b_Router_to_have_i2, b_Router_to_have_i3, e2, e, c1, g1, g2, f0, f1, f2, f3, j, optR]
        | some x =>
          obtain ⟨q', pr', many⟩ := x
          rw [hj] at j
          have j : fn_judged [.lst (b.rout.map RuleS.enc), q.enc] st = .ok (.tup [q'.enc, .int pr', .int many]) st := j
          obtain ⟨m1, m2, m3, m4, m5, m6⟩ := judgedS_keeps okb.rout.2 k2 hj
          have hl := okb.rout.1
          have g3 := ix_route1 q' st
          have g4 := ix_route3 q' st
          have g5 : mulD (.tup [.int R.num]) (.int (1 + many)) st = .ok (.tup ((List.replicate (1 + many).toNat R.num).map D.int)) st := by
            show (if 1 ≤ (1 + many) ∧ (1 + many) ≤ 1000 ∧ ([D.int R.num]).isEmpty = false ∧ ([D.int R.num]).length ≤ 1000 then Rs.ok (D.tup (List.replicate (1 + many).toNat [D.int R.num]).flatten) st else .bad) = _
            rw [if_pos ⟨by omega, by omega, rfl, by simp⟩, rep_ints]
          have g6 : addD (.tup ((List.replicate (1 + many).toNat R.num).map D.int)) (.tup (q'.path.map D.int)) st = .ok (.tup ((haveP R.num many q'.path).map D.int)) st := by
            unfold haveP
            rw [List.map_append]
            refine addD_tup ?_
            rw [List.length_map, List.length_map, List.length_replicate, m2]
            omega
          dsimp only
          generalize haveP R.num many q'.path = pth at *
          generalize (List.replicate (1 + many).toNat R.num).map D.int = rl at *
          have ht : optR (some ⟨p, pth, 0, q'.tags⟩) = .tup [.str p, .tup (pth.map D.int), .int 0, .tup (q'.tags.map D.int)] := rfl
          have g7 : gtD (.int (pth.length : Int)) (.int 12) st = .ok (.bl (decide (12 < pth.length))) st := by
            rw [gtD_int]; congr 2; rw [Bool.eq_iff_iff]; simp; omega
          by_cases c3 : 12 < pth.length
          · rw [if_pos c3]
            rw [decide_eq_true c3] at g7
            simp [b_Router_to_have, b_Router_to_have_i1, b_Router_to_have_i2, b_Router_to_have_i3, e2, e, c1, g1, g2, f0, f1, f2, f3, j, g3, g5, g6, len_tup, g7, -gtD_int, optR]
          · rw [if_neg c3, ht]
            rw [decide_eq_false c3] at g7
            simp [b_Router_to_have, b_Router_to_have_i1, b_Router_to_have_i2, b_Router_to_have_i3, e2, e, c1, g1, g2, f0, f1, f2, f3, j, g3, g4, g5, g6, len_tup, g7, -gtD_int]
/-! ### due -/
abbrev Msg := Str × Option RouteS
def msgD : Msg → D
  | (p, none) => .tup [.str "gone", .str p]
  | (_, some q) => .tup [.str "route", q.enc]
def dueOne (R : Rt) (o : Int) (b : Nb) (p : Str) : Option Msg := if haveM R o b p = aGet b.told p then none else some (p, haveM R o b p)
def dueM (R : Rt) (o : Int) (b : Nb) : List Msg := (pfxs R).filterMap (dueOne R o b)
theorem neighbour_ok {st : Sto} {R : Rt} (h : RAt st R) (o : Int) : fn_Router_neighbour [.loc R.l, .int o] st = match aGet R.others o with
    | some b => .ok (.loc b.l) st
    | none => .exc 3 st := by
  have f1 : fldD 5 1 (.loc R.l) st = .ok (.loc R.lo) st := fld_at h.i rfl
  have f5 := notIn_at h.o (key_int o)
  rw [h.look, Option.isSome_map] at f5
  cases hb : aGet R.others o with
  | none =>
    rw [hb] at f5
    simp [fn_Router_neighbour, b_Router_neighbour, b_Router_neighbour_i1, f1, f5]
  | some b =>
    rw [hb] at f5
    have f2 := h.ixo hb
    simp [fn_Router_neighbour, b_Router_neighbour, b_Router_neighbour_i1, f1, f2, f5]
theorem living_ok {st : Sto} {R : Rt} (h : RAt st R) (o : Int) : fn_Router_living [.loc R.l, .int o] st = match aGet R.others o with
    | some b => if b.up = true then .ok (.loc b.l) st else .exc 3 st
    | none => .exc 3 st := by
  have e2 : isIns 5 st (.loc R.l) = true := isIns_at h.i
  have f1 : fldD 5 1 (.loc R.l) st = .ok (.loc R.lo) st := fld_at h.i rfl
  have hn := neighbour_ok h o
  cases hb : aGet R.others o with
  | none =>
    rw [hb] at hn
    simp [fn_Router_living, b_Router_living, b_Router_living_i1, e2, hn]
  | some b =>
    rw [hb] at hn
    have nb := h.nbAt hb
    have f2 := h.ixo hb
    have f3 : fldD 4 0 (.loc b.l) st = .ok (.bl b.up) st := fld_at nb.i rfl
    cases hu : b.up with
    | true =>
      rw [hu] at f3
      simp [fn_Router_living, b_Router_living, b_Router_living_i1, e2, hn, f1, f2, f3, hu]
    | false =>
      rw [hu] at f3
      simp [fn_Router_living, b_Router_living, b_Router_living_i1, e2, hn, f1, f2, f3, hu]
theorem is_optR (c : Option RouteS) (st : Sto) : isD (optR c) .non st = .ok (.bl c.isNone) st := by cases c <;> rfl
theorem due_loop {U : List Str} {st : Sto} {R : Rt} (h : RAt st R) (hz : R.z = false) (ok : RtOk U R) {o : Int} {b : Nb} (hb : aGet R.others o = some b) : ∀ (ps : List Str) (ms : List Msg) (a4 a5 : Option D), ms.length + ps.length ≤ 1000 →
    ∃ b4 b5, loopL (tgN 4) b_Router_due_l1 (ps.map D.str) [some (.loc R.l), some (.int o), some (.loc b.l), some (.loc st.length), a4, a5] (st ++ [.lst (ms.map msgD)]) = .nx [some (.loc R.l), some (.int o), some (.loc b.l), some (.loc st.length), b4, b5] (st ++ [.lst ((ms ++ ps.filterMap (dueOne R o b)).map msgD)])
  | [], ms, a4, a5, _ => ⟨a4, a5, by rw [List.filterMap_nil, List.append_nil]; rfl⟩
  | p :: ps, ms, a4, a5, hl => by
    rw [List.length_cons] at hl
    have hm := h.more [.lst (ms.map msgD)]
    have nb := hm.nbAt hb
    have e2 : isIns 5 (st ++ [.lst (ms.map msgD)]) (.loc R.l) = true := isIns_at hm.i
    have e := to_have_ok hm hz ok hb p
    have f4 : fldD 4 4 (.loc b.l) (st ++ [.lst (ms.map msgD)]) = .ok (.loc b.lt) (st ++ [.lst (ms.map msgD)]) := fld_at nb.i rfl
    have f5 : isDi (st ++ [.lst (ms.map msgD)]) (.loc b.lt) = true := isDi_at nb.t
    have f6 := getD1_at nb.t (key_str p)
    rw [saidD_look] at f6
    have f6 : getD1 (.loc b.lt) (.str p) (st ++ [.lst (ms.map msgD)]) = .ok (optR (aGet b.told p)) (st ++ [.lst (ms.map msgD)]) := by
      rw [f6]; cases aGet b.told p <;> rfl
    have f7 := ne_optR (haveM R o b p) (aGet b.told p) (st ++ [.lst (ms.map msgD)])
    rw [List.filterMap_cons]
    by_cases hd : haveM R o b p = aGet b.told p
    · have e3 : dueOne R o b p = none := by unfold dueOne; rw [if_pos hd]
      rw [e3]
      rw [decide_eq_true hd] at f7
      obtain ⟨b4, b5, ih⟩ := due_loop h hz ok hb ps ms (some (.str p)) (some (optR (haveM R o b p))) (by omega)
      refine ⟨b4, b5, ?_⟩
      rw [List.map_cons, loopN_nx (e := [some (.loc R.l), some (.int o), some (.loc b.l), some (.loc st.length), some (.str p), some (optR (haveM R o b p))]) (s := st ++ [.lst (ms.map msgD)])]
      · exact ih
      · simp [b_Router_due_l1, b_Router_due_i1, e2, e, f4, f5, f6, f7]
    · have e3 : dueOne R o b p = some (p, haveM R o b p) := by unfold dueOne; rw [if_neg hd]
      rw [e3]
      rw [decide_eq_false hd] at f7
      obtain ⟨b4, b5, ih⟩ := due_loop h hz ok hb ps (ms ++ [(p, haveM R o b p)]) (some (.str p)) (some (optR (haveM R o b p))) (by simp; omega)
      refine ⟨b4, b5, ?_⟩
      rw [List.append_assoc] at ih
      rw [List.map_cons, loopN_nx (e := [some (.loc R.l), some (.int o), some (.loc b.l), some (.loc st.length), some (.str p), some (optR (haveM R o b p))]) (s := st ++ [.lst ((ms ++ [(p, haveM R o b p)]).map msgD)])]
      · exact ih
      · have f8 := chkL_new st (ms.map msgD)
        have f9 := append_new (st := st) (xs := ms.map msgD) (msgD (p, haveM R o b p)) (by rw [List.length_map]; omega)
        have f10 := is_optR (haveM R o b p) (st ++ [.lst (ms.map msgD)])
        rw [List.map_append, List.map_cons, List.map_nil]
        generalize ms.map msgD = ds at *
        cases hr : haveM R o b p with
        | none =>
          rw [hr] at e f7 f9 f10
          have f9 : appendD (.loc st.length) [.tup [.str "gone", .str p]] (st ++ [.lst ds]) = .ok .non (st ++ [.lst (ds ++ [.tup [.str "gone", .str p]])]) := f9
          simp [b_Router_due_l1, b_Router_due_i1, e2, e, f4, f5, f6, f7, f8, f9, f10, msgD]
        | some q =>
          rw [hr] at e f7 f9 f10
          have f9 : appendD (.loc st.length) [.tup [.str "route", optR (some q)]] (st ++ [.lst ds]) = .ok .non (st ++ [.lst (ds ++ [.tup [.str "route", optR (some q)]])]) := f9
          simp [b_Router_due_l1, b_Router_due_i1, e2, e, f4, f5, f6, f7, f8, f9, f10, msgD]
          rfl
theorem due_ok {U : List Str} {st : Sto} {R : Rt} (h : RAt st R) (hz : R.z = false) (ok : RtOk U R) {o : Int} {b : Nb} (hb : aGet R.others o = some b) (hu : b.up = true) : fn_Router_due [.loc R.l, .int o] st = .ok (.loc st.length) (st ++ [.lst ((dueM R o b).map msgD)]) := by
  have e2 : isIns 5 st (.loc R.l) = true := isIns_at h.i
  have hL := living_ok h o
  rw [hb] at hL
  dsimp only at hL
  rw [if_pos hu] at hL
  have hm := h.more [.lst []]
  have e3 : isIns 5 (st ++ [.lst []]) (.loc R.l) = true := isIns_at hm.i
  have hp := prefixes_okR hm hz ok
  have l1 := pfxs_len ok
  have l2 := ok.small
  obtain ⟨b4, b5, e⟩ := due_loop h hz ok hb (pfxs R) [] none none (by simp; omega)
  rw [List.nil_append] at e
  have e : loopL (tgN 4) b_Router_due_l1 ((pfxs R).map D.str) [some (.loc R.l), some (.int o), some (.loc b.l), some (.loc st.length), none, none] (st ++ [.lst []]) = .nx [some (.loc R.l), some (.int o), some (.loc b.l), some (.loc st.length), b4, b5] (st ++ [.lst ((dueM R o b).map msgD)]) := e
  generalize (dueM R o b).map msgD = out at *
  generalize (pfxs R).map D.str = ps at *
  unfold fn_Router_due
  simp [b_Router_due, e2, hL, e3, hp, e]
theorem due_exc {st : Sto} {R : Rt} (h : RAt st R) {o : Int} (hb : ∀ b, aGet R.others o = some b → b.up = false) : fn_Router_due [.loc R.l, .int o] st = .exc 3 st := by
  have e2 : isIns 5 st (.loc R.l) = true := isIns_at h.i
  have hL := living_ok h o
  have hL : fn_Router_living [.loc R.l, .int o] st = .exc 3 st := by
    rw [hL]
    cases e : aGet R.others o with
    | none => rfl
    | some b => dsimp only; rw [hb b e]; rfl
  unfold fn_Router_due
  simp [b_Router_due, e2, hL]
end DL

/-! CR7: deeds at a router. -/
namespace DL
open PySem PySem.Spec PyProof.Rows L2
theorem RAt.nbNodup {st : Sto} {R : Rt} (h : RAt st R) {o : Int} {b : Nb} (hb : aGet R.others o = some b) : b.pl.Nodup := by
  have nd := h.nd
  unfold Rt.pl at nd
  have nd2 := (List.nodup_cons.mp (List.nodup_cons.mp (List.nodup_cons.mp nd).2).2).2
  rw [List.Nodup, List.pairwise_flatMap] at nd2
  exact nd2.1 (o, b) (aGet_mem hb)
theorem Nb.pl3 {b : Nb} (h : b.pl.Nodup) : b.l ≠ b.ls ∧ b.l ≠ b.lt ∧ b.ls ≠ b.lt := by
  simp only [Nb.pl, List.nodup_cons, List.mem_cons, List.mem_nil_iff, or_false, not_or] at h
  exact ⟨h.1.1, h.1.2, h.2.1⟩
theorem RAt.op {st st' : Sto} {R : Rt} {o : Int} {b b' : Nb} (h : RAt st R) (hb : aGet R.others o = some b) (k : ∀ q < st.length, q ∉ b.pl → st'[q]? = st[q]?) (hlen : st.length ≤ st'.length) (hn : NbAt st' b') (hl : b'.l = b.l) (nd : b'.pl.Nodup) (hp : ∀ q ∈ b'.pl, q ∈ b.pl ∨ st.length ≤ q) :
    RAt st' (R.setNb o b') ∧ Chg R.pl st st' (R.setNb o b').pl := by
  refine ⟨h.upd hb k hn hl nd hp, ⟨fun q hq hn => k q hq fun z => hn (Rt.mem_pl.mpr (.inr (.inr (.inr ⟨(o, b), aGet_mem hb, z⟩)))), hlen, fun q hq => ?_⟩⟩
  rcases Rt.mem_pl.mp hq with e | e | e | ⟨x, hx, hq⟩
  · exact .inl (Rt.mem_pl.mpr (.inl e))
  · exact .inl (Rt.mem_pl.mpr (.inr (.inl e)))
  · exact .inl (Rt.mem_pl.mpr (.inr (.inr (.inl e))))
  · rcases mem_aPut hx with e | hx
    · rw [e] at hq
      exact (hp q hq).imp (fun z => Rt.mem_pl.mpr (.inr (.inr (.inr ⟨(o, b), aGet_mem hb, z⟩)))) id
    · exact .inl (Rt.mem_pl.mpr (.inr (.inr (.inr ⟨x, hx, hq⟩))))
/-- one place of a neighbour is changed -/
theorem RAt.op1 {st : Sto} {R : Rt} {o : Int} {b b' : Nb} (h : RAt st R) (hb : aGet R.others o = some b) (q : Nat) (ob : Ob) (hq : q ∈ b.pl) (hn : NbAt (st.set q ob) b') (e1 : b'.l = b.l) (e2 : b'.ls = b.ls) (e3 : b'.lt = b.lt) :
    RAt (st.set q ob) (R.setNb o b') ∧ Chg R.pl st (st.set q ob) (R.setNb o b').pl := by
  have ep : b'.pl = b.pl := by unfold Nb.pl; rw [e1, e2, e3]
  exact h.op hb (fun p hp hn => get_set_ne fun z => hn (z ▸ hq)) (by rw [List.length_set]; exact Nat.le_refl _) hn e1 (by rw [ep]; exact h.nbNodup hb) fun p hp => .inl (ep ▸ hp)
theorem ix_head (a : Int) (r : List Int) (st : Sto) : ixD (.tup ((a :: r).map D.int)) (.int 0) st = .ok (.int a) st := ixD_tup (by
  rw [show (0 : Int) = ((0 : Nat) : Int) from rfl, atI_nat' 0 (by simp)]; rfl)
/-! ### up, down -/
theorem up_ok {st : Sto} {R : Rt} (h : RAt st R) {o : Int} {b : Nb} (hb : aGet R.others o = some b) : ∃ st', fn_Router_up [.loc R.l, .int o] st = .ok .non st' ∧ RAt st' (R.setNb o { b with up := true }) ∧ Chg R.pl st st' (R.setNb o { b with up := true }).pl := by
  have e2 : isIns 5 st (.loc R.l) = true := isIns_at h.i
  have hn := neighbour_ok h o
  rw [hb] at hn
  have nb := h.nbAt hb
  obtain ⟨d1, d2, d3⟩ := Nb.pl3 (h.nbNodup hb)
  have f1 := setF_at (n := 5) (i := 0) (y := D.bl true) (env := [some (.loc R.l), some (.int o), some (.loc b.l)]) nb.i (by simp) (by decide)
  refine ⟨st.set b.l (.ins 4 [.bl true, .lst (b.rin.map RuleS.enc), .lst (b.rout.map RuleS.enc), .loc b.ls, .loc b.lt]), ?_, h.op1 hb b.l _ (by simp [Nb.pl]) ⟨get_set_self (lt_of_get nb.i), ?_, ?_⟩ rfl rfl rfl⟩
  · have f1 : setFR 4 0 5 [some (.loc R.l), some (.int o), some (.loc b.l)] (.loc b.l) (.bl true) st = .nx [some (.loc R.l), some (.int o), some (.loc b.l)] (st.set b.l (.ins 4 [.bl true, .lst (b.rin.map RuleS.enc), .lst (b.rout.map RuleS.enc), .loc b.ls, .loc b.lt])) := f1
    unfold fn_Router_up
    simp [b_Router_up, e2, hn, f1]
  · rw [get_set_ne d1.symm]; exact nb.s
  · rw [get_set_ne d2.symm]; exact nb.t
theorem nb_exc {st : Sto} {R : Rt} (h : RAt st R) {o : Int} (hb : aGet R.others o = none) : fn_Router_up [.loc R.l, .int o] st = .exc 3 st ∧ fn_Router_down [.loc R.l, .int o] st = .exc 3 st ∧ ∀ d ds, fn_Router_rules [.loc R.l, .int o, d, .lst ds] st = .exc 3 st := by
  have e2 : isIns 5 st (.loc R.l) = true := isIns_at h.i
  have hn := neighbour_ok h o
  rw [hb] at hn
  refine ⟨?_, ?_, fun d ds => ?_⟩
  · unfold fn_Router_up
    simp [b_Router_up, e2, hn]
  · unfold fn_Router_down
    simp [b_Router_down, e2, hn]
  · unfold fn_Router_rules
    simp [b_Router_rules, e2, hn]
theorem down_ok {st : Sto} {R : Rt} (h : RAt st R) {o : Int} {b : Nb} (hb : aGet R.others o = some b) : ∃ st' b', fn_Router_down [.loc R.l, .int o] st = .ok .non st' ∧ RAt st' (R.setNb o b') ∧ Chg R.pl st st' (R.setNb o b').pl ∧ b'.up = false ∧ b'.rin = b.rin ∧ b'.rout = b.rout ∧ b'.said = [] ∧ b'.told = [] := by
  have e2 : isIns 5 st (.loc R.l) = true := isIns_at h.i
  have hn := neighbour_ok h o
  rw [hb] at hn
  have nb := h.nbAt hb
  have hl := lt_of_get nb.i
  obtain ⟨d1, d2, d3⟩ := Nb.pl3 (h.nbNodup hb)
  generalize hS1 : st.set b.l (.ins 4 [.bl false, .lst (b.rin.map RuleS.enc), .lst (b.rout.map RuleS.enc), .loc b.ls, .loc b.lt]) = S1
  have l1 : S1.length = st.length := by rw [← hS1, List.length_set]
  generalize hS2 : (S1 ++ [Ob.dk false []]).set b.l (.ins 4 [.bl false, .lst (b.rin.map RuleS.enc), .lst (b.rout.map RuleS.enc), .loc st.length, .loc b.lt]) = S2
  have l2 : S2.length = st.length + 1 := by rw [← hS2, List.length_set, List.length_append, l1]; rfl
  generalize hS3 : (S2 ++ [Ob.dk false []]).set b.l (.ins 4 [.bl false, .lst (b.rin.map RuleS.enc), .lst (b.rout.map RuleS.enc), .loc st.length, .loc (st.length + 1)]) = S3
  have l3 : S3.length = st.length + 2 := by rw [← hS3, List.length_set, List.length_append, l2]; rfl
  have k1 : ∀ q < st.length, q ≠ b.l → S1[q]? = st[q]? := fun q hq hne => by rw [← hS1]; exact get_set_ne hne
  have k2 : ∀ q < st.length, q ≠ b.l → S2[q]? = st[q]? := fun q hq hne => by rw [← hS2, get_set_ne hne, List.getElem?_append_left (by omega)]; exact k1 q hq hne
  have k3 : ∀ q < st.length, q ≠ b.l → S3[q]? = st[q]? := fun q hq hne => by rw [← hS3, get_set_ne hne, List.getElem?_append_left (by omega)]; exact k2 q hq hne
  have i1 : S1[b.l]? = some (.ins 4 [.bl false, .lst (b.rin.map RuleS.enc), .lst (b.rout.map RuleS.enc), .loc b.ls, .loc b.lt]) := by rw [← hS1]; exact get_set_self hl
  have i1' : (S1 ++ [Ob.dk false []])[b.l]? = some (.ins 4 [.bl false, .lst (b.rin.map RuleS.enc), .lst (b.rout.map RuleS.enc), .loc b.ls, .loc b.lt]) := by rw [List.getElem?_append_left (by omega)]; exact i1
  have i2 : S2[b.l]? = some (.ins 4 [.bl false, .lst (b.rin.map RuleS.enc), .lst (b.rout.map RuleS.enc), .loc st.length, .loc b.lt]) := by rw [← hS2]; exact get_set_self (by rw [List.length_append]; omega)
  have i2' : (S2 ++ [Ob.dk false []])[b.l]? = some (.ins 4 [.bl false, .lst (b.rin.map RuleS.enc), .lst (b.rout.map RuleS.enc), .loc st.length, .loc b.lt]) := by rw [List.getElem?_append_left (by omega)]; exact i2
  have i3 : S3[b.l]? = some (.ins 4 [.bl false, .lst (b.rin.map RuleS.enc), .lst (b.rout.map RuleS.enc), .loc st.length, .loc (st.length + 1)]) := by rw [← hS3]; exact get_set_self (by rw [List.length_append]; omega)
  have s3 : S3[st.length]? = some (.dk false []) := by
    rw [← hS3, get_set_ne (by omega), List.getElem?_append_left (by omega), ← hS2, get_set_ne (by omega), List.getElem?_append_right (by omega), l1]
    simp
  have t3 : S3[st.length + 1]? = some (.dk false []) := by
    rw [← hS3, get_set_ne (by omega), List.getElem?_append_right (by omega), l2]
    simp
  have f1 := setF_at (n := 5) (i := 0) (y := D.bl false) (env := [some (.loc R.l), some (.int o), some (.loc b.l)]) nb.i (by simp) (by decide)
  have f2 := setF_at (n := 5) (i := 3) (y := D.loc st.length) (env := [some (.loc R.l), some (.int o), some (.loc b.l)]) i1' (by simp) (by decide)
  have f3 := setF_at (n := 5) (i := 4) (y := D.loc (st.length + 1)) (env := [some (.loc R.l), some (.int o), some (.loc b.l)]) i2' (by simp) (by decide)
  have f1 : setFR 4 0 5 [some (.loc R.l), some (.int o), some (.loc b.l)] (.loc b.l) (.bl false) st = .nx [some (.loc R.l), some (.int o), some (.loc b.l)] S1 := by rw [← hS1]; exact f1
  have f2 : setFR 4 3 5 [some (.loc R.l), some (.int o), some (.loc b.l)] (.loc b.l) (.loc st.length) (S1 ++ [.dk false []]) = .nx [some (.loc R.l), some (.int o), some (.loc b.l)] S2 := by rw [← hS2]; exact f2
  have f3 : setFR 4 4 5 [some (.loc R.l), some (.int o), some (.loc b.l)] (.loc b.l) (.loc (st.length + 1)) (S2 ++ [.dk false []]) = .nx [some (.loc R.l), some (.int o), some (.loc b.l)] S3 := by rw [← hS3]; exact f3
  have fin := h.op (b' := { b with up := false, ls := st.length, lt := st.length + 1, said := [], told := [] }) hb (fun q hq hne => k3 q hq fun z => hne (by rw [z]; simp [Nb.pl])) (by omega) ⟨i3, s3, t3⟩ rfl (by
    simp only [Nb.pl, List.nodup_cons, List.mem_cons, List.mem_nil_iff, or_false, not_or]
    exact ⟨⟨by omega, by omega⟩, by omega, not_false, List.nodup_nil⟩) fun q hq => by
    simp only [Nb.pl, List.mem_cons, List.mem_nil_iff, or_false] at hq
    rcases hq with rfl | rfl | rfl
    · exact .inl (by simp [Nb.pl])
    · exact .inr (Nat.le_refl _)
    · exact .inr (Nat.le_succ _)
  refine ⟨S3, _, ?_, fin.1, fin.2, rfl, rfl, rfl, rfl, rfl⟩
  unfold fn_Router_down
  simp [b_Router_down, e2, hn, f1, l1, f2, l2, f3]
/-! ### hear, gone, own -/
def sayNb (b : Nb) (q : RouteS) : Nb := { b with said := aPut b.said q.pfx q }
theorem hear_ok {U : List Str} {st : Sto} {R : Rt} (h : RAt st R) (ok : RtOk U R) (hU : U.length < 64) {o : Int} {b : Nb} (hb : aGet R.others o = some b) (hu : b.up = true) {q : RouteS} (hq : GoodRoute q) (hl : q.pfx.length ≤ 1000 ∧ q.path.length ≤ 1000 ∧ q.tags.length ≤ 1000) (ho : q.path.head? = some o) :
    ∃ st', fn_Router_hear [.loc R.l, .int o, q.enc] st = .ok .non st' ∧ RAt st' (R.setNb o (sayNb b q)) ∧ Chg R.pl st st' (R.setNb o (sayNb b q)).pl := by
  have e2 : isIns 5 st (.loc R.l) = true := isIns_at h.i
  have hL := living_ok h o
  rw [hb] at hL
  dsimp only at hL
  rw [if_pos hu] at hL
  have nb := h.nbAt hb
  have okb := ok.nb (o, b) (aGet_mem hb)
  obtain ⟨d1, d2, d3⟩ := Nb.pl3 (h.nbNodup hb)
  have g1 := need_route_ok hl.1 hl.2.1 hl.2.2 st
  rw [if_pos hq] at g1
  have g2 := ix_route1 q st
  have g3 := ix_route0 q st
  have g4 : ixD (.tup (q.path.map D.int)) (.int 0) st = .ok (.int o) st := by
    cases hp : q.path with
    | nil => rw [hp] at ho; cases ho
    | cons a r => rw [hp] at ho; cases ho; exact ix_head _ _ _
  have f3 : fldD 4 3 (.loc b.l) st = .ok (.loc b.ls) st := fld_at nb.i rfl
  have hlen : (saidD b.said).length < 1000000 := by
    have l1 := nodup_len okb.saidN (U := U) fun p hp => by
      obtain ⟨x, hx, rfl⟩ := List.mem_map.mp hp
      exact (okb.said x hx).1
    unfold saidD
    rw [aEnc_len]
    simp only [List.length_map] at l1
    omega
  have f4 := putR_at (d := q.enc) (env := [some (.loc R.l), some (.int o), some q.enc, some (.loc b.l)]) nb.s (key_str q.pfx) hlen
  have e4 : putD (saidD b.said) (Sum.inr q.pfx) q.enc = saidD (aPut b.said q.pfx q) := put_enc (h := RouteS.enc) inr_inj b.said q.pfx q
  rw [e4] at f4
  refine ⟨st.set b.ls (.dk false (saidD (aPut b.said q.pfx q))), ?_, h.op1 hb b.ls _ (by simp [Nb.pl]) ⟨?_, get_set_self (lt_of_get nb.s), ?_⟩ rfl rfl rfl⟩
  · unfold fn_Router_hear
    simp [b_Router_hear, b_Router_hear_i1, e2, hL, g1, g2, g3, g4, f3, f4]
  · rw [get_set_ne (show (sayNb b q).l ≠ b.ls from d1)]; exact nb.i
  · rw [get_set_ne (show (sayNb b q).lt ≠ b.ls from d3.symm)]; exact nb.t
theorem living_exc {st : Sto} {R : Rt} (h : RAt st R) {o : Int} (hb : ∀ b, aGet R.others o = some b → b.up = false) : (∀ q : RouteS, fn_Router_hear [.loc R.l, .int o, q.enc] st = .exc 3 st) ∧ ∀ p : Str, fn_Router_gone [.loc R.l, .int o, .str p] st = .exc 3 st := by
  have e2 : isIns 5 st (.loc R.l) = true := isIns_at h.i
  have hL := living_ok h o
  have hL : fn_Router_living [.loc R.l, .int o] st = .exc 3 st := by
    rw [hL]
    cases e : aGet R.others o with
    | none => rfl
    | some b => dsimp only; rw [hb b e]; rfl
  refine ⟨fun q => ?_, fun p => ?_⟩
  · unfold fn_Router_hear
    simp [b_Router_hear, e2, hL]
  · unfold fn_Router_gone
    simp [b_Router_gone, e2, hL]
theorem hear_bad {st : Sto} {R : Rt} (h : RAt st R) {o : Int} {b : Nb} (hb : aGet R.others o = some b) (hu : b.up = true) {q : RouteS} (hl : q.pfx.length ≤ 1000 ∧ q.path.length ≤ 1000 ∧ q.tags.length ≤ 1000) (hq : ¬ GoodRoute q ∨ q.path.head? ≠ some o) :
    fn_Router_hear [.loc R.l, .int o, q.enc] st = .exc 1 st := by
  have e2 : isIns 5 st (.loc R.l) = true := isIns_at h.i
  have hL := living_ok h o
  rw [hb] at hL
  dsimp only at hL
  rw [if_pos hu] at hL
  have g1 := need_route_ok hl.1 hl.2.1 hl.2.2 st
  by_cases hg : GoodRoute q
  · rw [if_pos hg] at g1
    have ho := hq.resolve_left fun z => z hg
    have g2 := ix_route1 q st
    have g4 : ∃ a, ixD (.tup (q.path.map D.int)) (.int 0) st = .ok (.int a) st ∧ a ≠ o := by
      cases hp : q.path with
      | nil => have := hg.path.1.1; rw [hp] at this; simp at this
      | cons a r => rw [hp] at ho; exact ⟨a, ix_head _ _ _, fun z => ho (by rw [z]; rfl)⟩
    obtain ⟨a, g4, g5⟩ := g4
    unfold fn_Router_hear
    simp [b_Router_hear, b_Router_hear_i1, e2, hL, g1, g2, g4, g5]
  · rw [if_neg hg] at g1
    unfold fn_Router_hear
    simp [b_Router_hear, b_Router_hear_i1, e2, hL, g1]
def goneNb (b : Nb) (p : Str) : Nb := { b with said := aDrop b.said p }
theorem gone_okR {st : Sto} {R : Rt} (h : RAt st R) {o : Int} {b : Nb} (hb : aGet R.others o = some b) (hu : b.up = true) {p : Str} (hp : isPfx p = true) (hl : p.length ≤ 1000) :
    ∃ st', fn_Router_gone [.loc R.l, .int o, .str p] st = .ok .non st' ∧ RAt st' (R.setNb o (goneNb b p)) ∧ Chg R.pl st st' (R.setNb o (goneNb b p)).pl := by
  have e2 : isIns 5 st (.loc R.l) = true := isIns_at h.i
  have hL := living_ok h o
  rw [hb] at hL
  dsimp only at hL
  rw [if_pos hu] at hL
  have nb := h.nbAt hb
  obtain ⟨d1, d2, d3⟩ := Nb.pl3 (h.nbNodup hb)
  have g1 := need_prefix_ok hl st
  rw [if_pos hp] at g1
  have f3 : fldD 4 3 (.loc b.l) st = .ok (.loc b.ls) st := fld_at nb.i rfl
  have f4 : isDi st (.loc b.ls) = true := isDi_at nb.s
  have f5 := pop2_at (z := D.non) nb.s (key_str p)
  have e5 : dropD (saidD b.said) (Sum.inr p) = saidD (aDrop b.said p) := drop_enc (h := RouteS.enc) inr_inj p b.said
  rw [e5] at f5
  refine ⟨st.set b.ls (.dk false (saidD (aDrop b.said p))), ?_, h.op1 hb b.ls _ (by simp [Nb.pl]) ⟨?_, get_set_self (lt_of_get nb.s), ?_⟩ rfl rfl rfl⟩
  · unfold fn_Router_gone
    simp [b_Router_gone, e2, hL, g1, f3, f4, f5]
  · rw [get_set_ne (show (goneNb b p).l ≠ b.ls from d1)]; exact nb.i
  · rw [get_set_ne (show (goneNb b p).lt ≠ b.ls from d3.symm)]; exact nb.t
theorem gone_bad {st : Sto} {R : Rt} (h : RAt st R) {o : Int} {b : Nb} (hb : aGet R.others o = some b) (hu : b.up = true) {p : Str} (hp : isPfx p = false) (hl : p.length ≤ 1000) :
    fn_Router_gone [.loc R.l, .int o, .str p] st = .exc 1 st := by
  have e2 : isIns 5 st (.loc R.l) = true := isIns_at h.i
  have hL := living_ok h o
  rw [hb] at hL
  dsimp only at hL
  rw [if_pos hu] at hL
  have g1 := need_prefix_ok hl st
  rw [if_neg (by rw [hp]; exact Bool.false_ne_true)] at g1
  unfold fn_Router_gone
  simp [b_Router_gone, e2, hL, g1]
def ownM (R : Rt) (p : Str) (is : Bool) : Rt := { R with owned := if is = true then aPut R.owned p () else aDrop R.owned p }
theorem own_okR {U : List Str} {st : Sto} {R : Rt} (h : RAt st R) (ok : RtOk U R) {p : Str} (hp : isPfx p = true) (hl : p.length ≤ 1000) (is : Bool) :
    ∃ st', fn_Router_own [.loc R.l, .str p, .bl is] st = .ok .non st' ∧ RAt st' (ownM R p is) ∧ Chg R.pl st st' (ownM R p is).pl := by
  obtain ⟨a1, a2, a3, a4⟩ := h.apart
  have g1 := need_prefix_ok hl st
  rw [if_pos hp] at g1
  have f2 : fldD 5 2 (.loc R.l) st = .ok (.loc R.lw) st := fld_at h.i rfl
  have fin : ∀ ws : List (Str × Unit), RAt (st.set R.lw (.dk false (wEnc ws))) { R with owned := ws } ∧ Chg R.pl st (st.set R.lw (.dk false (wEnc ws))) R.pl := fun ws => by
    refine ⟨⟨by rw [get_set_ne a3]; exact h.i, by rw [get_set_ne a2]; exact h.o, get_set_self (lt_of_get h.w), fun x hx => (h.n x hx).frame fun q hq => get_set_ne (a4 x hx q hq).2.2, h.nd, h.keys⟩, ⟨fun q hq hn => get_set_ne fun z => hn (Rt.mem_pl.mpr (.inr (.inr (.inl z)))), by rw [List.length_set]; exact Nat.le_refl _, fun q hq => .inl hq⟩⟩
  have hlen : R.wD.length < 1000000 := by
    unfold Rt.wD; rw [aEnc_len]
    have := ok.row.len
    have := ok.small
    omega
  cases is with
  | true =>
    have f4 := putR_at (d := D.bl true) (env := [some (.loc R.l), some (.str p), some (.bl true)]) h.w (key_str p) hlen
    have e4 : putD R.wD (Sum.inr p) (D.bl true) = wEnc (aPut R.owned p ()) := put_enc (h := unitT) inr_inj R.owned p ()
    rw [e4] at f4
    refine ⟨st.set R.lw (.dk false (wEnc (aPut R.owned p ()))), ?_, fin _⟩
    unfold fn_Router_own
    simp [b_Router_own, b_Router_own_i1, g1, f2, f4]
  | false =>
    have f4 : isDi st (.loc R.lw) = true := isDi_at h.w
    have f5 := pop2_at (z := D.non) h.w (key_str p)
    have e5 : dropD R.wD (Sum.inr p) = wEnc (aDrop R.owned p) := drop_enc (h := unitT) inr_inj p R.owned
    rw [e5] at f5
    refine ⟨st.set R.lw (.dk false (wEnc (aDrop R.owned p))), ?_, fin _⟩
    unfold fn_Router_own
    simp [b_Router_own, b_Router_own_i1, g1, f2, f4, f5]
end DL

/-! CR8: add, rules, tell; what stays well formed. -/
namespace DL
open PySem PySem.Spec PyProof.Rows L2
/-! ### add -/
def freshNb (n : Nat) : Nb := ⟨n, n + 1, n + 2, false, [], [], [], []⟩
theorem nb_init (st : Sto) : newD 4 fn_Neighbour___init__ [] st = .ok (.loc st.length) (st ++ [(freshNb st.length).ob, .dk false [], .dk false []]) := by
  have e : ∀ (fs : List D) (ext : Sto), (st ++ Ob.ins 4 fs :: ext)[st.length]? = some (.ins 4 fs) := fun fs ext => by simp
  have s : ∀ (fs : List D) (ext : Sto) (o : Ob), (st ++ Ob.ins 4 fs :: ext).set st.length o = st ++ o :: ext := fun fs ext o => by
    rw [List.set_append_right _ _ (Nat.le_refl _)]; simp
  have f : ∀ (fs : List D) (ext : Sto) (i : Nat) (y : D), i = fs.length → i < 5 → setFR 4 i 5 [some (.loc st.length)] (.loc st.length) y (st ++ Ob.ins 4 fs :: ext) = .nx [some (.loc st.length)] (st ++ Ob.ins 4 (fs ++ [y]) :: ext) := fun fs ext i y hi hn => by
    rw [setF_at (e fs ext) (by omega) hn, s]
    unfold putAt
    rw [if_neg (by omega)]
  have f0 := f [] [] 0 (.bl false) rfl (by decide)
  have f1 := f [.bl false] [] 1 (.lst []) rfl (by decide)
  have f2 := f [.bl false, .lst []] [] 2 (.lst []) rfl (by decide)
  have f3 := f [.bl false, .lst [], .lst []] [.dk false []] 3 (.loc (st.length + 1)) rfl (by decide)
  have f4 := f [.bl false, .lst [], .lst [], .loc (st.length + 1)] [.dk false [], .dk false []] 4 (.loc (st.length + 2)) rfl (by decide)
  have hr : fn_Neighbour___init__ [.loc st.length] (st ++ [.ins 4 []]) = .ok .non (st ++ [(freshNb st.length).ob, .dk false [], .dk false []]) := by
    unfold fn_Neighbour___init__
    simp only [List.cons_append, List.nil_append] at f0 f1 f2 f3 f4
    simp [b_Neighbour___init__, f0, f1, f2, f3, f4, Nb.ob, freshNb]
  unfold newD
  rw [hr]
  rfl
theorem not_mem_oD {R : Rt} {o : Int} (h : aGet R.others o = none) : R.oD.any (fun kv => decide (kv.1 = Sum.inl o)) = false := by
  have := any_enc (h := nbLoc) inl_inj o R.others
  unfold Rt.oD
  rw [this, ← Bool.not_eq_true, List.any_eq_true]
  rintro ⟨x, hx, e⟩
  exact aGet_none.mp h (List.mem_map.mpr ⟨x, hx, of_decide_eq_true e⟩)
def addNb (R : Rt) (o : Int) (n : Nat) : Rt := { R with others := aPut R.others o (freshNb n) }
theorem add_okR {U : List Str} {st : Sto} {R : Rt} (h : RAt st R) (hz : R.z = false) (ok : RtOk U R) {o : Int} (ho : 1 ≤ o ∧ o ≤ 999) (hne : o ≠ R.num) (hb : aGet R.others o = none) :
    ∃ st', fn_Router_add [.loc R.l, .int o] st = .ok .non st' ∧ RAt st' (addNb R o st.length) ∧ Chg R.pl st st' (addNb R o st.length).pl := by
  have hlo := h.o
  rw [hz] at hlo
  have f0 : fldD 5 0 (.loc R.l) st = .ok (.int R.num) st := fld_at h.i rfl
  have f1 : fldD 5 1 (.loc R.l) st = .ok (.loc R.lo) st := fld_at h.i rfl
  have f5 := in_at h.o (key_int o)
  rw [h.look, hb] at f5
  have f5 : inD (.int o) (.loc R.lo) st = .ok (.bl false) st := f5
  have c1 := chain_le 1 o 999 st (fun st => leD (.int o) (.int 999) st) rfl
  have c2 : inB1 1 999 o = true := by unfold inB1; simp; exact ho
  rw [c2] at c1
  have hm := h.more [(freshNb st.length).ob, .dk false [], .dk false []]
  have g1 : fldD 5 1 (.loc R.l) (st ++ [(freshNb st.length).ob, .dk false [], .dk false []]) = .ok (.loc R.lo) (st ++ [(freshNb st.length).ob, .dk false [], .dk false []]) := fld_at hm.i rfl
  have hlo2 : (st ++ [(freshNb st.length).ob, .dk false [], .dk false []])[R.lo]? = some (.dk false R.oD) := by rw [List.getElem?_append_left (lt_of_get hlo)]; exact hlo
  have hlen : R.oD.length < 1000000 := by unfold Rt.oD; rw [aEnc_len]; have := ok.few; omega
  have f4 := putR_at (d := D.loc st.length) (env := [some (.loc R.l), some (.int o)]) hlo2 (key_int o) hlen
  have e4 : putD R.oD (Sum.inl o) (D.loc st.length) = (addNb R o st.length).oD := put_enc (h := nbLoc) inl_inj R.others o (freshNb st.length)
  rw [e4] at f4
  have hni := nb_init st
  have ea : aPut R.others o (freshNb st.length) = R.others ++ [(o, freshNb st.length)] := by
    unfold aPut
    rw [if_neg]
    rw [List.any_eq_true]
    rintro ⟨x, hx, e⟩
    exact aGet_none.mp hb (List.mem_map.mpr ⟨x, hx, of_decide_eq_true e⟩)
  have hlt := h.lt
  obtain ⟨a1, a2, a3, a4⟩ := h.apart
  have keep : ∀ q < st.length, q ≠ R.lo → ((st ++ [(freshNb st.length).ob, .dk false [], .dk false []]).set R.lo (.dk false (addNb R o st.length).oD))[q]? = st[q]? := fun q hq hn => by
    rw [get_set_ne hn, List.getElem?_append_left hq]
  have newc : ∀ k, k < 3 → ((st ++ [(freshNb st.length).ob, .dk false [], .dk false []]).set R.lo (.dk false (addNb R o st.length).oD))[st.length + k]? = ([(freshNb st.length).ob, .dk false [], .dk false []] : Sto)[k]? := fun k hk => by
    have := lt_of_get hlo
    rw [get_set_ne (by omega), List.getElem?_append_right (by omega), Nat.add_sub_cancel_left]
  refine ⟨(st ++ [(freshNb st.length).ob, .dk false [], .dk false []]).set R.lo (.dk false (addNb R o st.length).oD), ?_, ⟨?_, ?_, ?_, fun x hx => ?_, ?_, ?_⟩, ⟨fun q hq hn => keep q hq fun z => hn (Rt.mem_pl.mpr (.inr (.inl z))), ?_, fun q hq => ?_⟩⟩
  · unfold fn_Router_add
    simp [b_Router_add, b_Router_add_i1, c1, f0, f1, f5, hne, hni, g1, f4, -leD_int]
  · have := hlt R.l (Rt.mem_pl.mpr (.inl rfl))
    rw [keep (addNb R o st.length).l this a1]; exact h.i
  · show _ = some (Ob.dk R.z _)
    rw [hz]
    exact get_set_self (by rw [List.length_append]; have := lt_of_get hlo; omega)
  · have := hlt R.lw (Rt.mem_pl.mpr (.inr (.inr (.inl rfl))))
    rw [keep (addNb R o st.length).lw this a2.symm]; exact h.w
  · have hx : x ∈ aPut R.others o (freshNb st.length) := hx
    rw [ea] at hx
    rcases List.mem_append.mp hx with hx | hx
    · exact (h.n x hx).frame fun q hq => keep q ((h.n x hx).lt q hq) (a4 x hx q hq).2.1
    · rw [List.mem_singleton.mp hx]
      exact ⟨newc 0 (by decide), newc 1 (by decide), newc 2 (by decide)⟩
  · show (Rt.pl _).Nodup
    unfold Rt.pl addNb
    dsimp only
    rw [ea, List.flatMap_append, List.flatMap_singleton]
    have nd := h.nd
    unfold Rt.pl at nd hlt
    have : R.l :: R.lo :: R.lw :: (R.others.flatMap (fun x => x.2.pl) ++ (freshNb st.length).pl) = (R.l :: R.lo :: R.lw :: R.others.flatMap fun x => x.2.pl) ++ (freshNb st.length).pl := rfl
    rw [this, List.nodup_append]
    refine ⟨nd, ?_, fun x hx y hy e => ?_⟩
    · simp [Nb.pl, freshNb]
    · have h1 := hlt x hx
      simp only [Nb.pl, freshNb, List.mem_cons, List.mem_nil_iff, or_false] at hy
      omega
  · exact aPut_nodup o _ h.keys
  · rw [List.length_set, List.length_append]; omega
  · rcases Rt.mem_pl.mp hq with e | e | e | ⟨x, hx, hq⟩
    · exact .inl (Rt.mem_pl.mpr (.inl e))
    · exact .inl (Rt.mem_pl.mpr (.inr (.inl e)))
    · exact .inl (Rt.mem_pl.mpr (.inr (.inr (.inl e))))
    · have hx : x ∈ aPut R.others o (freshNb st.length) := hx
      rw [ea] at hx
      rcases List.mem_append.mp hx with hx | hx
      · exact .inl (Rt.mem_pl.mpr (.inr (.inr (.inr ⟨x, hx, hq⟩))))
      · rw [List.mem_singleton.mp hx] at hq
        simp only [Nb.pl, freshNb, List.mem_cons, List.mem_nil_iff, or_false] at hq
        exact .inr (by omega)
theorem add_bad {st : Sto} {R : Rt} (h : RAt st R) {o : Int} (hb : ¬ (1 ≤ o ∧ o ≤ 999) ∨ o = R.num ∨ (aGet R.others o).isSome = true) : fn_Router_add [.loc R.l, .int o] st = .exc 3 st := by
  have f0 : fldD 5 0 (.loc R.l) st = .ok (.int R.num) st := fld_at h.i rfl
  have f1 : fldD 5 1 (.loc R.l) st = .ok (.loc R.lo) st := fld_at h.i rfl
  have f5 := in_at h.o (key_int o)
  rw [h.look, Option.isSome_map] at f5
  have c1 := chain_le 1 o 999 st (fun st => leD (.int o) (.int 999) st) rfl
  unfold fn_Router_add
  by_cases h1 : 1 ≤ o ∧ o ≤ 999
  · have c2 : inB1 1 999 o = true := by unfold inB1; simp; exact h1
    rw [c2] at c1
    by_cases h2 : o = R.num
    · simp [b_Router_add, b_Router_add_i1, c1, f0, f1, h2.symm, -leD_int]
    · have h3 := (hb.resolve_left fun z => z h1).resolve_left h2
      rw [h3] at f5
      simp [b_Router_add, b_Router_add_i1, c1, f0, f1, f5, h2, -leD_int]
  · have c2 : inB1 1 999 o = false := by
      unfold inB1
      rw [← Bool.not_eq_true]
      simp
      omega
    rw [c2] at c1
    simp [b_Router_add, b_Router_add_i1, c1, -leD_int]
/-! ### rules -/
def rulesNb (b : Nb) (isIn : Bool) (rs : List RuleS) : Nb := if isIn = true then { b with rin := rs } else { b with rout := rs }
theorem rules_loop {st : Sto} (a0 a1 a2 a3 a4 : Option D) : ∀ (rs : List RuleS) (a5 : Option D), (∀ r ∈ rs, r.pfx.length ≤ 1000) →
    if rs.all goodRuleB = true then ∃ b5, loopL (tgN 5) b_Router_rules_l1 (rs.map RuleS.enc) [a0, a1, a2, a3, a4, a5] st = .nx [a0, a1, a2, a3, a4, b5] st
    else ∃ b5, loopL (tgN 5) b_Router_rules_l1 (rs.map RuleS.enc) [a0, a1, a2, a3, a4, a5] st = .exc 2 [a0, a1, a2, a3, a4, b5] st
  | [], a5, _ => by rw [if_pos (show ([] : List RuleS).all goodRuleB = true from rfl)]; exact ⟨a5, rfl⟩
  | r :: rs, a5, hl => by
    have h1 := need_rule_ok (hl r List.mem_cons_self) st
    have ih := rules_loop (st := st) a0 a1 a2 a3 a4 rs (some r.enc) fun x hx => hl x (List.mem_cons_of_mem _ hx)
    rw [List.all_cons, List.map_cons]
    cases hg : goodRuleB r with
    | true =>
      rw [hg, if_pos rfl] at h1
      rw [Bool.true_and, loopN_nx (e := [a0, a1, a2, a3, a4, some r.enc]) (s := st)]
      · exact ih
      · simp [b_Router_rules_l1, h1]
    | false =>
      rw [hg, if_neg Bool.false_ne_true] at h1
      rw [Bool.false_and, if_neg Bool.false_ne_true]
      refine ⟨some r.enc, ?_⟩
      have e : b_Router_rules_l1 [a0, a1, a2, a3, a4, some r.enc] st = .exc 2 [a0, a1, a2, a3, a4, some r.enc] st := by simp [b_Router_rules_l1, h1]
      show (match b_Router_rules_l1 [a0, a1, a2, a3, a4, some r.enc] st with
      | .nx e s => loopL (tgN 5) b_Router_rules_l1 (rs.map RuleS.enc) e s
      | .ct e s => loopL (tgN 5) b_Router_rules_l1 (rs.map RuleS.enc) e s
      | .bk e s => .nx e s
      | .rt d s => .rt d s
      | .exc c e s => .exc c e s
      | .bad => .bad) = _
      rw [e]
def sideS (isIn : Bool) : Str := if isIn = true then "in" else "out"
theorem rules_okR {st : Sto} {R : Rt} (h : RAt st R) {o : Int} {b : Nb} (hb : aGet R.others o = some b) (isIn : Bool) {rs : List RuleS} (hl : rs.length ≤ 8) (hg : rs.all goodRuleB = true) (hp : ∀ r ∈ rs, r.pfx.length ≤ 1000) :
    ∃ st', fn_Router_rules [.loc R.l, .int o, .str (sideS isIn), .lst (rs.map RuleS.enc)] st = .ok .non st' ∧ RAt st' (R.setNb o (rulesNb b isIn rs)) ∧ Chg R.pl st st' (R.setNb o (rulesNb b isIn rs)).pl := by
  have e2 : isIns 5 st (.loc R.l) = true := isIns_at h.i
  have hn := neighbour_ok h o
  rw [hb] at hn
  have nb := h.nbAt hb
  obtain ⟨d1, d2, d3⟩ := Nb.pl3 (h.nbNodup hb)
  have g1 : gtD (.int (rs.length : Int)) (.int 8) st = .ok (.bl false) st := by rw [gtD_int]; congr 2; simp; omega
  have lp := rules_loop (st := st) (some (.loc R.l)) (some (.int o)) (some (.str (sideS isIn))) (some (.lst (rs.map RuleS.enc))) (some (.loc b.l)) rs none hp
  rw [if_pos hg] at lp
  obtain ⟨b5, lp⟩ := lp
  have g2 : listAD false [.lst (rs.map RuleS.enc)] st = .ok (.lst (rs.map RuleS.enc)) st := rfl
  have hlen : (rs.map RuleS.enc).length = rs.length := List.length_map _
  generalize hds : rs.map RuleS.enc = ds at *
  cases isIn with
  | true =>
    have f1 := setF_at (n := 5) (i := 1) (y := D.lst ds) (env := [some (.loc R.l), some (.int o), some (.str "in"), some (.lst ds), some (.loc b.l), b5]) nb.i (by simp) (by decide)
    have f1 : setFR 4 1 5 [some (.loc R.l), some (.int o), some (.str "in"), some (.lst ds), some (.loc b.l), b5] (.loc b.l) (.lst ds) st = .nx [some (.loc R.l), some (.int o), some (.str "in"), some (.lst ds), some (.loc b.l), b5] (st.set b.l (.ins 4 [.bl b.up, .lst ds, .lst (b.rout.map RuleS.enc), .loc b.ls, .loc b.lt])) := f1
    refine ⟨st.set b.l (.ins 4 [.bl b.up, .lst ds, .lst (b.rout.map RuleS.enc), .loc b.ls, .loc b.lt]), ?_, h.op1 hb b.l _ (by simp [Nb.pl]) ⟨?_, ?_, ?_⟩ rfl rfl rfl⟩
    · have lp : loopL (tgN 5) b_Router_rules_l1 ds [some (.loc R.l), some (.int o), some (.str "in"), some (.lst ds), some (.loc b.l), none] st = .nx [some (.loc R.l), some (.int o), some (.str "in"), some (.lst ds), some (.loc b.l), b5] st := lp
      show fn_Router_rules [.loc R.l, .int o, .str "in", .lst ds] st = _
      unfold fn_Router_rules
      simp [b_Router_rules, b_Router_rules_i1, b_Router_rules_i2, e2, hn, len_lst, hlen, g1, lp, g2, f1, -gtD_int]
    · rw [← hds]; exact get_set_self (lt_of_get nb.i)
    · rw [get_set_ne (show (rulesNb b true rs).ls ≠ b.l from d1.symm)]; exact nb.s
    · rw [get_set_ne (show (rulesNb b true rs).lt ≠ b.l from d2.symm)]; exact nb.t
  | false =>
    have f1 := setF_at (n := 5) (i := 2) (y := D.lst ds) (env := [some (.loc R.l), some (.int o), some (.str "out"), some (.lst ds), some (.loc b.l), b5]) nb.i (by simp) (by decide)
    have f1 : setFR 4 2 5 [some (.loc R.l), some (.int o), some (.str "out"), some (.lst ds), some (.loc b.l), b5] (.loc b.l) (.lst ds) st = .nx [some (.loc R.l), some (.int o), some (.str "out"), some (.lst ds), some (.loc b.l), b5] (st.set b.l (.ins 4 [.bl b.up, .lst (b.rin.map RuleS.enc), .lst ds, .loc b.ls, .loc b.lt])) := f1
    refine ⟨st.set b.l (.ins 4 [.bl b.up, .lst (b.rin.map RuleS.enc), .lst ds, .loc b.ls, .loc b.lt]), ?_, h.op1 hb b.l _ (by simp [Nb.pl]) ⟨?_, ?_, ?_⟩ rfl rfl rfl⟩
    · have lp : loopL (tgN 5) b_Router_rules_l1 ds [some (.loc R.l), some (.int o), some (.str "out"), some (.lst ds), some (.loc b.l), none] st = .nx [some (.loc R.l), some (.int o), some (.str "out"), some (.lst ds), some (.loc b.l), b5] st := lp
      have ne : ¬ (("out" : Str) = "in") := by decide
      show fn_Router_rules [.loc R.l, .int o, .str "out", .lst ds] st = _
      unfold fn_Router_rules
      simp [b_Router_rules, b_Router_rules_i1, b_Router_rules_i2, e2, hn, len_lst, hlen, g1, lp, g2, f1, ne, -gtD_int]
    · rw [← hds]; exact get_set_self (lt_of_get nb.i)
    · rw [get_set_ne (show (rulesNb b false rs).ls ≠ b.l from d1.symm)]; exact nb.s
    · rw [get_set_ne (show (rulesNb b false rs).lt ≠ b.l from d2.symm)]; exact nb.t
theorem rules_bad {st : Sto} {R : Rt} (h : RAt st R) {o : Int} {b : Nb} (hb : aGet R.others o = some b) (d : D) {rs : List RuleS} (hg : 8 < rs.length ∨ rs.all goodRuleB = false) (hp : ∀ r ∈ rs, r.pfx.length ≤ 1000) :
    fn_Router_rules [.loc R.l, .int o, d, .lst (rs.map RuleS.enc)] st = .exc 2 st := by
  have e2 : isIns 5 st (.loc R.l) = true := isIns_at h.i
  have hn := neighbour_ok h o
  rw [hb] at hn
  have lp := rules_loop (st := st) (some (.loc R.l)) (some (.int o)) (some d) (some (.lst (rs.map RuleS.enc))) (some (.loc b.l)) rs none hp
  have hlen : (rs.map RuleS.enc).length = rs.length := List.length_map _
  generalize hds : rs.map RuleS.enc = ds at *
  unfold fn_Router_rules
  by_cases h8 : 8 < rs.length
  · have g1 : gtD (.int (rs.length : Int)) (.int 8) st = .ok (.bl true) st := by rw [gtD_int]; congr 2; simp; omega
    simp [b_Router_rules, b_Router_rules_i1, b_Router_rules_i2, e2, hn, len_lst, hlen, g1, -gtD_int]
  · have g1 : gtD (.int (rs.length : Int)) (.int 8) st = .ok (.bl false) st := by rw [gtD_int]; congr 2; simp; omega
    rw [if_neg (by rw [hg.resolve_left h8]; exact Bool.false_ne_true)] at lp
    obtain ⟨b5, lp⟩ := lp
    simp [b_Router_rules, b_Router_rules_i1, b_Router_rules_i2, e2, hn, len_lst, hlen, g1, lp, -gtD_int]
end DL

/-! CL: the least of choices, whatever the order; what stays well formed. -/
namespace DL
open PySem PySem.Spec PyProof.Rows L2
theorem lexB_irr : ∀ a : List Int, lexB a a = false
  | [] => rfl
  | x :: a => by rw [lexB_cons, if_pos rfl]; exact lexB_irr a
theorem lexB_asymm : ∀ {a b : List Int}, lexB a b = true → lexB b a = false
  | [], _, h => by cases h
  | _ :: _, [], h => by cases h
  | x :: a, y :: b, h => by
    rw [lexB_cons] at h ⊢
    by_cases e : x = y
    · rw [if_pos e] at h; rw [if_pos e.symm]; exact lexB_asymm h
    · rw [if_neg e] at h; rw [if_neg fun z => e z.symm]
      have := of_decide_eq_true h
      exact decide_eq_false (by omega)
theorem lexB_trans : ∀ {a b c : List Int}, lexB a b = true → lexB b c = true → lexB a c = true
  | [], _, _, h, _ => by cases h
  | _ :: _, [], _, h, _ => by cases h
  | _ :: _, _ :: _, [], _, h => by cases h
  | x :: a, y :: b, z :: c, h, k => by
    rw [lexB_cons] at h k ⊢
    by_cases e : x = y
    · subst e
      rw [if_pos rfl] at h
      by_cases e2 : x = z
      · rw [if_pos e2] at k; rw [if_pos e2]; exact lexB_trans h k
      · rw [if_neg e2] at k; rw [if_neg e2]; exact k
    · rw [if_neg e] at h
      have h1 := of_decide_eq_true h
      by_cases e2 : y = z
      · subst e2
        rw [if_neg e]; exact h
      · rw [if_neg e2] at k
        have k1 := of_decide_eq_true k
        rw [if_neg (by omega)]
        exact decide_eq_true (by omega)
theorem lexB_total : ∀ {a b : List Int}, a.length = b.length → a ≠ b → lexB a b = true ∨ lexB b a = true
  | [], [], _, h => absurd rfl h
  | [], _ :: _, h, _ => by cases h
  | _ :: _, [], h, _ => by cases h
  | x :: a, y :: b, hl, h => by
    rw [lexB_cons, lexB_cons]
    by_cases e : x = y
    · subst e
      rw [if_pos rfl, if_pos rfl]
      exact lexB_total (by simpa using hl) fun z => h (by rw [z])
    · rw [if_neg e, if_neg fun z => e z.symm]
      rcases Int.lt_or_lt_of_ne e with h1 | h1
      · exact .inl (decide_eq_true h1)
      · exact .inr (decide_eq_true h1)
theorem chKey_ne {a b : Ch} (h : a.1 ≠ b.1) : chKey a ≠ chKey b := fun z => h (by
  have := congrArg (fun l : List Int => l.getD 3 0) z
  simpa [chKey] using this)
theorem chLt_total {a b : Ch} (h : a.1 ≠ b.1) : chLt a b = true ∨ chLt b a = true := lexB_total rfl (chKey_ne h)
theorem chLt_trans {a b c : Ch} (h : chLt a b = true) (k : chLt b c = true) : chLt a c = true := lexB_trans h k
theorem chLt_asymm {a b : Ch} (h : chLt a b = true) : chLt b a = false := lexB_asymm h
/-- c is the least of l -/
structure Least (c : Ch) (l : List Ch) : Prop where
  mem : c ∈ l
  lt : ∀ d ∈ l, d.1 ≠ c.1 → chLt c d = true
theorem Least.one {c c' : Ch} {l l' : List Ch} (h : Least c l) (h' : Least c' l') (hl : ∀ d, d ∈ l ↔ d ∈ l') (hu : ∀ a ∈ l, ∀ b ∈ l, a.1 = b.1 → a = b) : c = c' := by
  have m' := (hl c').mpr h'.mem
  by_cases e : c.1 = c'.1
  · exact hu c h.mem c' m' e
  · have h1 := h.lt c' m' fun z => e z.symm
    have h2 := h'.lt c ((hl c).mp h.mem) e
    rw [chLt_asymm h1] at h2
    cases h2
theorem minCh_cons (x y : Ch) (xs : List Ch) : minCh x (y :: xs) = minCh (if chLt y x = true then y else x) xs := rfl
theorem minCh_least : ∀ (xs : List Ch) (x : Ch), (x :: xs).Pairwise (fun a b => a.1 ≠ b.1) → Least (minCh x xs) (x :: xs)
  | [], x, _ => ⟨List.mem_cons_self, fun d hd hn => by rw [List.mem_singleton.mp hd] at hn; exact absurd rfl hn⟩
  | y :: xs, x, h => by
    have h1 := (List.pairwise_cons.mp h).1 y List.mem_cons_self
    have h2 := (List.pairwise_cons.mp h).1
    have h3 := (List.pairwise_cons.mp h).2
    have ih : ∀ z, z = x ∨ z = y → (z :: xs).Pairwise (fun a b => a.1 ≠ b.1) := fun z hz => by
      rcases hz with rfl | rfl
      · exact List.pairwise_cons.mpr ⟨fun w hw => h2 w (List.mem_cons_of_mem _ hw), (List.pairwise_cons.mp h3).2⟩
      · exact h3
    rw [minCh_cons]
    cases hc : chLt y x with
    | true =>
      rw [if_pos rfl]
      have L := minCh_least xs y (ih y (.inr rfl))
      refine ⟨List.mem_cons_of_mem _ L.mem, fun d hd hn => ?_⟩
      rcases List.mem_cons.mp hd with rfl | hd
      · by_cases e : y.1 = (minCh y xs).1
        · have : minCh y xs = y := by
            rcases List.mem_cons.mp L.mem with z | z
            · exact z
            · exact absurd e ((List.pairwise_cons.mp h3).1 _ z)
          rw [this]; exact hc
        · exact chLt_trans (L.lt y List.mem_cons_self e) hc
      · exact L.lt d hd hn
    | false =>
      rw [if_neg Bool.false_ne_true]
      have hxy : chLt x y = true := (chLt_total h1).resolve_right (by rw [hc]; exact Bool.false_ne_true)
      have L := minCh_least xs x (ih x (.inl rfl))
      refine ⟨(List.mem_cons.mp L.mem).elim (fun z => by rw [z]; exact List.mem_cons_self) fun z => List.mem_cons_of_mem _ (List.mem_cons_of_mem _ z), fun d hd hn => ?_⟩
      rcases List.mem_cons.mp hd with rfl | hd
      · exact L.lt d List.mem_cons_self hn
      · rcases List.mem_cons.mp hd with rfl | hd
        · by_cases e : x.1 = (minCh x xs).1
          · have : minCh x xs = x := by
              rcases List.mem_cons.mp L.mem with z | z
              · exact z
              · exact absurd e (h2 _ (List.mem_cons_of_mem _ z))
            rw [this]; exact hxy
          · exact chLt_trans (L.lt x List.mem_cons_self e) hxy
        · exact L.lt d (List.mem_cons_of_mem _ hd) hn
theorem pw_uniq {l : List Ch} (h : l.Pairwise fun a b => a.1 ≠ b.1) : ∀ a ∈ l, ∀ b ∈ l, a.1 = b.1 → a = b := by
  induction l with
  | nil => intro a ha; cases ha
  | cons x l ih =>
    have hp := List.pairwise_cons.mp h
    intro a ha b hb e
    rcases List.mem_cons.mp ha with rfl | ha <;> rcases List.mem_cons.mp hb with rfl | hb
    · rfl
    · exact absurd e (hp.1 b hb)
    · exact absurd e.symm (hp.1 a (by assumption))
    · exact ih hp.2 a ha b hb e
/-- what leastM tells -/
theorem leastM_iff {l : List Ch} (h : l.Pairwise fun a b => a.1 ≠ b.1) (c : Ch) : leastM l = some c ↔ Least c l := by
  cases l with
  | nil => exact ⟨fun z => (nomatch z), fun z => (nomatch z.mem)⟩
  | cons x xs =>
    have L := minCh_least xs x h
    constructor
    · intro z; cases z; exact L
    · intro z
      show some _ = _
      rw [Least.one L z (fun _ => Iff.rfl) (pw_uniq h)]
theorem leastM_none {l : List Ch} : leastM l = none ↔ l = [] := by
  cases l with
  | nil => exact ⟨fun _ => rfl, fun _ => rfl⟩
  | cons x xs => exact ⟨fun z => (nomatch z), fun z => (nomatch z)⟩
theorem leastM_perm {l l' : List Ch} (h : l.Pairwise fun a b => a.1 ≠ b.1) (h' : l'.Pairwise fun a b => a.1 ≠ b.1) (hm : ∀ d, d ∈ l ↔ d ∈ l') : leastM l = leastM l' := by
  cases e : leastM l with
  | none =>
    rw [leastM_none] at e
    subst e
    cases l' with
    | nil => rfl
    | cons x xs => exact absurd ((hm x).mpr List.mem_cons_self) (by simp)
  | some c =>
    have L := (leastM_iff h c).mp e
    exact ((leastM_iff h' c).mpr ⟨(hm c).mp L.mem, fun d hd hn => L.lt d ((hm d).mpr hd) hn⟩).symm
/-! ### what stays well formed -/
theorem aPut_len_of {κ α : Type} [DecidableEq κ] {kvs : List (κ × α)} {k : κ} {x : α} (h : aGet kvs k = some x) (d : α) : (aPut kvs k d).length = kvs.length := by
  have := aPut_keys kvs k d
  rw [if_pos (aGet_isSome.mp (by rw [h]; rfl))] at this
  have := congrArg List.length this
  simpa using this
theorem RtOk.setNb {U : List Str} {R : Rt} (ok : RtOk U R) {o : Int} {b b' : Nb} (hb : aGet R.others o = some b) (h : NbOk U b') : RtOk U (R.setNb o b') :=
  ⟨ok.small, ok.own, ok.ownN, fun x hx => (mem_aPut hx).elim (fun e => by rw [e]; exact h) (ok.nb x), by
    show (aPut R.others o b').length ≤ 1000
    rw [aPut_len_of hb]; exact ok.few⟩
theorem NbOk.say {U : List Str} {b : Nb} (ok : NbOk U b) {q : RouteS} (h : q.pfx ∈ U) (ht : q.tags.length ≤ 4) (hp : q.path.length ≤ 12) : NbOk U (sayNb b q) :=
  ⟨fun x hx => (mem_aPut hx).elim (fun e => by rw [e]; exact ⟨h, rfl, ht, hp⟩) (ok.said x), ok.told, aPut_nodup _ _ ok.saidN, ok.toldN, ok.rin, ok.rout⟩
theorem NbOk.gone {U : List Str} {b : Nb} (ok : NbOk U b) (p : Str) : NbOk U (goneNb b p) :=
  ⟨fun x hx => ok.said x (mem_aDrop hx), ok.told, aDrop_nodup _ ok.saidN, ok.toldN, ok.rin, ok.rout⟩
theorem NbOk.upped {U : List Str} {b : Nb} (ok : NbOk U b) (u : Bool) : NbOk U { b with up := u } := ⟨ok.said, ok.told, ok.saidN, ok.toldN, ok.rin, ok.rout⟩
theorem NbOk.fresh (U : List Str) (n : Nat) : NbOk U (freshNb n) :=
  ⟨fun x hx => (nomatch hx), fun x hx => (nomatch hx), List.nodup_nil, List.nodup_nil, ⟨Nat.zero_le _, fun r hr => (nomatch hr)⟩, ⟨Nat.zero_le _, fun r hr => (nomatch hr)⟩⟩
theorem NbOk.downed {U : List Str} {b b' : Nb} (ok : NbOk U b) (h1 : b'.rin = b.rin) (h2 : b'.rout = b.rout) (h3 : b'.said = []) (h4 : b'.told = []) : NbOk U b' :=
  ⟨fun x hx => (by rw [h3] at hx; cases hx), fun x hx => (by rw [h4] at hx; cases hx), by rw [h3]; exact List.nodup_nil, by rw [h4]; exact List.nodup_nil, by rw [h1]; exact ok.rin, by rw [h2]; exact ok.rout⟩
theorem NbOk.ruled {U : List Str} {b : Nb} (ok : NbOk U b) (isIn : Bool) {rs : List RuleS} (hl : rs.length ≤ 8) (hr : ∀ r ∈ rs, 0 ≤ r.ahead ∧ r.ahead ≤ 3) : NbOk U (rulesNb b isIn rs) := by
  unfold rulesNb
  split
  · exact ⟨ok.said, ok.told, ok.saidN, ok.toldN, ⟨hl, hr⟩, ok.rout⟩
  · exact ⟨ok.said, ok.told, ok.saidN, ok.toldN, ok.rin, ⟨hl, hr⟩⟩
theorem RtOk.add {U : List Str} {R : Rt} (ok : RtOk U R) (o : Int) (n : Nat) (hf : R.others.length < 1000) : RtOk U (addNb R o n) :=
  ⟨ok.small, ok.own, ok.ownN, fun x hx => (mem_aPut hx).elim (fun e => by rw [e]; exact NbOk.fresh U n) (ok.nb x), by
    have := aPut_len R.others o (freshNb n)
    show (aPut R.others o (freshNb n)).length ≤ 1000
    omega⟩
theorem RtOk.owns {U : List Str} {R : Rt} (ok : RtOk U R) {p : Str} (hp : p ∈ U) (is : Bool) : RtOk U (ownM R p is) := by
  refine ⟨ok.small, fun x hx => ?_, ?_, ok.nb, ok.few⟩
  · cases is with
    | true => exact (mem_aPut (show x ∈ aPut R.owned p () from hx)).elim (fun e => by rw [e]; exact hp) (ok.own x)
    | false => exact ok.own x (mem_aDrop (show x ∈ aDrop R.owned p from hx))
  · cases is with
    | true => exact aPut_nodup _ _ ok.ownN
    | false => exact aDrop_nodup _ ok.ownN
/-! ### a new router -/
def freshRt (n : Nat) (num : Int) : Rt := ⟨n, n + 1, n + 2, false, num, [], []⟩
theorem rt_init (st : Sto) (num : Int) : newD 5 fn_Router___init__ [.int num] st = .ok (.loc st.length) (st ++ [.ins 5 [.int num, .loc (st.length + 1), .loc (st.length + 2)], .dk false [], .dk false []]) := by
  have e : ∀ (fs : List D) (ext : Sto), (st ++ Ob.ins 5 fs :: ext)[st.length]? = some (.ins 5 fs) := fun fs ext => by simp
  have s : ∀ (fs : List D) (ext : Sto) (o : Ob), (st ++ Ob.ins 5 fs :: ext).set st.length o = st ++ o :: ext := fun fs ext o => by
    rw [List.set_append_right _ _ (Nat.le_refl _)]; simp
  have f : ∀ (fs : List D) (ext : Sto) (i : Nat) (y : D), i = fs.length → i < 3 → setFR 5 i 3 [some (.loc st.length), some (.int num)] (.loc st.length) y (st ++ Ob.ins 5 fs :: ext) = .nx [some (.loc st.length), some (.int num)] (st ++ Ob.ins 5 (fs ++ [y]) :: ext) := fun fs ext i y hi hn => by
    rw [setF_at (e fs ext) (by omega) hn, s]
    unfold putAt
    rw [if_neg (by omega)]
  have f0 := f [] [] 0 (.int num) rfl (by decide)
  have f1 := f [.int num] [.dk false []] 1 (.loc (st.length + 1)) rfl (by decide)
  have f2 := f [.int num, .loc (st.length + 1)] [.dk false [], .dk false []] 2 (.loc (st.length + 2)) rfl (by decide)
  have hr : fn_Router___init__ [.loc st.length, .int num] (st ++ [.ins 5 []]) = .ok .non (st ++ [.ins 5 [.int num, .loc (st.length + 1), .loc (st.length + 2)], .dk false [], .dk false []]) := by
    unfold fn_Router___init__
    simp only [List.cons_append, List.nil_append] at f0 f1 f2
    simp [b_Router___init__, f0, f1, f2]
  unfold newD
  rw [hr]
  rfl
theorem RAt.fresh (st : Sto) (num : Int) : RAt (st ++ [.ins 5 [.int num, .loc (st.length + 1), .loc (st.length + 2)], .dk false [], .dk false []]) (freshRt st.length num) := by
  have g : ∀ k, (st ++ [Ob.ins 5 [.int num, .loc (st.length + 1), .loc (st.length + 2)], .dk false [], .dk false []])[st.length + k]? = ([Ob.ins 5 [.int num, .loc (st.length + 1), .loc (st.length + 2)], .dk false [], .dk false []] : Sto)[k]? := fun k => by
    rw [List.getElem?_append_right (by omega), Nat.add_sub_cancel_left]
  refine ⟨g 0, g 1, g 2, fun x hx => (nomatch hx), ?_, List.nodup_nil⟩
  simp [Rt.pl, freshRt]
theorem RtOk.fresh {U : List Str} (hU : U.length < 64) (n : Nat) (num : Int) : RtOk U (freshRt n num) :=
  ⟨hU, fun x hx => (nomatch hx), List.nodup_nil, fun x hx => (nomatch hx), Nat.zero_le _⟩
theorem good_of {q : RouteS} (h : RouteOk q) : GoodRoute q := by
  have e1 : ∀ (lo hi : Int) (l : List Int), (∀ n ∈ l, lo ≤ n ∧ n ≤ hi) → l.all (inB1 lo hi) = true := fun lo hi l hl => List.all_eq_true.mpr fun n hn => by
    unfold inB1; simp; exact hl n hn
  have hp := h.path
  refine ⟨isPfx_of h.pfx, ⟨⟨?_, hp.2.1⟩, e1 1 999 _ hp.2.2⟩, ?_, ?_⟩
  · exact List.length_pos_iff.mpr hp.1
  · unfold inB1; simp; exact h.weight
  · unfold tagsB
    obtain ⟨t1, t2, t3⟩ := h.tags
    rw [decide_eq_true t3, e1 1 99 _ t2]
    simp only [Bool.true_and, Bool.and_true]
    unfold risingB
    have : ∀ l : List Int, l.Pairwise (· < ·) → (l.zip l.tail).all (fun x => decide (x.1 < x.2)) = true := fun l hl => by
      induction l with
      | nil => rfl
      | cons a l ih =>
        cases l with
        | nil => rfl
        | cons b l =>
          have h1 := List.pairwise_cons.mp hl
          rw [List.tail_cons, List.zip_cons_cons, List.all_cons]
          rw [decide_eq_true (h1.1 b List.mem_cons_self), Bool.true_and]
          exact ih h1.2
    exact this _ t1
end DL

/-! CQ: dicts of dicts of routes; sorted rows' first. -/
namespace DL
open PySem PySem.Spec PyProof.Rows L2
open PySem.W (dataLt alike alikeAll keyToks keyToksAll dataLe AllAlike Sortable)
abbrev Tab := List (Int × Nat × List (Str × RouteS))
def tabV (y : Nat × List (Str × RouteS)) : D := .loc y.1
structure SAt (st : Sto) (sl : Nat) (z : Bool) (L : Tab) : Prop where
  d : st[sl]? = some (.dk z (aEnc Sum.inl tabV L))
  e : ∀ x ∈ L, st[x.2.1]? = some (.dk false (saidD x.2.2))
  nd : (sl :: L.map (·.2.1)).Nodup
  keys : (L.map (·.1)).Nodup
def tabPl (sl : Nat) (L : Tab) : List Nat := sl :: L.map (·.2.1)
theorem SAt.frame {st st' : Sto} {sl : Nat} {z : Bool} {L : Tab} (h : SAt st sl z L) (k : ∀ q ∈ tabPl sl L, st'[q]? = st[q]?) : SAt st' sl z L :=
  ⟨by rw [k sl List.mem_cons_self]; exact h.d, fun x hx => by rw [k x.2.1 (List.mem_cons_of_mem _ (List.mem_map.mpr ⟨x, hx, rfl⟩))]; exact h.e x hx, h.nd, h.keys⟩
theorem SAt.lt {st : Sto} {sl : Nat} {z : Bool} {L : Tab} (h : SAt st sl z L) : ∀ q ∈ tabPl sl L, q < st.length := fun q hq => by
  rcases List.mem_cons.mp hq with rfl | hq
  · exact lt_of_get h.d
  · obtain ⟨x, hx, rfl⟩ := List.mem_map.mp hq
    exact lt_of_get (h.e x hx)
theorem SAt.ne {st : Sto} {sl : Nat} {z : Bool} {L : Tab} (h : SAt st sl z L) : ∀ x ∈ L, x.2.1 ≠ sl := fun x hx e => (List.nodup_cons.mp h.nd).1 (e ▸ List.mem_map.mpr ⟨x, hx, rfl⟩)
theorem SAt.lock {st : Sto} {sl : Nat} {L : Tab} {z : Bool} (z' : Bool) (h : SAt st sl z L) : SAt (st.set sl (.dk z' (aEnc Sum.inl tabV L))) sl z' L :=
  ⟨get_set_self (lt_of_get h.d), fun x hx => by rw [get_set_ne (h.ne x hx)]; exact h.e x hx, h.nd, h.keys⟩
theorem SAt.more {st : Sto} {sl : Nat} {z : Bool} {L : Tab} (h : SAt st sl z L) (ext : Sto) : SAt (st ++ ext) sl z L := h.frame fun q hq => List.getElem?_append_left (h.lt q hq)
theorem SAt.look {st : Sto} {sl : Nat} {z : Bool} {L : Tab} (h : SAt st sl z L) (o : Int) : look (aEnc Sum.inl tabV L) (Sum.inl o : Key) = (aGet L o).map tabV := look_enc inl_inj o L
theorem SAt.ix {st : Sto} {sl : Nat} {z : Bool} {L : Tab} (h : SAt st sl z L) {o : Int} {y : Nat × List (Str × RouteS)} (hy : aGet L o = some y) : ixD (.loc sl) (.int o) st = .ok (.loc y.1) st := ix_at h.d (key_int o) (by rw [h.look, hy]; rfl)
theorem keys_tab (L : Tab) : ((aEnc (κ' := Key) Sum.inl tabV L).map fun q => keyD q.1) = L.map fun x => D.int x.1 := by
  unfold aEnc
  rw [List.map_map]; rfl
theorem mem_aPut2 {κ α : Type} [DecidableEq κ] {kvs : List (κ × α)} {k : κ} {d : α} {x : κ × α} (h : x ∈ aPut kvs k d) : x = (k, d) ∨ (x ∈ kvs ∧ x.1 ≠ k) := by
  unfold aPut at h
  split at h
  · obtain ⟨y, hy, e⟩ := List.mem_map.mp h
    split at e
    · rename_i hk; left; rw [← e, hk]
    · rename_i hk; right; rw [← e]; exact ⟨hy, hk⟩
  · rename_i hk
    rcases List.mem_append.mp h with h | h
    · exact .inr ⟨h, fun e => hk (List.any_eq_true.mpr ⟨x, h, decide_eq_true e⟩)⟩
    · exact .inl (List.mem_singleton.mp h)
theorem aPut_new {κ α : Type} [DecidableEq κ] {kvs : List (κ × α)} {k : κ} (h : aGet kvs k = none) (d : α) : aPut kvs k d = kvs ++ [(k, d)] := by
  unfold aPut
  rw [if_neg]
  rw [List.any_eq_true]
  rintro ⟨x, hx, e⟩
  exact aGet_none.mp h (List.mem_map.mpr ⟨x, hx, of_decide_eq_true e⟩)
/-- one dict more, empty -/
theorem SAt.new {st : Sto} {sl : Nat} {L : Tab} (h : SAt st sl false L) {o : Int} (ho : aGet L o = none) : SAt ((st ++ [Ob.dk false []]).set sl (.dk false (aEnc Sum.inl tabV (aPut L o (st.length, []))))) sl false (aPut L o (st.length, [])) := by
  have hsl := h.lt sl List.mem_cons_self
  rw [aPut_new ho]
  refine ⟨get_set_self (by rw [List.length_append]; omega), fun x hx => ?_, ?_, ?_⟩
  · rcases List.mem_append.mp hx with hx | hx
    · have := h.lt x.2.1 (List.mem_cons_of_mem _ (List.mem_map.mpr ⟨x, hx, rfl⟩))
      rw [get_set_ne (h.ne x hx), List.getElem?_append_left this]
      exact h.e x hx
    · rw [List.mem_singleton.mp hx]
      rw [get_set_ne (show st.length ≠ sl by omega)]
      exact get_new _ _
  · have nd := h.nd
    have e : sl :: (L ++ [(o, st.length, ([] : List (Str × RouteS)))]).map (·.2.1) = (sl :: L.map (·.2.1)) ++ [st.length] := by simp
    rw [e]
    exact nodup_snoc nd fun z => by
      have := h.lt _ z
      omega
  · rw [List.map_append]
    exact nodup_snoc h.keys (aGet_none.mp ho)
theorem tabPl_new {sl : Nat} {L : Tab} {o : Int} (n : Nat) (ho : aGet L o = none) : tabPl sl (aPut L o (n, [])) = tabPl sl L ++ [n] := by
  rw [aPut_new ho]; simp [tabPl]
/-- the pairs that are not uniq in place are -/
theorem nodup_fst_ne {α β : Type} {l : List (α × β)} (h : (l.map (·.1)).Nodup) {x y : α × β} (hx : x ∈ l) (hy : y ∈ l) (e : x.1 = y.1) : x = y := by
  induction l with
  | nil => cases hx
  | cons a l ih =>
    rw [List.map_cons, List.nodup_cons] at h
    rcases List.mem_cons.mp hx with rfl | hx' <;> rcases List.mem_cons.mp hy with rfl | hy'
    · rfl
    · exact absurd (List.mem_map.mpr ⟨y, hy', e.symm⟩) h.1
    · exact absurd (List.mem_map.mpr ⟨x, hx', e⟩) h.1
    · exact ih h.2 hx' hy'
theorem nodup_map_inj {α β : Type} {f : α → β} {l : List α} (h : (l.map f).Nodup) {x y : α} (hx : x ∈ l) (hy : y ∈ l) (e : f x = f y) : x = y := by
  induction l with
  | nil => cases hx
  | cons a l ih =>
    rw [List.map_cons, List.nodup_cons] at h
    rcases List.mem_cons.mp hx with rfl | hx' <;> rcases List.mem_cons.mp hy with rfl | hy'
    · rfl
    · exact absurd (List.mem_map.mpr ⟨y, hy', e.symm⟩) h.1
    · exact absurd (List.mem_map.mpr ⟨x, hx', e⟩) h.1
    · exact ih h.2 hx' hy'
/-- one dict's content is changed -/
theorem SAt.put {st : Sto} {sl : Nat} {z : Bool} {L : Tab} (h : SAt st sl z L) {o : Int} {y : Nat × List (Str × RouteS)} (hy : aGet L o = some y) (c : List (Str × RouteS)) : SAt (st.set y.1 (.dk false (saidD c))) sl z (aPut L o (y.1, c)) := by
  obtain ⟨A, B, e1, e2, hA, hB⟩ := aPut_split h.keys hy
  have hne := h.ne (o, y) (aGet_mem hy)
  have ek : (aPut L o (y.1, c)).map (·.1) = L.map (·.1) := by rw [e2, e1]; simp
  have ep : (aPut L o (y.1, c)).map (·.2.1) = L.map (·.2.1) := by rw [e2, e1]; simp
  refine ⟨?_, fun x hx => ?_, by rw [ep]; exact h.nd, by rw [ek]; exact h.keys⟩
  · rw [get_set_ne (Ne.symm hne), h.d]
    have : aEnc (κ' := Key) Sum.inl tabV (aPut L o (y.1, c)) = aEnc Sum.inl tabV L := by
      rw [e2, e1]
      unfold aEnc
      simp [tabV]
    rw [this]
  · rcases mem_aPut hx with e | hx'
    · rw [e]; exact get_set_self (lt_of_get (h.e (o, y) (aGet_mem hy)))
    · by_cases e : x.1 = o
      · have hx2 : x ∈ A ++ (o, (y.1, c)) :: B := by rw [← e2]; exact hx
        rcases List.mem_append.mp hx2 with z | z
        · exact absurd e (hA x z)
        · rcases List.mem_cons.mp z with z | z
          · rw [z]; exact get_set_self (lt_of_get (h.e (o, y) (aGet_mem hy)))
          · exact absurd e (hB x z)
      · have : x.2.1 ≠ y.1 := fun z => e (by
          have := nodup_map_inj (List.nodup_cons.mp h.nd).2 hx' (aGet_mem hy) z
          rw [this])
        rw [get_set_ne this]; exact h.e x hx'
theorem tabPl_put {sl : Nat} {L : Tab} {o : Int} {y : Nat × List (Str × RouteS)} (hk : (L.map (·.1)).Nodup) (hy : aGet L o = some y) (c : List (Str × RouteS)) : tabPl sl (aPut L o (y.1, c)) = tabPl sl L := by
  obtain ⟨A, B, e1, e2, hA, hB⟩ := aPut_split hk hy
  unfold tabPl
  rw [e2, e1]; simp
/-! ### rows -/
theorem lex_pre1 (a b : Int) (l m : List (Int ⊕ List Nat)) : PyProof.Rows.lexLt itemOrd (.inl 1 :: .inl a :: l) (.inl 1 :: .inl b :: m) = if a = b then PyProof.Rows.lexLt itemOrd l m else decide (a < b) := by
  rw [lex_self]
  by_cases e : a = b
  · subst e; rw [lex_self, if_pos rfl]
  · rw [lex_diff (fun z => e (Sum.inl.inj z)), item_int, if_neg e]
def rowD (c : Int × RouteS) : D := .tup [.int (c.2.path.length : Int), .int c.2.weight, .int c.1, c.2.enc]
def rowCh (c : Int × RouteS) : Ch := (c.1, c.2, 100)
theorem toP_row (c : Int × RouteS) : toP (rowD c) = .tuple [.int (c.2.path.length : Int), .int c.2.weight, .int c.1, c.2.pd] := by
  simp [rowD, toP, toPs, toP_route]
theorem row_lt {a b : Int × RouteS} (h : a.1 ≠ b.1) : dataLt (toP (rowD a)) (toP (rowD b)) = chLt (rowCh a) (rowCh b) := by
  rw [toP_row, toP_row]
  unfold dataLt
  simp only [keyToks, keyToksAll, List.cons_append, List.nil_append]
  refine (lex_pre1 _ _ _ _).trans ?_
  unfold chLt chKey rowCh
  simp only [lexB_cons, if_neg h, if_true]
  split
  · refine (lex_pre1 _ _ _ _).trans ?_
    split
    · refine (lex_pre1 _ _ _ _).trans ?_
      rw [if_neg h]
    · rfl
  · rfl
theorem row_alike (a b : Int × RouteS) : alike (toP (rowD a)) (toP (rowD b)) = true := by
  rw [toP_row, toP_row]
  simp [alike, alikeAll, route_alike]
theorem good_row (n : Nat) (c : Int × RouteS) : good (n + 3) (rowD c) = true := by
  show ([D.int (c.2.path.length : Int), .int c.2.weight, .int c.1, c.2.enc]).all (good (n + 2)) = true
  simp [good_int, good_route]
theorem sort_head {ds : List D} (hne : ds ≠ []) : ∃ m tl, sortL ds = m :: tl ∧ m ∈ ds ∧ ∀ d ∈ ds, dataLt (toP d) (toP m) = false := by
  have tot := PySem.W.sortLe_total (listOrd itemOrd) false (fun d : D => keyToks (toP d))
  have hp : (sortL ds).Perm ds := List.mergeSort_perm _ _
  have hs : (sortL ds).Pairwise fun a b => dataLe false toP a b = true := List.pairwise_mergeSort (fun a b c h1 h2 => tot.trans a b c h1 h2) (fun a b => by
    have := tot.total a b
    simpa using this) ds
  cases e : sortL ds with
  | nil => rw [e] at hp; exact absurd hp.nil_eq.symm hne
  | cons m tl =>
    rw [e] at hp hs
    refine ⟨m, tl, rfl, hp.subset List.mem_cons_self, fun d hd => ?_⟩
    rcases List.mem_cons.mp (hp.symm.subset hd) with rfl | hd
    · unfold dataLt
      exact lex_irrefl _
    · have := (List.pairwise_cons.mp hs).1 d hd
      have h2 : (!dataLt (toP d) (toP m)) = true := this
      simpa using h2
theorem rowD_inj {a b : Int × RouteS} (h : rowD a = rowD b) : a = b := by
  have := congrArg toP h
  rw [toP_row, toP_row] at this
  simp only [PyData.tuple.injEq, List.cons.injEq, PyData.int.injEq, and_true] at this
  exact Prod.ext this.2.2.1 (pd_inj this.2.2.2)
theorem sort_rows {rs : List (Int × RouteS)} (hne : rs ≠ []) (hpw : rs.Pairwise fun a b => a.1 ≠ b.1) : ∃ c tl, sortL (rs.map rowD) = rowD c :: tl ∧ Least (rowCh c) (rs.map rowCh) := by
  obtain ⟨m, tl, e, hm, hl⟩ := sort_head (ds := rs.map rowD) (by simpa using hne)
  obtain ⟨c, hc, rfl⟩ := List.mem_map.mp hm
  refine ⟨c, tl, e, List.mem_map.mpr ⟨c, hc, rfl⟩, fun d hd hn => ?_⟩
  obtain ⟨r, hr, rfl⟩ := List.mem_map.mp hd
  have hn : r.1 ≠ c.1 := hn
  have := hl (rowD r) (List.mem_map.mpr ⟨r, hr, rfl⟩)
  rw [row_lt hn] at this
  exact (chLt_total (a := rowCh c) (b := rowCh r) hn.symm).resolve_right (by rw [this]; exact Bool.false_ne_true)
theorem sorted_rows (rs : List (Int × RouteS)) (st : Sto) : sortedD false [.loc st.length] (st ++ [.lst (rs.map rowD)]) = .ok (.lst (sortL (rs.map rowD))) (st ++ [.lst (rs.map rowD)]) := by
  unfold sortedD
  dsimp only
  rw [items_new]
  dsimp only
  rw [if_pos]
  · rfl
  · refine ⟨rfl, ?_, ?_, ?_⟩
    · rw [List.all_map]; exact List.all_eq_true.mpr fun c _ => good_row 37 c
    · intro a ha b hb
      rw [List.map_map] at ha hb
      obtain ⟨u, _, rfl⟩ := List.mem_map.mp ha
      obtain ⟨v, _, rfl⟩ := List.mem_map.mp hb
      exact row_alike u v
    · left
      intro d hd
      rw [List.map_map] at hd
      obtain ⟨c, _, rfl⟩ := List.mem_map.mp hd
      show ∃ x r, toP (rowD c) = _
      rw [toP_row]
      exact ⟨_, _, rfl⟩
theorem eq_nilN (xs : List D) (hg : xs.all (good 39) = true) (st : Sto) : eqD (.loc st.length) (.lst []) (st ++ [.lst xs]) = .ok (.bl xs.isEmpty) (st ++ [.lst xs]) := by
  have e : der (st ++ [.lst xs]) (.loc st.length) = .lst xs := by
    unfold der
    dsimp only
    rw [get_new]
  rw [eqD_good (x := .loc st.length) (y := .lst []) (by rw [e]; exact hg) rfl, e]
  cases xs with
  | nil => simp [der, toP, toPs, PyData.eqv, PyData.eqvAll]
  | cons r rs => simp [der, toP, toPs, PyData.eqv, PyData.eqvAll]
end DL

/-! CS2: sorted texts. -/
namespace DL
open PySem PySem.Spec PyProof.Rows L2
open PySem.W (dataLt alike alikeAll keyToks keyToksAll dataLe AllAlike Sortable)
theorem sortL_strs (ss : List Str) : sortL (ss.map D.str) = (srtS ss).map D.str := by
  unfold sortL srtS
  exact (PySem.W.sort_maps D.str (l := ss) (r := fun a b => decide (leS a b)) (s := dataLe false toP) fun a _ b _ => (congrFun (congrFun (PySem.W.dataLe_str (β := Str) fun b => b) a) b).symm).symm
theorem good_strs (n : Nat) (ss : List Str) : (ss.map D.str).all (good n) = true := by
  rw [List.all_map]; exact List.all_eq_true.mpr fun _ _ => good_str n _
theorem sorted_strs (ss : List Str) (st : Sto) : sortedD false [.lst (ss.map D.str)] st = .ok (.lst ((srtS ss).map D.str)) st := by
  unfold sortedD
  simp only [itemsOf]
  rw [if_pos, sortL_strs]
  · rfl
  · refine ⟨rfl, good_strs 40 ss, ?_, ?_⟩
    · intro a ha b hb
      rw [List.map_map] at ha hb
      obtain ⟨u, _, rfl⟩ := List.mem_map.mp ha
      obtain ⟨v, _, rfl⟩ := List.mem_map.mp hb
      rfl
    · right
      intro d hd
      rw [List.map_map] at hd
      obtain ⟨c, _, rfl⟩ := List.mem_map.mp hd
      exact ⟨(fun z => nomatch z), fun _ z => nomatch z⟩
theorem srtS_of_perm {l m : List Str} (p : l.Perm m) : srtS l = srtS m := rows_one leS leS_anti ((srtS_perm l).trans (p.trans (srtS_perm m).symm)) (srtS_sorted l) (srtS_sorted m)
/-- what is sorted and holds each once is told by what it holds -/
theorem sorted_ext {l m : List Str} (hl : l.Pairwise leS) (hm : m.Pairwise leS) (nl : l.Nodup) (nm : m.Nodup) (h : ∀ x, x ∈ l ↔ x ∈ m) : l = m :=
  rows_one leS leS_anti ((List.perm_ext_iff_of_nodup nl nm).mpr h) hl hm
end DL

/-! CT: what is told. -/
namespace DL
open PySem PySem.Spec PyProof.Rows L2
def tellNb (b : Nb) (m : Msg) : Nb := { b with told := match m.2 with
  | none => aDrop b.told m.1
  | some q => aPut b.told m.1 q }
theorem haveM_pfx {R : Rt} {o : Int} {b : Nb} {p : Str} {q : RouteS} (h : haveM R o b p = some q) : q.pfx = p := by
  unfold haveM at h
  obtain ⟨c, _, h⟩ := Option.bind_eq_some_iff.mp h
  unfold haveC at h
  split at h
  · cases h
  · split at h
    · cases h
    · split at h
      · cases h
      · cases h; rfl
theorem due_mem {R : Rt} {o : Int} {b : Nb} {m : Msg} (h : m ∈ dueM R o b) : m.1 ∈ pfxs R ∧ m.2 = haveM R o b m.1 ∧ m.2 ≠ aGet b.told m.1 := by
  obtain ⟨p, hp, e⟩ := List.mem_filterMap.mp h
  unfold dueOne at e
  split at e
  · cases e
  · rename_i hne
    cases e
    exact ⟨hp, rfl, hne⟩
theorem good_msg (n : Nat) (m : Msg) : good (n + 3) (msgD m) = true := by
  obtain ⟨p, o⟩ := m
  cases o with
  | none => show ([D.str "gone", D.str p]).all (good (n + 2)) = true; simp [good_str]
  | some q => show ([D.str "route", q.enc]).all (good (n + 2)) = true; simp [good_str, good_route]
theorem good_msgs (n : Nat) (ms : List Msg) : (ms.map msgD).all (good (n + 3)) = true := by
  rw [List.all_map]
  exact List.all_eq_true.mpr fun m _ => good_msg n m
theorem ix_newL (st : Sto) (d : D) (ds : List D) : ixD (.loc st.length) (.int 0) (st ++ [.lst (d :: ds)]) = .ok d (st ++ [.lst (d :: ds)]) := by
  have e : atI (d :: ds) 0 = some d := by
    rw [show (0 : Int) = ((0 : Nat) : Int) from rfl, atI_nat' 0 (by simp)]; rfl
  unfold ixD
  simp only [get_new, e]
theorem NbOk.tell {U : List Str} {b : Nb} (ok : NbOk U b) {m : Msg} (hp : m.1 ∈ U) (hq : ∀ q, m.2 = some q → q.pfx = m.1) : NbOk U (tellNb b m) := by
  obtain ⟨p, o⟩ := m
  cases o with
  | none =>
    exact ⟨ok.said, fun x hx => ok.told x (mem_aDrop hx), ok.saidN, aDrop_nodup _ ok.toldN, ok.rin, ok.rout⟩
  | some q =>
    refine ⟨ok.said, fun x hx => ?_, ok.saidN, aPut_nodup _ _ ok.toldN, ok.rin, ok.rout⟩
    rcases mem_aPut hx with e | hx
    · rw [e]; exact ⟨hp, hq q rfl⟩
    · exact ok.told x hx
theorem tell_none {U : List Str} {st : Sto} {R : Rt} (h : RAt st R) (hz : R.z = false) (ok : RtOk U R) {o : Int} {b : Nb} (hb : aGet R.others o = some b) (hu : b.up = true) (hd : dueM R o b = []) : fn_Router_tell [.loc R.l, .int o] st = .ok .non (st ++ [.lst []]) := by
  have e2 : isIns 5 st (.loc R.l) = true := isIns_at h.i
  have e := due_ok h hz ok hb hu
  rw [hd] at e
  have e : fn_Router_due [.loc R.l, .int o] st = .ok (.loc st.length) (st ++ [.lst []]) := e
  have e3 := eq_nilN [] rfl st
  have e3 : eqD (.loc st.length) (.lst []) (st ++ [.lst []]) = .ok (.bl true) (st ++ [.lst []]) := e3
  unfold fn_Router_tell
  simp [b_Router_tell, b_Router_tell_i1, e2, e, e3]
theorem tell_some {U : List Str} {st : Sto} {R : Rt} (h : RAt st R) (hz : R.z = false) (ok : RtOk U R) {o : Int} {b : Nb} (hb : aGet R.others o = some b) (hu : b.up = true) {m : Msg} {ms : List Msg} (hd : dueM R o b = m :: ms) :
    ∃ st', fn_Router_tell [.loc R.l, .int o] st = .ok (msgD m) st' ∧ RAt st' (R.setNb o (tellNb b m)) ∧ Chg R.pl st st' (R.setNb o (tellNb b m)).pl := by
  have e2 : isIns 5 st (.loc R.l) = true := isIns_at h.i
  have e := due_ok h hz ok hb hu
  rw [hd, List.map_cons] at e
  have e3 := eq_nilN (msgD m :: ms.map msgD) (by rw [← List.map_cons]; exact good_msgs 36 _) st
  have e3 : eqD (.loc st.length) (.lst []) (st ++ [.lst (msgD m :: ms.map msgD)]) = .ok (.bl false) (st ++ [.lst (msgD m :: ms.map msgD)]) := e3
  have g0 := ix_newL st (msgD m) (ms.map msgD)
  generalize ms.map msgD = ds at *
  obtain ⟨m1, m2, m3⟩ := due_mem (m := m) (by rw [hd]; exact List.mem_cons_self)
  generalize hS : st ++ [.lst (msgD m :: ds)] = S at *
  have hl : S.length = st.length + 1 := by rw [← hS, List.length_append]; rfl
  have hm : RAt S R := by rw [← hS]; exact h.more _
  have nb := hm.nbAt hb
  have nb0 := h.nbAt hb
  have lt1 : b.lt < st.length := lt_of_get nb0.t
  obtain ⟨d1, d2, d3⟩ := Nb.pl3 (h.nbNodup hb)
  have f1 : fldD 5 1 (.loc R.l) S = .ok (.loc R.lo) S := fld_at hm.i rfl
  have f2 : ixD (.loc R.lo) (.int o) S = .ok (.loc b.l) S := hm.ixo hb
  have f3 : fldD 4 4 (.loc b.l) S = .ok (.loc b.lt) S := fld_at nb.i rfl
  have f4 : isDi S (.loc b.lt) = true := isDi_at nb.t
  have okb := ok.nb (o, b) (aGet_mem hb)
  have fin : ∀ ob, NbAt (S.set b.lt ob) (tellNb b m) → RAt (S.set b.lt ob) (R.setNb o (tellNb b m)) ∧ Chg R.pl st (S.set b.lt ob) (R.setNb o (tellNb b m)).pl := fun ob hn => by
    obtain ⟨r1, c1⟩ := hm.op1 (b' := tellNb b m) hb b.lt ob (by simp [Nb.pl]) hn rfl rfl rfl
    refine ⟨r1, ⟨fun q hq hn => ?_, by rw [List.length_set]; omega, fun q hq => .inl ?_⟩⟩
    · rw [c1.keep q (by omega) hn, ← hS, List.getElem?_append_left hq]
    · have ep : (tellNb b m).pl = b.pl := rfl
      rcases Rt.mem_pl.mp hq with z | z | z | ⟨x, hx, z⟩
      · exact Rt.mem_pl.mpr (.inl z)
      · exact Rt.mem_pl.mpr (.inr (.inl z))
      · exact Rt.mem_pl.mpr (.inr (.inr (.inl z)))
      · rcases mem_aPut hx with e | hx
        · rw [e] at z
          exact Rt.mem_pl.mpr (.inr (.inr (.inr ⟨(o, b), aGet_mem hb, by rw [← ep]; exact z⟩)))
        · exact Rt.mem_pl.mpr (.inr (.inr (.inr ⟨x, hx, z⟩)))
  have hix : ∀ ob, ixD (.loc st.length) (.int 0) (S.set b.lt ob) = .ok (msgD m) (S.set b.lt ob) := fun ob => by
    have e5 : (S.set b.lt ob)[st.length]? = some (.lst (msgD m :: ds)) := by
      rw [get_set_ne (by omega), ← hS, get_new]
    have e6 : atI (msgD m :: ds) 0 = some (msgD m) := by
      rw [show (0 : Int) = ((0 : Nat) : Int) from rfl, atI_nat' 0 (by simp)]; rfl
    unfold ixD
    simp only [e5, e6]
  obtain ⟨p, r⟩ := m
  cases r with
  | none =>
    obtain ⟨y, hy⟩ : ∃ y, aGet b.told p = some y := by
      cases z : aGet b.told p with
      | none => exact absurd z.symm m3
      | some y => exact ⟨y, rfl⟩
    have f5 := pop1_at nb.t (key_str p) (d := y.enc) (by rw [saidD_look, hy]; rfl)
    have e5 : dropD (saidD b.told) (Sum.inr p) = saidD (aDrop b.told p) := drop_enc (h := RouteS.enc) inr_inj p b.told
    rw [e5] at f5
    have hix := hix (.dk false (saidD (aDrop b.told p)))
    refine ⟨S.set b.lt (.dk false (saidD (aDrop b.told p))), ?_, fin _ ⟨?_, ?_, get_set_self (lt_of_get nb.t)⟩⟩
    · have g0 : ixD (.loc st.length) (.int 0) S = .ok (.tup [.str "gone", .str p]) S := g0
      have hix : ixD (.loc st.length) (.int 0) (S.set b.lt (.dk false (saidD (aDrop b.told p)))) = .ok (.tup [.str "gone", .str p]) (S.set b.lt (.dk false (saidD (aDrop b.told p)))) := hix
      generalize S.set b.lt (.dk false (saidD (aDrop b.told p))) = S2 at *
      show fn_Router_tell [.loc R.l, .int o] st = .ok (.tup [.str "gone", .str p]) S2
      unfold fn_Router_tell
      simp [b_Router_tell, b_Router_tell_i1, b_Router_tell_i2, e2, e, e3, g0, f1, f2, f3, f4, f5, hix, tgNs]
    · rw [get_set_ne (show (tellNb b _).l ≠ b.lt from d2)]; exact nb.i
    · rw [get_set_ne (show (tellNb b _).ls ≠ b.lt from d3)]; exact nb.s
  | some q =>
    have hq : q.pfx = p := haveM_pfx m2.symm
    have hlen : (saidD b.told).length < 1000000 := by
      have l1 := nodup_len okb.toldN (U := U) fun p hp => by
        obtain ⟨x, hx, rfl⟩ := List.mem_map.mp hp
        exact (okb.told x hx).1
      unfold saidD
      rw [aEnc_len]
      simp only [List.length_map] at l1
      have := ok.small
      omega
    have f5 := putR_at (d := q.enc) (env := [some (.loc R.l), some (.int o), some (.loc st.length), some (.str "route"), some q.enc]) nb.t (key_str p) hlen
    have e5 : putD (saidD b.told) (Sum.inr p) q.enc = saidD (aPut b.told p q) := put_enc (h := RouteS.enc) inr_inj b.told p q
    rw [e5] at f5
    have hix := hix (.dk false (saidD (aPut b.told p q)))
    have g3 := ix_route0 q S
    rw [hq] at g3
    refine ⟨S.set b.lt (.dk false (saidD (aPut b.told p q))), ?_, fin _ ⟨?_, ?_, get_set_self (lt_of_get nb.t)⟩⟩
    · have g0 : ixD (.loc st.length) (.int 0) S = .ok (.tup [.str "route", q.enc]) S := g0
      have hix : ixD (.loc st.length) (.int 0) (S.set b.lt (.dk false (saidD (aPut b.told p q)))) = .ok (.tup [.str "route", q.enc]) (S.set b.lt (.dk false (saidD (aPut b.told p q)))) := hix
      generalize S.set b.lt (.dk false (saidD (aPut b.told p q))) = S2 at *
      show fn_Router_tell [.loc R.l, .int o] st = .ok (.tup [.str "route", q.enc]) S2
      generalize q.enc = qe at *
      have ne : ¬ (("route" : Str) = "gone") := by decide
      unfold fn_Router_tell
      simp [b_Router_tell, b_Router_tell_i1, b_Router_tell_i2, e2, e, e3, g0, f1, f2, f3, f4, f5, g3, hix, ne, tgNs]
    · rw [get_set_ne (show (tellNb b _).l ≠ b.lt from d2)]; exact nb.i
    · rw [get_set_ne (show (tellNb b _).ls ≠ b.lt from d3)]; exact nb.s
theorem tell_exc {st : Sto} {R : Rt} (h : RAt st R) {o : Int} (hb : ∀ b, aGet R.others o = some b → b.up = false) : fn_Router_tell [.loc R.l, .int o] st = .exc 3 st := by
  have e2 : isIns 5 st (.loc R.l) = true := isIns_at h.i
  have e := due_exc h hb
  unfold fn_Router_tell
  simp [b_Router_tell, e2, e]
end DL

namespace DL
open PySem PySem.Spec PyProof.Rows L2
noncomputable section
def top (i : Nat) : Stmt := PySem.Challenge.pw_plainpath_k10_routes_and_rules_refused.main.body.getD i (.Pass ⟨0, 0, 0, 0⟩)
def ghT (K : PySem.W.Frag) : Gh := ⟨K, fun c => gaN K ((["PathError", "BadRoute", "BadRule", "NoNeighbour", "Neighbour", "Router", "NoLine", "Web"] : List Str).getD c Str.empty), fun i => gaN K ((["need_route", "need_rule"] : List Str).getD i Str.empty), fun c => ([[], [], [], [], [], [], [], []] : List (List Str)).getD c [], []⟩
structure Tx (g : Gh) (mg : Str → Option Value) : Prop where
  b_ValueError : mg "ValueError" = none
  b_all : mg "all" = none
  b_int : mg "int" = none
  b_isinstance : mg "isinstance" = none
  b_len : mg "len" = none
  b_list : mg "list" = none
  b_max : mg "max" = none
  b_min : mg "min" = none
  b_range : mg "range" = none
  b_set : mg "set" = none
  b_sorted : mg "sorted" = none
  b_sum : mg "sum" = none
  b_tuple : mg "tuple" = none
  b_zip : mg "zip" = none
  DEEDS : GKt g.K mg "DEEDS" ["no", "yes", "on"]
  MOST_AHEAD : GInt mg "MOST_AHEAD" 3
  MOST_NUMBER : GInt mg "MOST_NUMBER" 999
  MOST_PATH : GInt mg "MOST_PATH" 12
  MOST_SIGNS : GInt mg "MOST_SIGNS" 16
  MOST_TAG : GInt mg "MOST_TAG" 99
  MOST_TAGS : GInt mg "MOST_TAGS" 4
  MOST_WEIGHT : GInt mg "MOST_WEIGHT" 1000
  X_BadRoute : ExD g.K mg "BadRoute" (g.cA 1)
  X_BadRule : ExD g.K mg "BadRule" (g.cA 2)
  W : WordF g mg
  P0 : mg "PathError" = some (.ref (g.cA 0))
  exm : ∀ c ∈ excL, PySem.W.exmOne g.K (.ref (g.cA c)) (.ref (g.cA 0)) = some true
  F_need_route : mg "need_route" = some (.ref (g.fA 0))
  F_need_rule : mg "need_rule" = some (.ref (g.fA 1))

abbrev N_law_drawn : List Str := ["_law_cell_here", "_law_k", "_law_more"]
theorem sc_law_drawn : FnScope N_law_drawn ["_law_cell_here", "_law_k"] (defScope (top 22)) := ⟨rfl, rfl, rfl, by decide +kernel, rfl, by decide +kernel, by decide +kernel⟩
theorem d_law_drawn {P : Program} {w : World} {K : PySem.W.Frag} {mg : Str → Option Value} {base : Heap} (T : Tx (ghT K) mg) (D : DefOk (ghT K).K mg "_law_drawn" (top 22) ["_law_cell_here", "_law_k"]) : GFn P w (ghT K) mg base "_law_drawn" 1 2 (runF 3 (b_law_drawn)) :=
  GFn.of D sc_law_drawn rfl rfl fun f M cdv A outer s H E hr tk pp =>
  have nd : N_law_drawn.Nodup := sc_law_drawn.nd
  (dss_cons (ds_set 2 nd rfl (Or.inl rfl) (de_mod (de_add rfl (de_mul rfl (de_var 0 rfl (Or.inl rfl) rfl rfl) de_int) (de_mul rfl (de_add rfl (de_var 1 rfl (Or.inl rfl) rfl rfl) de_int) de_int)) de_int) rfl (Or.inr rfl))
    (dss_one (ds_ret (de_mod (de_mul rfl (de_var 2 rfl (Or.inl rfl) rfl rfl) (de_var 2 rfl (Or.inl rfl) rfl rfl)) de_int))))

abbrev N_law_cell : List Str := ["_law_script", "_law_k"]
theorem sc_law_cell : FnScope N_law_cell ["_law_script", "_law_k"] (defScope (top 21)) := ⟨rfl, rfl, rfl, by decide +kernel, rfl, by decide +kernel, by decide +kernel⟩
theorem d_law_cell {P : Program} {w : World} {K : PySem.W.Frag} {mg : Str → Option Value} {base : Heap} (T : Tx (ghT K) mg) (D : DefOk (ghT K).K mg "_law_cell" (top 21) ["_law_script", "_law_k"]) : GFn P w (ghT K) mg base "_law_cell" 1 2 (runF 2 (b_law_cell)) :=
  GFn.of D sc_law_cell rfl rfl fun f M cdv A outer s H E hr tk pp =>
  have nd : N_law_cell.Nodup := sc_law_cell.nd
  (dss_cons (ds_if (dt_cmp (op_eqD (uu hr)) eqD_ok (de_var 0 rfl (Or.inl rfl) rfl rfl) (de_lst da_nil (Nat.le_of_ble_eq_true rfl)) (nomark _))
    (dss_one (ds_ret (de_mul rfl (de_var 1 rfl (Or.inl rfl) rfl rfl) de_int))) dss_nil)
    (dss_one (ds_ret (de_add rfl (de_ix rfl (uu1 hr) (de_var 0 rfl (Or.inl rfl) rfl rfl) (de_mod (de_var 1 rfl (Or.inl rfl) rfl rfl) (de_blt cr_len lenD_ok (by rfl) T.b_len boot_len (da_cons (de_var 0 rfl (Or.inl rfl) rfl rfl) da_nil) (by decide) rfl rfl rfl)) (fun _ _ => rfl)) (de_mul rfl (de_div (de_var 1 rfl (Or.inl rfl) rfl rfl) (de_blt cr_len lenD_ok (by rfl) T.b_len boot_len (da_cons (de_var 0 rfl (Or.inl rfl) rfl rfl) da_nil) (by decide) rfl rfl rfl)) de_int)))))

abbrev N_law_bits : List Str := ["_law_more", "_law_many", "_law_k"]
theorem sc_law_bits : FnScope N_law_bits ["_law_more", "_law_many"] (defScope (top 24)) := ⟨rfl, rfl, rfl, by decide +kernel, rfl, by decide +kernel, by decide +kernel⟩
theorem d_law_bits {P : Program} {w : World} {K : PySem.W.Frag} {mg : Str → Option Value} {base : Heap} (T : Tx (ghT K) mg) (D : DefOk (ghT K).K mg "_law_bits" (top 24) ["_law_more", "_law_many"]) : GFn P w (ghT K) mg base "_law_bits" 1 2 (runF 3 (b_law_bits)) :=
  GFn.of D sc_law_bits rfl rfl fun f M cdv A outer s H E hr tk pp =>
  have nd : N_law_bits.Nodup := sc_law_bits.nd
  (dss_one (ds_ret (de_bm rfl chkS_ok joinD_ok PySem.F.plainAttrs_str PySem.F.slot_str_join PySem.F.type_str_join mt_join (de_str (by decide +kernel)) (da_cons (de_lc (own := [("_law_k", 2)]) rfl nd (di_range (by rfl) T.b_range (de_var 1 rfl (Or.inl rfl) rfl rfl) rfl) (blkOk_by (own := [("_law_k", 2)]) (N := N_law_bits) (sc := defScope (top 24)) (by decide +kernel)) (fun _ => (tgN_ok 2)) (gName_own (by decide)) (fun _ _ _ _ _ => (pg_name (i := 2) nd rfl (Or.inl rfl) (Or.inr rfl))) (fun _ _ _ _ _ _ => dts_nil) (fun _ _ _ _ _ _ => (de_ix rfl (uu1 hr) (de_str (by decide +kernel)) (de_mod (de_div (de_var 0 rfl (Or.inr (Or.inl (by rfl))) rfl rfl) (de_shl de_int (de_var 2 rfl (Or.inl rfl) rfl rfl))) de_int) (fun _ _ => rfl))) (fun _ => rfl)) da_nil) rfl rfl rfl rfl rfl)))

abbrev N_law_numbers : List Str := ["_law_more", "_law_many", "_law_step", "_law_k"]
theorem sc_law_numbers : FnScope N_law_numbers ["_law_more", "_law_many"] (defScope (top 23)) := ⟨rfl, rfl, rfl, by decide +kernel, rfl, by decide +kernel, by decide +kernel⟩
theorem d_law_numbers {P : Program} {w : World} {K : PySem.W.Frag} {mg : Str → Option Value} {base : Heap} (T : Tx (ghT K) mg) (D : DefOk (ghT K).K mg "_law_numbers" (top 23) ["_law_more", "_law_many"]) : GFn P w (ghT K) mg base "_law_numbers" 1 2 (runF 4 (b_law_numbers)) :=
  GFn.of D sc_law_numbers rfl rfl fun f M cdv A outer s H E hr tk pp =>
  have nd : N_law_numbers.Nodup := sc_law_numbers.nd
  (dss_cons (ds_set 2 nd rfl (Or.inr rfl) (de_ix rfl (uu1 hr) (de_lst (da_cons de_int (da_cons de_int (da_cons de_int (da_cons de_int da_nil)))) (Nat.le_of_ble_eq_true rfl)) (de_mod (de_var 0 rfl (Or.inr (Or.inl rfl)) rfl rfl) de_int) (fun _ _ => rfl)) rfl (Or.inl rfl))
    (dss_one (ds_ret (de_lc (own := [("_law_k", 3)]) rfl nd (di_range (by rfl) T.b_range (de_var 1 rfl (Or.inl rfl) rfl rfl) rfl) (blkOk_by (own := [("_law_k", 3)]) (N := N_law_numbers) (sc := defScope (top 23)) (by decide +kernel)) (fun _ => (tgN_ok 3)) (gName_own (by decide)) (fun _ _ _ _ _ => (pg_name (i := 3) nd rfl (Or.inl rfl) (Or.inr rfl))) (fun _ _ _ _ _ _ => dts_nil) (fun _ _ _ _ _ _ => (de_add rfl (de_mod (de_add rfl (de_div (de_var 0 rfl (Or.inr (Or.inl (by rfl))) rfl rfl) de_int) (de_mul rfl (de_var 3 rfl (Or.inl rfl) rfl rfl) (de_var 2 rfl (Or.inr (Or.inl (by rfl))) rfl rfl))) de_int) de_int)) (fun _ => rfl)))))

abbrev N_law_tags : List Str := ["_law_more", "_law_some", "_law_k"]
theorem sc_law_tags : FnScope N_law_tags ["_law_more"] (defScope (top 26)) := ⟨rfl, rfl, rfl, by decide +kernel, rfl, by decide +kernel, by decide +kernel⟩
theorem d_law_tags {P : Program} {w : World} {K : PySem.W.Frag} {mg : Str → Option Value} {base : Heap} (T : Tx (ghT K) mg) (D : DefOk (ghT K).K mg "_law_tags" (top 26) ["_law_more"]) : GFn P w (ghT K) mg base "_law_tags" 1 1 (runF 3 (b_law_tags)) :=
  GFn.of D sc_law_tags rfl rfl fun f M cdv A outer s H E hr tk pp =>
  have nd : N_law_tags.Nodup := sc_law_tags.nd
  (dss_cons (ds_set 1 nd rfl (Or.inr rfl) (de_lst (da_cons (de_add rfl de_int (de_mod (de_div (de_var 0 rfl (Or.inr (Or.inl rfl)) rfl rfl) de_int) de_int)) (da_cons (de_add rfl de_int (de_mod (de_div (de_var 0 rfl (Or.inr (Or.inl rfl)) rfl rfl) de_int) de_int)) (da_cons (de_add rfl de_int (de_mod (de_div (de_var 0 rfl (Or.inr (Or.inl rfl)) rfl rfl) de_int) de_int)) (da_cons (de_add rfl de_int (de_mod (de_div (de_var 0 rfl (Or.inr (Or.inl rfl)) rfl rfl) de_int) de_int)) da_nil)))) (Nat.le_of_ble_eq_true rfl)) rfl (Or.inl rfl))
    (dss_one (ds_ret (de_bty call_tuple_of tupleD_ok (by rfl) T.b_tuple boot_tuple (da_cons (de_lc (own := [("_law_k", 2)]) rfl nd (di_range (by rfl) T.b_range de_int rfl) (blkOk_by (own := [("_law_k", 2)]) (N := N_law_tags) (sc := defScope (top 26)) (by decide +kernel)) (fun _ => (tgN_ok 2)) (gName_own (by decide)) (fun _ _ _ _ _ => (pg_name (i := 2) nd rfl (Or.inl rfl) (Or.inr rfl))) (fun _ _ _ _ _ _ => (dts_one (dt_cmp (op_eqD (uu hr)) eqD_ok (de_mod (de_div (de_var 0 rfl (Or.inr (Or.inl (by rfl))) rfl rfl) (de_shl de_int (de_var 2 rfl (Or.inl rfl) rfl rfl))) de_int) de_int (nomark _)))) (fun _ _ _ _ _ _ => (de_ix rfl (uu1 hr) (de_var 1 rfl (Or.inr (Or.inl (by rfl))) rfl rfl) (de_var 2 rfl (Or.inl rfl) rfl rfl) (fun _ _ => rfl))) (fun _ => rfl)) da_nil) (by decide) rfl rfl rfl))))

def b_law_spoilt_route_i1 : DS :=
  (dIfS (dTest (dB eqD (dV 6) (dC (.int 0))))
    (dRet (dTup [(dB ixD (dLst [(dB addD (dV 2) (dB mulD (dC (.str "0")) (dC (.int 17)))), (dB addD (dSl (dV 2) dNoPart (dPart (dC (.int 15)))) (dC (.str "2"))), (dC (.str "x")), (dC (.str " 0")), (dC (.str "O1"))]) (dB modI (dV 0) (dC (.int 5)))), (dV 3), (dV 4), (dV 5)])) dNext)
def b_law_spoilt_route_i2 : DS :=
  (dIfS (dTest (dB eqD (dV 6) (dC (.int 1))))
    (dRet (dTup [(dV 2), (dTup []), (dV 4), (dV 5)])) dNext)
def b_law_spoilt_route_i3 : DS :=
  (dIfS (dTest (dB eqD (dV 6) (dC (.int 2))))
    (dRet (dTup [(dV 2), (dB addD (dV 3) (dB mulD (dTup [(dC (.int 5))]) (dC (.int 12)))), (dV 4), (dV 5)])) dNext)
def b_law_spoilt_route_i4 : DS :=
  (dIfS (dTest (dB eqD (dV 6) (dC (.int 3))))
    (dSeq (dSet (tgN 7) (dB modI (dV 0) (dCall lenD [(dV 3)])))
    (dRet (dTup [(dV 2), (dB addD (dB addD (dSl (dV 3) dNoPart (dPart (dV 7))) (dTup [(dB ixD (dLst [(dC (.int 0)), (dC (.int 1000)), (dU negD (dC (.int 1))), (dB powI (dC (.int 10)) (dC (.int 9)))]) (dB modI (dB divI (dV 0) (dC (.int 16))) (dC (.int 4))))])) (dSl (dV 3) (dPart (dB addD (dV 7) (dC (.int 1)))) dNoPart)), (dV 4), (dV 5)]))) dNext)
def b_law_spoilt_route_i5 : DS :=
  (dIfS (dTest (dB eqD (dV 6) (dC (.int 4))))
    (dRet (dTup [(dV 2), (dV 3), (dB ixD (dLst [(dU negD (dC (.int 1))), (dC (.int 1001)), (dB powI (dC (.int 10)) (dC (.int 12))), (dU negD (dC (.int 5)))]) (dB modI (dV 0) (dC (.int 4)))), (dV 5)])) dNext)
def b_law_spoilt_route_i6 : DS :=
  (dIfS (dTest (dB eqD (dV 6) (dC (.int 5))))
    (dRet (dTup [(dV 2), (dV 3), (dV 4), (dB addD (dV 5) (dTup [(dC (.int 99)), (dC (.int 99))]))])) dNext)
def b_law_spoilt_route_i7 : DS :=
  (dIfS (dTest (dB eqD (dV 6) (dC (.int 6))))
    (dRet (dTup [(dV 2), (dV 3), (dV 4), (dB ixD (dLst [(dTup [(dC (.int 2)), (dC (.int 1))]), (dTup [(dC (.int 0)), (dC (.int 3))]), (dTup [(dC (.int 5)), (dC (.int 100))]), (dTup [(dC (.int 1)), (dC (.int 3)), (dC (.int 2))]), (dTup [(dU negD (dC (.int 1)))]), (dTup [(dC (.int 7)), (dC (.int 7))])]) (dB modI (dV 0) (dC (.int 6))))])) dNext)
def b_law_spoilt_route_i8 : DS :=
  (dIfS (dTest (dB eqD (dV 6) (dC (.int 7))))
    (dRet (dTup [(dV 2), (dV 3), (dV 4), (dTup [(dC (.int 1)), (dC (.int 2)), (dC (.int 3)), (dC (.int 4)), (dC (.int 5))])])) dNext)
def b_law_spoilt_route : DS :=
  (dSeq (dSet (tgT [2, 3, 4, 5]) (dV 1))
    (dSeq (dSet (tgN 6) (dB modI (dV 0) (dC (.int 10))))
    (dSeq (dSet (tgN 0) (dB divI (dV 0) (dC (.int 16))))
    (dSeq (b_law_spoilt_route_i1)
    (dSeq (b_law_spoilt_route_i2)
    (dSeq (b_law_spoilt_route_i3)
    (dSeq (b_law_spoilt_route_i4)
    (dSeq (b_law_spoilt_route_i5)
    (dSeq (b_law_spoilt_route_i6)
    (dSeq (b_law_spoilt_route_i7)
    (dSeq (b_law_spoilt_route_i8)
    (dRet (dV 1)))))))))))))
def fn_law_spoilt_route : Fn := Fn.clean (runF 8 b_law_spoilt_route)
abbrev N_law_spoilt_route : List Str := ["_law_more", "_law_route", "_law_prefix", "_law_path", "_law_weight", "_law_tags_here", "_law_way", "_law_at"]
theorem sc_law_spoilt_route : FnScope N_law_spoilt_route ["_law_more", "_law_route"] (defScope (top 28)) := ⟨rfl, rfl, rfl, by decide +kernel, rfl, by decide +kernel, by decide +kernel⟩
theorem d_law_spoilt_route {P : Program} {w : World} {K : PySem.W.Frag} {mg : Str → Option Value} {base : Heap} (T : Tx (ghT K) mg) (D : DefOk (ghT K).K mg "_law_spoilt_route" (top 28) ["_law_more", "_law_route"]) : GFn P w (ghT K) mg base "_law_spoilt_route" 1 2 (runF 8 (b_law_spoilt_route)) :=
  GFn.of D sc_law_spoilt_route rfl rfl fun f M cdv A outer s H E hr tk pp =>
  have nd : N_law_spoilt_route.Nodup := sc_law_spoilt_route.nd
  (dss_cons (ds_asg (tgT_ok [2, 3, 4, 5]) (de_var 1 rfl (Or.inl rfl) rfl rfl) (pg_tup rfl (pgs_cons (pg_name (i := 2) nd rfl (Or.inl rfl) (Or.inr rfl)) (pgs_cons (pg_name (i := 3) nd rfl (Or.inl rfl) (Or.inr rfl)) (pgs_cons (pg_name (i := 4) nd rfl (Or.inl rfl) (Or.inr rfl)) (pgs_cons (pg_name (i := 5) nd rfl (Or.inl rfl) (Or.inr rfl)) pgs_nil))))) rfl rfl rfl)
    (dss_cons (ds_set 6 nd rfl (Or.inl rfl) (de_mod (de_var 0 rfl (Or.inl rfl) rfl rfl) de_int) rfl (Or.inr rfl))
    (dss_cons (ds_set 0 nd rfl (Or.inl rfl) (de_div (de_var 0 rfl (Or.inl rfl) rfl rfl) de_int) rfl (Or.inr rfl))
    (dss_cons (ds_if (dt_cmp (op_eqD (uu hr)) eqD_ok (de_var 6 rfl (Or.inl rfl) rfl rfl) de_int (nomark _))
    (dss_one (ds_ret (de_tup (da_cons (de_ix rfl (uu1 hr) (de_lst (da_cons (de_add rfl (de_var 2 rfl (Or.inl rfl) rfl rfl) (de_mul rfl (de_str (by decide +kernel)) de_int)) (da_cons (de_add rfl (de_sl rfl (de_var 2 rfl (Or.inl rfl) rfl rfl) do_none (do_some de_int)) (de_str (by decide +kernel))) (da_cons (de_str (by decide +kernel)) (da_cons (de_str (by decide +kernel)) (da_cons (de_str (by decide +kernel)) da_nil))))) (Nat.le_of_ble_eq_true rfl)) (de_mod (de_var 0 rfl (Or.inl rfl) rfl rfl) de_int) (fun _ _ => rfl)) (da_cons (de_var 3 rfl (Or.inl rfl) rfl rfl) (da_cons (de_var 4 rfl (Or.inl rfl) rfl rfl) (da_cons (de_var 5 rfl (Or.inl rfl) rfl rfl) da_nil)))) (Nat.le_of_ble_eq_true rfl)))) dss_nil)
    (dss_cons (ds_if (dt_cmp (op_eqD (uu hr)) eqD_ok (de_var 6 rfl (Or.inl rfl) rfl rfl) de_int (nomark _))
    (dss_one (ds_ret (de_tup (da_cons (de_var 2 rfl (Or.inl rfl) rfl rfl) (da_cons (de_tup da_nil (Nat.le_of_ble_eq_true rfl)) (da_cons (de_var 4 rfl (Or.inl rfl) rfl rfl) (da_cons (de_var 5 rfl (Or.inl rfl) rfl rfl) da_nil)))) (Nat.le_of_ble_eq_true rfl)))) dss_nil)
    (dss_cons (ds_if (dt_cmp (op_eqD (uu hr)) eqD_ok (de_var 6 rfl (Or.inl rfl) rfl rfl) de_int (nomark _))
    (dss_one (ds_ret (de_tup (da_cons (de_var 2 rfl (Or.inl rfl) rfl rfl) (da_cons (de_add rfl (de_var 3 rfl (Or.inl rfl) rfl rfl) (de_mul rfl (de_tup (da_cons de_int da_nil) (Nat.le_of_ble_eq_true rfl)) de_int)) (da_cons (de_var 4 rfl (Or.inl rfl) rfl rfl) (da_cons (de_var 5 rfl (Or.inl rfl) rfl rfl) da_nil)))) (Nat.le_of_ble_eq_true rfl)))) dss_nil)
    (dss_cons (ds_if (dt_cmp (op_eqD (uu hr)) eqD_ok (de_var 6 rfl (Or.inl rfl) rfl rfl) de_int (nomark _))
    (dss_cons (ds_set 7 nd rfl (Or.inl rfl) (de_mod (de_var 0 rfl (Or.inl rfl) rfl rfl) (de_blt cr_len lenD_ok (by rfl) T.b_len boot_len (da_cons (de_var 3 rfl (Or.inl rfl) rfl rfl) da_nil) (by decide) rfl rfl rfl)) rfl (Or.inr rfl))
    (dss_one (ds_ret (de_tup (da_cons (de_var 2 rfl (Or.inl rfl) rfl rfl) (da_cons (de_add rfl (de_add rfl (de_sl rfl (de_var 3 rfl (Or.inl rfl) rfl rfl) do_none (do_some (de_var 7 rfl (Or.inl rfl) rfl rfl))) (de_tup (da_cons (de_ix rfl (uu1 hr) (de_lst (da_cons de_int (da_cons de_int (da_cons (de_neg de_int) (da_cons (de_pow de_int de_int) da_nil)))) (Nat.le_of_ble_eq_true rfl)) (de_mod (de_div (de_var 0 rfl (Or.inl rfl) rfl rfl) de_int) de_int) (fun _ _ => rfl)) da_nil) (Nat.le_of_ble_eq_true rfl))) (de_sl rfl (de_var 3 rfl (Or.inl rfl) rfl rfl) (do_some (de_add rfl (de_var 7 rfl (Or.inl rfl) rfl rfl) de_int)) do_none)) (da_cons (de_var 4 rfl (Or.inl rfl) rfl rfl) (da_cons (de_var 5 rfl (Or.inl rfl) rfl rfl) da_nil)))) (Nat.le_of_ble_eq_true rfl))))) dss_nil)
    (dss_cons (ds_if (dt_cmp (op_eqD (uu hr)) eqD_ok (de_var 6 rfl (Or.inl rfl) rfl rfl) de_int (nomark _))
    (dss_one (ds_ret (de_tup (da_cons (de_var 2 rfl (Or.inl rfl) rfl rfl) (da_cons (de_var 3 rfl (Or.inl rfl) rfl rfl) (da_cons (de_ix rfl (uu1 hr) (de_lst (da_cons (de_neg de_int) (da_cons de_int (da_cons (de_pow de_int de_int) (da_cons (de_neg de_int) da_nil)))) (Nat.le_of_ble_eq_true rfl)) (de_mod (de_var 0 rfl (Or.inl rfl) rfl rfl) de_int) (fun _ _ => rfl)) (da_cons (de_var 5 rfl (Or.inl rfl) rfl rfl) da_nil)))) (Nat.le_of_ble_eq_true rfl)))) dss_nil)
    (dss_cons (ds_if (dt_cmp (op_eqD (uu hr)) eqD_ok (de_var 6 rfl (Or.inl rfl) rfl rfl) de_int (nomark _))
    (dss_one (ds_ret (de_tup (da_cons (de_var 2 rfl (Or.inl rfl) rfl rfl) (da_cons (de_var 3 rfl (Or.inl rfl) rfl rfl) (da_cons (de_var 4 rfl (Or.inl rfl) rfl rfl) (da_cons (de_add rfl (de_var 5 rfl (Or.inl rfl) rfl rfl) (de_tup (da_cons de_int (da_cons de_int da_nil)) (Nat.le_of_ble_eq_true rfl))) da_nil)))) (Nat.le_of_ble_eq_true rfl)))) dss_nil)
    (dss_cons (ds_if (dt_cmp (op_eqD (uu hr)) eqD_ok (de_var 6 rfl (Or.inl rfl) rfl rfl) de_int (nomark _))
    (dss_one (ds_ret (de_tup (da_cons (de_var 2 rfl (Or.inl rfl) rfl rfl) (da_cons (de_var 3 rfl (Or.inl rfl) rfl rfl) (da_cons (de_var 4 rfl (Or.inl rfl) rfl rfl) (da_cons (de_ix rfl (uu1 hr) (de_lst (da_cons (de_tup (da_cons de_int (da_cons de_int da_nil)) (Nat.le_of_ble_eq_true rfl)) (da_cons (de_tup (da_cons de_int (da_cons de_int da_nil)) (Nat.le_of_ble_eq_true rfl)) (da_cons (de_tup (da_cons de_int (da_cons de_int da_nil)) (Nat.le_of_ble_eq_true rfl)) (da_cons (de_tup (da_cons de_int (da_cons de_int (da_cons de_int da_nil))) (Nat.le_of_ble_eq_true rfl)) (da_cons (de_tup (da_cons (de_neg de_int) da_nil) (Nat.le_of_ble_eq_true rfl)) (da_cons (de_tup (da_cons de_int (da_cons de_int da_nil)) (Nat.le_of_ble_eq_true rfl)) da_nil)))))) (Nat.le_of_ble_eq_true rfl)) (de_mod (de_var 0 rfl (Or.inl rfl) rfl rfl) de_int) (fun _ _ => rfl)) da_nil)))) (Nat.le_of_ble_eq_true rfl)))) dss_nil)
    (dss_cons (ds_if (dt_cmp (op_eqD (uu hr)) eqD_ok (de_var 6 rfl (Or.inl rfl) rfl rfl) de_int (nomark _))
    (dss_one (ds_ret (de_tup (da_cons (de_var 2 rfl (Or.inl rfl) rfl rfl) (da_cons (de_var 3 rfl (Or.inl rfl) rfl rfl) (da_cons (de_var 4 rfl (Or.inl rfl) rfl rfl) (da_cons (de_tup (da_cons de_int (da_cons de_int (da_cons de_int (da_cons de_int (da_cons de_int da_nil))))) (Nat.le_of_ble_eq_true rfl)) da_nil)))) (Nat.le_of_ble_eq_true rfl)))) dss_nil)
    (dss_one (ds_ret (de_var 1 rfl (Or.inl rfl) rfl rfl))))))))))))))

def b_law_spoilt_rule_i1 : DS :=
  (dIfS (dTest (dB eqD (dV 2) (dC (.int 9))))
    (dRet (dV 1)) dNext)
def b_law_spoilt_rule : DS :=
  (dSeq (dSet (tgN 2) (dB modI (dV 0) (dC (.int 10))))
    (dSeq (dSet (tgN 3) (dLst [(dLst [(dC (.str "2")), (dB mulD (dC (.str "0")) (dC (.int 17)))]), (dLst [(dU negD (dC (.int 1))), (dC (.int 17))]), (dLst [(dU negD (dC (.int 1))), (dC (.int 1000))]), (dLst [(dU negD (dC (.int 1))), (dC (.int 100))]), (dLst [(dC (.str "")), (dC (.str "yes "))]), (dLst [(dU negD (dC (.int 1))), (dC (.int 1001))])]))
    (dSeq (dSet (tgN 3) (dB addD (dV 3) (dLst [(dLst [(dC (.int 100)), (dU negD (dC (.int 1)))]), (dLst [(dU negD (dC (.int 1))), (dC (.int 100))]), (dLst [(dC (.int 4)), (dU negD (dC (.int 1)))])])))
    (dSeq (b_law_spoilt_rule_i1)
    (dRet (dB addD (dB addD (dSl (dV 1) dNoPart (dPart (dV 2))) (dTup [(dB ixD (dB ixD (dV 3) (dV 2)) (dB modI (dB divI (dV 0) (dC (.int 16))) (dC (.int 2))))])) (dSl (dV 1) (dPart (dB addD (dV 2) (dC (.int 1)))) dNoPart)))))))
def fn_law_spoilt_rule : Fn := Fn.clean (runF 4 b_law_spoilt_rule)
abbrev N_law_spoilt_rule : List Str := ["_law_more", "_law_rule", "_law_at", "_law_some"]
theorem sc_law_spoilt_rule : FnScope N_law_spoilt_rule ["_law_more", "_law_rule"] (defScope (top 29)) := ⟨rfl, rfl, rfl, by decide +kernel, rfl, by decide +kernel, by decide +kernel⟩
theorem d_law_spoilt_rule {P : Program} {w : World} {K : PySem.W.Frag} {mg : Str → Option Value} {base : Heap} (T : Tx (ghT K) mg) (D : DefOk (ghT K).K mg "_law_spoilt_rule" (top 29) ["_law_more", "_law_rule"]) : GFn P w (ghT K) mg base "_law_spoilt_rule" 1 2 (runF 4 (b_law_spoilt_rule)) :=
  GFn.of D sc_law_spoilt_rule rfl rfl fun f M cdv A outer s H E hr tk pp =>
  have nd : N_law_spoilt_rule.Nodup := sc_law_spoilt_rule.nd
  (dss_cons (ds_set 2 nd rfl (Or.inl rfl) (de_mod (de_var 0 rfl (Or.inl rfl) rfl rfl) de_int) rfl (Or.inr rfl))
    (dss_cons (ds_set 3 nd rfl (Or.inl rfl) (de_lst (da_cons (de_lst (da_cons (de_str (by decide +kernel)) (da_cons (de_mul rfl (de_str (by decide +kernel)) de_int) da_nil)) (Nat.le_of_ble_eq_true rfl)) (da_cons (de_lst (da_cons (de_neg de_int) (da_cons de_int da_nil)) (Nat.le_of_ble_eq_true rfl)) (da_cons (de_lst (da_cons (de_neg de_int) (da_cons de_int da_nil)) (Nat.le_of_ble_eq_true rfl)) (da_cons (de_lst (da_cons (de_neg de_int) (da_cons de_int da_nil)) (Nat.le_of_ble_eq_true rfl)) (da_cons (de_lst (da_cons (de_str (by decide +kernel)) (da_cons (de_str (by decide +kernel)) da_nil)) (Nat.le_of_ble_eq_true rfl)) (da_cons (de_lst (da_cons (de_neg de_int) (da_cons de_int da_nil)) (Nat.le_of_ble_eq_true rfl)) da_nil)))))) (Nat.le_of_ble_eq_true rfl)) rfl (Or.inr rfl))
    (dss_cons (ds_set 3 nd rfl (Or.inl rfl) (de_add rfl (de_var 3 rfl (Or.inl rfl) rfl rfl) (de_lst (da_cons (de_lst (da_cons de_int (da_cons (de_neg de_int) da_nil)) (Nat.le_of_ble_eq_true rfl)) (da_cons (de_lst (da_cons (de_neg de_int) (da_cons de_int da_nil)) (Nat.le_of_ble_eq_true rfl)) (da_cons (de_lst (da_cons de_int (da_cons (de_neg de_int) da_nil)) (Nat.le_of_ble_eq_true rfl)) da_nil))) (Nat.le_of_ble_eq_true rfl))) rfl (Or.inr rfl))
    (dss_cons (ds_if (dt_cmp (op_eqD (uu hr)) eqD_ok (de_var 2 rfl (Or.inl rfl) rfl rfl) de_int (nomark _))
    (dss_one (ds_ret (de_var 1 rfl (Or.inl rfl) rfl rfl))) dss_nil)
    (dss_one (ds_ret (de_add rfl (de_add rfl (de_sl rfl (de_var 1 rfl (Or.inl rfl) rfl rfl) do_none (do_some (de_var 2 rfl (Or.inl rfl) rfl rfl))) (de_tup (da_cons (de_ix rfl (uu1 hr) (de_ix rfl (uu1 hr) (de_var 3 rfl (Or.inl rfl) rfl rfl) (de_var 2 rfl (Or.inl rfl) rfl rfl) (fun _ _ => rfl)) (de_mod (de_div (de_var 0 rfl (Or.inl rfl) rfl rfl) de_int) de_int) (fun _ _ => rfl)) da_nil) (Nat.le_of_ble_eq_true rfl))) (de_sl rfl (de_var 1 rfl (Or.inl rfl) rfl rfl) (do_some (de_add rfl (de_var 2 rfl (Or.inl rfl) rfl rfl) de_int)) do_none))))))))

def b_law_good_route_t1 : DT :=
  (dAnd (dTest (dB neD (dV 5) (dC (.str "0")))) (dTest (dB neD (dV 5) (dC (.str "1")))))
def b_law_good_route_c1 : DE :=
  (dV 5)
def b_law_good_route_i1 : DS :=
  (dIfS (dOr (dTest (dB gtD (dCall lenD [(dV 1)]) (dC (.int 16)))) (dTest (dB neD (dComp [5] (dIterA (dV 1)) (tgN 5) (b_law_good_route_t1) (b_law_good_route_c1)) (dLst []))))
    (dRet (dC (.bl false))) dNext)
def b_law_good_route_i2 : DS :=
  (dIfS (dOr (dTest (dB eqD (dV 2) (dTup []))) (dOr (dTest (dB gtD (dCall lenD [(dV 2)]) (dC (.int 12)))) (dOr (dTest (dB ltD (dCall (bestID min) [(dV 2)]) (dC (.int 1)))) (dOr (dTest (dB gtD (dCall (bestID max) [(dV 2)]) (dC (.int 999)))) (dOr (dTest (dB ltD (dV 3) (dC (.int 0)))) (dTest (dB gtD (dV 3) (dC (.int 1000)))))))))
    (dRet (dC (.bl false))) dNext)
def b_law_good_route_i3 : DS :=
  (dIfS (dOr (dTest (dB gtD (dCall lenD [(dV 4)]) (dC (.int 4)))) (dTest (dB neD (dCall (listAD false) [(dV 4)]) (dSS false (dCall (listAD false) [(dV 4)])))))
    (dRet (dC (.bl false))) dNext)
def b_law_good_route : DS :=
  (dSeq (dSet (tgT [1, 2, 3, 4]) (dV 0))
    (dSeq (b_law_good_route_i1)
    (dSeq (b_law_good_route_i2)
    (dSeq (b_law_good_route_i3)
    (dRet (dOrV (dB eqD (dV 4) (dTup [])) (dAndV (dB gtD (dB ixD (dV 4) (dC (.int 0))) (dC (.int 0))) (dB ltD (dB ixD (dV 4) (dU negD (dC (.int 1)))) (dC (.int 100))))))))))
def fn_law_good_route : Fn := Fn.clean (runF 6 b_law_good_route)
abbrev N_law_good_route : List Str := ["_law_route", "_law_prefix", "_law_path", "_law_weight", "_law_tags_here", "_law_sign"]
theorem sc_law_good_route : FnScope N_law_good_route ["_law_route"] (defScope (top 30)) := ⟨rfl, rfl, rfl, by decide +kernel, rfl, by decide +kernel, by decide +kernel⟩
theorem d_law_good_route {P : Program} {w : World} {K : PySem.W.Frag} {mg : Str → Option Value} {base : Heap} (T : Tx (ghT K) mg) (D : DefOk (ghT K).K mg "_law_good_route" (top 30) ["_law_route"]) : GFn P w (ghT K) mg base "_law_good_route" 1 1 (runF 6 (b_law_good_route)) :=
  GFn.of D sc_law_good_route rfl rfl fun f M cdv A outer s H E hr tk pp =>
  have nd : N_law_good_route.Nodup := sc_law_good_route.nd
  (dss_cons (ds_asg (tgT_ok [1, 2, 3, 4]) (de_var 0 rfl (Or.inl rfl) rfl rfl) (pg_tup rfl (pgs_cons (pg_name (i := 1) nd rfl (Or.inl rfl) (Or.inr rfl)) (pgs_cons (pg_name (i := 2) nd rfl (Or.inl rfl) (Or.inr rfl)) (pgs_cons (pg_name (i := 3) nd rfl (Or.inl rfl) (Or.inr rfl)) (pgs_cons (pg_name (i := 4) nd rfl (Or.inl rfl) (Or.inr rfl)) pgs_nil))))) rfl rfl rfl)
    (dss_cons (ds_if (PW.pt (dw_or (dt_cmp op_gt gtD_ok (de_blt cr_len lenD_ok (by rfl) T.b_len boot_len (da_cons (de_var 1 rfl (Or.inl rfl) rfl rfl) da_nil) (by decide) rfl rfl rfl) de_int (nomark _)) (dw_or1 (dt_cmp (op_neD (uu hr)) neD_ok (de_lc (own := [("_law_sign", 5)]) rfl nd (di_any rfl (de_var 1 rfl (Or.inl rfl) rfl rfl)) (blkOk_by (own := [("_law_sign", 5)]) (N := N_law_good_route) (sc := defScope (top 30)) (by decide +kernel)) (fun _ => (tgN_ok 5)) (gName_own (by decide)) (fun _ _ _ _ _ => (pg_name (i := 5) nd rfl (Or.inl rfl) (Or.inr rfl))) (fun _ _ _ _ _ _ => (dts_one (PW.pt (dw_and (dt_cmp (op_neD (uu hr)) neD_ok (de_var 5 rfl (Or.inl rfl) rfl rfl) (de_str (by decide +kernel)) (nomark _)) (dw_and1 (dt_cmp (op_neD (uu hr)) neD_ok (de_var 5 rfl (Or.inl rfl) rfl rfl) (de_str (by decide +kernel)) (nomark _))))))) (fun _ _ _ _ _ _ => (de_var 5 rfl (Or.inl rfl) rfl rfl)) (fun _ => rfl)) (de_lst da_nil (Nat.le_of_ble_eq_true rfl)) (nomark _)))))
    (dss_one (ds_ret de_bl)) dss_nil)
    (dss_cons (ds_if (PW.pt (dw_or (dt_cmp (op_eqD (uu hr)) eqD_ok (de_var 2 rfl (Or.inl rfl) rfl rfl) (de_tup da_nil (Nat.le_of_ble_eq_true rfl)) (nomark _)) (dw_or (dt_cmp op_gt gtD_ok (de_blt cr_len lenD_ok (by rfl) T.b_len boot_len (da_cons (de_var 2 rfl (Or.inl rfl) rfl rfl) da_nil) (by decide) rfl rfl rfl) de_int (nomark _)) (dw_or (dt_cmp (op_ltD (uu0 hr)) ltD_ok (de_blt (cr_minI rfl (uu hr)) (bestID_ok min) (by rfl) T.b_min boot_min (da_cons (de_var 2 rfl (Or.inl rfl) rfl rfl) da_nil) (by decide) rfl rfl rfl) de_int (nomark _)) (dw_or (dt_cmp op_gt gtD_ok (de_blt (cr_maxI rfl (uu hr)) (bestID_ok max) (by rfl) T.b_max boot_max (da_cons (de_var 2 rfl (Or.inl rfl) rfl rfl) da_nil) (by decide) rfl rfl rfl) de_int (nomark _)) (dw_or (dt_cmp (op_ltD (uu0 hr)) ltD_ok (de_var 3 rfl (Or.inl rfl) rfl rfl) de_int (nomark _)) (dw_or1 (dt_cmp op_gt gtD_ok (de_var 3 rfl (Or.inl rfl) rfl rfl) de_int (nomark _)))))))))
    (dss_one (ds_ret de_bl)) dss_nil)
    (dss_cons (ds_if (PW.pt (dw_or (dt_cmp op_gt gtD_ok (de_blt cr_len lenD_ok (by rfl) T.b_len boot_len (da_cons (de_var 4 rfl (Or.inl rfl) rfl rfl) da_nil) (by decide) rfl rfl rfl) de_int (nomark _)) (dw_or1 (dt_cmp (op_neD (uu hr)) neD_ok (de_bty (cr_listA rfl) (listAD_ok false) (by rfl) T.b_list boot_list (da_cons (de_var 4 rfl (Or.inl rfl) rfl rfl) da_nil) (by decide) rfl rfl rfl) (de_ss false rfl rfl (de_bty (cr_listA rfl) (listAD_ok false) (by rfl) T.b_list boot_list (da_cons (de_var 4 rfl (Or.inl rfl) rfl rfl) da_nil) (by decide) rfl rfl rfl) (by rfl) T.b_sorted boot_sorted (by rfl) T.b_set boot_set (by decide) rfl (by decide) rfl rfl rfl) (nomark _)))))
    (dss_one (ds_ret de_bl)) dss_nil)
    (dss_one (ds_ret (de_or (de_cmp (op_eqD (uu hr)) eqD_ok (de_var 4 rfl (Or.inl rfl) rfl rfl) (de_tup da_nil (Nat.le_of_ble_eq_true rfl)) (nomark _)) (de_one (de_and (de_cmp op_gt gtD_ok (de_ix rfl (uu1 hr) (de_var 4 rfl (Or.inl rfl) rfl rfl) de_int (fun _ _ => rfl)) de_int (nomark _)) (de_one (de_cmp (op_ltD (uu0 hr)) ltD_ok (de_ix rfl (uu1 hr) (de_var 4 rfl (Or.inl rfl) rfl rfl) (de_neg de_int) (fun _ _ => rfl)) de_int (nomark _))))))))))))

def b_law_good_rule_t1 : DT :=
  (dAnd (dTest (dB neD (dV 3) (dC (.str "0")))) (dTest (dB neD (dV 3) (dC (.str "1")))))
def b_law_good_rule_c1 : DE :=
  (dV 3)
def b_law_good_rule_i1 : DS :=
  (dIfS (dOr (dTest (dB gtD (dCall lenD [(dB ixD (dV 0) (dC (.int 0)))]) (dC (.int 16)))) (dTest (dB neD (dComp [3] (dIterA (dB ixD (dV 0) (dC (.int 0)))) (tgN 3) (b_law_good_rule_t1) (b_law_good_rule_c1)) (dLst []))))
    (dRet (dC (.bl false))) dNext)
def b_law_good_rule_i2 : DS :=
  (dIfS (dOr (dTest (dB ltD (dB ixD (dV 0) (dV 2)) (dC (.int 0)))) (dTest (dB gtD (dB ixD (dV 0) (dV 2)) (dB ixD (dV 1) (dB subI (dV 2) (dC (.int 1)))))))
    (dRet (dC (.bl false))) dNext)
def b_law_good_rule_l1 : DS :=
  (b_law_good_rule_i2)
def b_law_good_rule : DS :=
  (dSeq (b_law_good_rule_i1)
    (dSeq (dSet (tgN 1) (dLst [(dC (.int 16)), (dC (.int 999)), (dC (.int 99)), (dC (.int 0)), (dC (.int 0)), (dC (.int 99)), (dC (.int 99)), (dC (.int 3))]))
    (dSeq (dFor (dIterA (dLst [(dC (.int 1)), (dC (.int 2)), (dC (.int 3)), (dC (.int 6)), (dC (.int 7)), (dC (.int 8))])) (tgN 2)
    (b_law_good_rule_l1))
    (dRet (dAndV (dB inD (dB ixD (dV 0) (dC (.int 4))) (dLst [(dC (.str "no")), (dC (.str "yes")), (dC (.str "on"))])) (dOrV (dB isD (dB ixD (dV 0) (dC (.int 5))) (dC .non)) (dAndV (dB geD (dB ixD (dV 0) (dC (.int 5))) (dC (.int 0))) (dB leD (dB ixD (dV 0) (dC (.int 5))) (dC (.int 1000))))))))))
def fn_law_good_rule : Fn := Fn.clean (runF 4 b_law_good_rule)
abbrev N_law_good_rule : List Str := ["_law_rule", "_law_most", "_law_k", "_law_sign"]
theorem sc_law_good_rule : FnScope N_law_good_rule ["_law_rule"] (defScope (top 31)) := ⟨rfl, rfl, rfl, by decide +kernel, rfl, by decide +kernel, by decide +kernel⟩
theorem d_law_good_rule {P : Program} {w : World} {K : PySem.W.Frag} {mg : Str → Option Value} {base : Heap} (T : Tx (ghT K) mg) (D : DefOk (ghT K).K mg "_law_good_rule" (top 31) ["_law_rule"]) : GFn P w (ghT K) mg base "_law_good_rule" 1 1 (runF 4 (b_law_good_rule)) :=
  GFn.of D sc_law_good_rule rfl rfl fun f M cdv A outer s H E hr tk pp =>
  have nd : N_law_good_rule.Nodup := sc_law_good_rule.nd
  (dss_cons (ds_if (PW.pt (dw_or (dt_cmp op_gt gtD_ok (de_blt cr_len lenD_ok (by rfl) T.b_len boot_len (da_cons (de_ix rfl (uu1 hr) (de_var 0 rfl (Or.inl rfl) rfl rfl) de_int (fun _ _ => rfl)) da_nil) (by decide) rfl rfl rfl) de_int (nomark _)) (dw_or1 (dt_cmp (op_neD (uu hr)) neD_ok (de_lc (own := [("_law_sign", 3)]) rfl nd (di_any rfl (de_ix rfl (uu1 hr) (de_var 0 rfl (Or.inl rfl) rfl rfl) de_int (fun _ _ => rfl))) (blkOk_by (own := [("_law_sign", 3)]) (N := N_law_good_rule) (sc := defScope (top 31)) (by decide +kernel)) (fun _ => (tgN_ok 3)) (gName_own (by decide)) (fun _ _ _ _ _ => (pg_name (i := 3) nd rfl (Or.inl rfl) (Or.inr rfl))) (fun _ _ _ _ _ _ => (dts_one (PW.pt (dw_and (dt_cmp (op_neD (uu hr)) neD_ok (de_var 3 rfl (Or.inl rfl) rfl rfl) (de_str (by decide +kernel)) (nomark _)) (dw_and1 (dt_cmp (op_neD (uu hr)) neD_ok (de_var 3 rfl (Or.inl rfl) rfl rfl) (de_str (by decide +kernel)) (nomark _))))))) (fun _ _ _ _ _ _ => (de_var 3 rfl (Or.inl rfl) rfl rfl)) (fun _ => rfl)) (de_lst da_nil (Nat.le_of_ble_eq_true rfl)) (nomark _)))))
    (dss_one (ds_ret de_bl)) dss_nil)
    (dss_cons (ds_set 1 nd rfl (Or.inl rfl) (de_lst (da_cons de_int (da_cons de_int (da_cons de_int (da_cons de_int (da_cons de_int (da_cons de_int (da_cons de_int (da_cons de_int da_nil)))))))) (Nat.le_of_ble_eq_true rfl)) rfl (Or.inr rfl))
    (dss_cons (ds_for pp rfl (di_any rfl (de_lst (da_cons de_int (da_cons de_int (da_cons de_int (da_cons de_int (da_cons de_int (da_cons de_int da_nil)))))) (Nat.le_of_ble_eq_true rfl))) (tgN_ok 2) (pg_name (i := 2) nd rfl (Or.inl rfl) (Or.inr rfl))
    (dss_one (ds_if (PW.pt (dw_or (dt_cmp (op_ltD (uu0 hr)) ltD_ok (de_ix rfl (uu1 hr) (de_var 0 rfl (Or.inl rfl) rfl rfl) (de_var 2 rfl (Or.inl rfl) rfl rfl) (fun _ _ => rfl)) de_int (nomark _)) (dw_or1 (dt_cmp op_gt gtD_ok (de_ix rfl (uu1 hr) (de_var 0 rfl (Or.inl rfl) rfl rfl) (de_var 2 rfl (Or.inl rfl) rfl rfl) (fun _ _ => rfl)) (de_ix rfl (uu1 hr) (de_var 1 rfl (Or.inl rfl) rfl rfl) (de_sub (de_var 2 rfl (Or.inl rfl) rfl rfl) de_int) (fun _ _ => rfl)) (nomark _)))))
    (dss_one (ds_ret de_bl)) dss_nil)) (fun _ => rfl))
    (dss_one (ds_ret (de_and (de_cmp (op_inD (uu1 hr)) inD_ok (de_ix rfl (uu1 hr) (de_var 0 rfl (Or.inl rfl) rfl rfl) de_int (fun _ _ => rfl)) (de_lst (da_cons (de_str (by decide +kernel)) (da_cons (de_str (by decide +kernel)) (da_cons (de_str (by decide +kernel)) da_nil))) (Nat.le_of_ble_eq_true rfl)) (by with_unfolding_all rfl)) (de_one (de_or (de_cmp op_isD isD_ok (de_ix rfl (uu1 hr) (de_var 0 rfl (Or.inl rfl) rfl rfl) de_int (fun _ _ => rfl)) de_non (nomark _)) (de_one (de_and (de_cmp op_ge geD_ok (de_ix rfl (uu1 hr) (de_var 0 rfl (Or.inl rfl) rfl rfl) de_int (fun _ _ => rfl)) de_int (nomark _)) (de_one (de_cmp op_le leD_ok (de_ix rfl (uu1 hr) (de_var 0 rfl (Or.inl rfl) rfl rfl) de_int (fun _ _ => rfl)) de_int (nomark _)))))))))))))

abbrev N_law_word : List Str := ["_law_e", "_law_flags", "_law_words", "_law_flag"]
theorem sc_law_word : FnScope N_law_word ["_law_e"] (defScope (top 27)) := ⟨rfl, rfl, rfl, by decide +kernel, rfl, by decide +kernel, by decide +kernel⟩
open HotX L2H in
theorem d_law_word {P : Program} {w : World} {K : PySem.W.Frag} {mg : Str → Option Value} {base : Heap} (T : Tx (ghT K) mg) (D : DefOk (ghT K).K mg "_law_word" (top 27) ["_law_e"]) : GWord P w (ghT K) mg base "_law_word" 1 :=
  GWord.of D sc_law_word rfl rfl fun f cdv A outer s H E p c hc hot hz hr =>
  have nd : N_law_word.Nodup := sc_law_word.nd
  have hp : p ∈ [p] := List.mem_cons_self
  have hf : ∃ vs, p.2.data = .fields vs := hot.2.imp fun _ h => h.1
  have hh : HotC (cxH (L2N.CX P w) P w (ghT K).K mg base N_law_word "_law_word" (defScope (top 27)) f cdv A outer s H E p) := ⟨p, hot, hp⟩
  (dss_cons (ds_set 1 nd rfl (Or.inl rfl) (de_lst (da_cons (de_isE (b := c == 1) (T.W.ex c hc) hp hz hf (fun _ => rfl) (by rfl) T.W.b_isinstance (de_var 0 rfl (Or.inl rfl) rfl rfl) (by rfl) (T.W.at_ 1 (by decide)) (by rfl) (T.W.isC c hc 1 (by decide)) rfl rfl rfl) (da_cons (de_isE (b := c == 2) (T.W.ex c hc) hp hz hf (fun _ => rfl) (by rfl) T.W.b_isinstance (de_var 0 rfl (Or.inl rfl) rfl rfl) (by rfl) (T.W.at_ 2 (by decide)) (by rfl) (T.W.isC c hc 2 (by decide)) rfl rfl rfl) (da_cons (de_isE (b := c == 3) (T.W.ex c hc) hp hz hf (fun _ => rfl) (by rfl) T.W.b_isinstance (de_var 0 rfl (Or.inl rfl) rfl rfl) (by rfl) (T.W.at_ 3 (by decide)) (by rfl) (T.W.isC c hc 3 (by decide)) rfl rfl rfl) (da_cons (de_isE (b := c == 6) (T.W.ex c hc) hp hz hf (fun _ => rfl) (by rfl) T.W.b_isinstance (de_var 0 rfl (Or.inl rfl) rfl rfl) (by rfl) (T.W.at_ 6 (by decide)) (by rfl) (T.W.isC c hc 6 (by decide)) rfl rfl rfl) da_nil)))) (Nat.le_of_ble_eq_true rfl)) rfl (Or.inr rfl))
    (dss_cons (ds_set 2 nd rfl (Or.inl rfl) (de_lst (da_cons (de_str (by decide +kernel)) (da_cons (de_str (by decide +kernel)) (da_cons (de_str (by decide +kernel)) (da_cons (de_str (by decide +kernel)) da_nil)))) (Nat.le_of_ble_eq_true rfl)) rfl (Or.inr rfl))
    (dss_cons (ds_if (PW.pt (dw_or (dt_cmp (op_neD (uuH hr)) neD_ok (de_blt (cr_sumH hh) sumD_ok (by rfl) T.W.b_sum boot_sum (da_cons (de_boolsH hh rfl (Or.inl rfl) rfl rfl rfl (by decide +kernel) rfl (by decide +kernel) (by decide +kernel) (fun _ => rfl) rfl rfl T.W.b_int (fun _ => rfl)) da_nil) (by decide) rfl rfl rfl) de_int (nomark _)) (dw_or1 (dt_not (dt_val (de_isEB (T.W.ex c hc) hp hz hf (fun _ => rfl) (by rfl) T.W.b_isinstance (de_var 0 rfl (Or.inl rfl) rfl rfl) (by rfl) T.W.b_ValueError (by rfl) (by decide) rfl (T.W.isV c hc) rfl rfl rfl) (fun _ => rfl))))))
    (dss_one (ds_ret (de_str (by decide +kernel)))) dss_nil)
    (dss_one (ds_ret (de_ix rfl (uuH1 hr) (de_var 2 rfl (Or.inl rfl) rfl rfl) (de_bm rfl chkL_ok indexBD_ok PySem.F.plainAttrs_list PySem.F.slot_list_index PySem.F.type_list_index mt_index (de_var 1 rfl (Or.inl rfl) rfl rfl) (da_cons de_bl da_nil) rfl rfl rfl rfl rfl) (fun _ _ => rfl)))))))

abbrev N_is_prefix : List Str := ["text", "sign"]
theorem sc_is_prefix : FnScope N_is_prefix ["text"] (defScope (top 15)) := ⟨rfl, rfl, rfl, by decide +kernel, rfl, by decide +kernel, by decide +kernel⟩
theorem d_is_prefix {P : Program} {w : World} {K : PySem.W.Frag} {mg : Str → Option Value} {base : Heap} (T : Tx (ghT K) mg) (D : DefOk (ghT K).K mg "is_prefix" (top 15) ["text"]) : GFn P w (ghT K) mg base "is_prefix" 1 1 (runF 2 (b_is_prefix)) :=
  GFn.of D sc_is_prefix rfl rfl fun f M cdv A outer s H E hr tk pp =>
  have nd : N_is_prefix.Nodup := sc_is_prefix.nd
  (dss_one (ds_ret (de_and (de_cmp op_le leD_ok (de_blt cr_len lenD_ok (by rfl) T.b_len boot_len (da_cons (de_var 0 rfl (Or.inl rfl) rfl rfl) da_nil) (by decide) rfl rfl rfl) (de_gint T.MOST_SIGNS (by rfl) rfl) (nomark _)) (de_one (de_blt (cr_all rfl) allD_ok (by rfl) T.b_all boot_all (da_cons (de_lc (own := [("sign", 1)]) rfl nd (di_any rfl (de_var 0 rfl (Or.inl rfl) rfl rfl)) (blkOk_by (own := [("sign", 1)]) (N := N_is_prefix) (sc := defScope (top 15)) (by decide +kernel)) (fun _ => (tgN_ok 1)) (gName_own (by decide)) (fun _ _ _ _ _ => (pg_name (i := 1) nd rfl (Or.inl rfl) (Or.inr rfl))) (fun _ _ _ _ _ _ => dts_nil) (fun _ _ _ _ _ _ => (de_cmp (op_inD (uu1 hr)) inD_ok (de_var 1 rfl (Or.inl rfl) rfl rfl) (de_str (by decide +kernel)) (by with_unfolding_all rfl))) (fun _ => rfl)) da_nil) (by decide) rfl rfl rfl)))))

abbrev N_need_prefix : List Str := ["text"]
theorem sc_need_prefix : FnScope N_need_prefix ["text"] (defScope (top 17)) := ⟨rfl, rfl, rfl, by decide +kernel, rfl, by decide +kernel, by decide +kernel⟩
theorem d_need_prefix {P : Program} {w : World} {K : PySem.W.Frag} {mg : Str → Option Value} {base : Heap} (T : Tx (ghT K) mg) (D : DefOk (ghT K).K mg "need_prefix" (top 17) ["text"]) (G_is_prefix : GFn P w (ghT K) mg base "is_prefix" 1 1 fn_is_prefix) : GFn P w (ghT K) mg base "need_prefix" 2 1 (runF 1 (b_need_prefix)) :=
  GFn.of D sc_need_prefix rfl rfl fun f M cdv A outer s H E hr tk pp =>
  have nd : N_need_prefix.Nodup := sc_need_prefix.nd
  (dss_one (ds_if (dt_not (dt_val (de_call rfl (G_is_prefix.wm _) (hr.mono (by decide)) tk (by rfl) (da_cons (de_var 0 rfl (Or.inl rfl) rfl rfl) da_nil) rfl (by rfl) (by rfl) (by rfl)) (fun _ => rfl)))
    (dss_one (ds_raise rfl rfl tk T.X_BadRoute (by rfl) (by rfl))) dss_nil))

abbrev N_are_tags : List Str := ["tags", "tag", "one", "other"]
theorem sc_are_tags : FnScope N_are_tags ["tags"] (defScope (top 16)) := ⟨rfl, rfl, rfl, by decide +kernel, rfl, by decide +kernel, by decide +kernel⟩
theorem d_are_tags {P : Program} {w : World} {K : PySem.W.Frag} {mg : Str → Option Value} {base : Heap} (T : Tx (ghT K) mg) (D : DefOk (ghT K).K mg "are_tags" (top 16) ["tags"]) : GFn P w (ghT K) mg base "are_tags" 1 1 (runF 4 (b_are_tags)) :=
  GFn.of D sc_are_tags rfl rfl fun f M cdv A outer s H E hr tk pp =>
  have nd : N_are_tags.Nodup := sc_are_tags.nd
  (dss_cons (ds_if (PW.pt (dw_or (dt_cmp op_gt gtD_ok (de_blt cr_len lenD_ok (by rfl) T.b_len boot_len (da_cons (de_var 0 rfl (Or.inl rfl) rfl rfl) da_nil) (by decide) rfl rfl rfl) (de_gint T.MOST_TAGS (by rfl) rfl) (nomark _)) (dw_or1 (dt_not (dt_val (de_blt (cr_all rfl) allD_ok (by rfl) T.b_all boot_all (da_cons (de_lc (own := [("tag", 1)]) rfl nd (di_any rfl (de_var 0 rfl (Or.inl rfl) rfl rfl)) (blkOk_by (own := [("tag", 1)]) (N := N_are_tags) (sc := defScope (top 16)) (by decide +kernel)) (fun _ => (tgN_ok 1)) (gName_own (by decide)) (fun _ _ _ _ _ => (pg_name (i := 1) nd rfl (Or.inl rfl) (Or.inr rfl))) (fun _ _ _ _ _ _ => dts_nil) (fun _ _ _ _ _ _ => (de_chain op_le leD_ok op_le leD_ok de_int (de_var 1 rfl (Or.inl rfl) rfl rfl) (de_gint T.MOST_TAG (by rfl) rfl) (by with_unfolding_all rfl))) (fun _ => rfl)) da_nil) (by decide) rfl rfl rfl) (fun _ => rfl))))))
    (dss_one (ds_ret de_bl)) dss_nil)
    (dss_one (ds_ret (de_blt (cr_all rfl) allD_ok (by rfl) T.b_all boot_all (da_cons (de_lc (own := [("one", 2), ("other", 3)]) rfl nd (di_zip rfl (by rfl) T.b_zip (da_cons (de_var 0 rfl (Or.inl rfl) rfl rfl) (da_cons (de_sl rfl (de_var 0 rfl (Or.inl rfl) rfl rfl) (do_some de_int) do_none) da_nil)) rfl rfl) (blkOk_by (own := [("one", 2), ("other", 3)]) (N := N_are_tags) (sc := defScope (top 16)) (by decide +kernel)) (fun _ => (tgT_ok [2, 3])) (gTup_own (by decide)) (fun _ _ _ _ _ => (pg_tup rfl (pgs_cons (pg_name (i := 2) nd rfl (Or.inl rfl) (Or.inr rfl)) (pgs_cons (pg_name (i := 3) nd rfl (Or.inl rfl) (Or.inr rfl)) pgs_nil)))) (fun _ _ _ _ _ _ => dts_nil) (fun _ _ _ _ _ _ => (de_cmp (op_ltD (uu0 hr)) ltD_ok (de_var 2 rfl (Or.inl rfl) rfl rfl) (de_var 3 rfl (Or.inl rfl) rfl rfl) (nomark _))) (fun _ => rfl)) da_nil) (by decide) rfl rfl rfl))))

abbrev N_need_route : List Str := ["route", "prefix", "path", "weight", "tags", "number"]
theorem sc_need_route : FnScope N_need_route ["route"] (defScope (top 18)) := ⟨rfl, rfl, rfl, by decide +kernel, rfl, by decide +kernel, by decide +kernel⟩
theorem d_need_route {P : Program} {w : World} {K : PySem.W.Frag} {mg : Str → Option Value} {base : Heap} (T : Tx (ghT K) mg) (D : DefOk (ghT K).K mg "need_route" (top 18) ["route"]) (G_need_prefix : GFn P w (ghT K) mg base "need_prefix" 2 1 fn_need_prefix) (G_are_tags : GFn P w (ghT K) mg base "are_tags" 1 1 fn_are_tags) : GFn P w (ghT K) mg base "need_route" 3 1 (runF 6 (b_need_route)) :=
  GFn.of D sc_need_route rfl rfl fun f M cdv A outer s H E hr tk pp =>
  have nd : N_need_route.Nodup := sc_need_route.nd
  (dss_cons (ds_asg (tgT_ok [1, 2, 3, 4]) (de_var 0 rfl (Or.inl rfl) rfl rfl) (pg_tup rfl (pgs_cons (pg_name (i := 1) nd rfl (Or.inl rfl) (Or.inr rfl)) (pgs_cons (pg_name (i := 2) nd rfl (Or.inl rfl) (Or.inr rfl)) (pgs_cons (pg_name (i := 3) nd rfl (Or.inl rfl) (Or.inr rfl)) (pgs_cons (pg_name (i := 4) nd rfl (Or.inl rfl) (Or.inr rfl)) pgs_nil))))) rfl rfl rfl)
    (dss_cons (ds_expr (de_call rfl (G_need_prefix.wm _) (hr.mono (by decide)) tk (by rfl) (da_cons (de_var 1 rfl (Or.inl rfl) rfl rfl) da_nil) rfl (by rfl) (by rfl) (by rfl)) rfl)
    (dss_cons (ds_if (PW.pt (dw_or (dt_not (dt_chain op_le leD_ok op_le leD_ok de_int (de_blt cr_len lenD_ok (by rfl) T.b_len boot_len (da_cons (de_var 2 rfl (Or.inl rfl) rfl rfl) da_nil) (by decide) rfl rfl rfl) (de_gint T.MOST_PATH (by rfl) rfl) (by with_unfolding_all rfl))) (dw_or1 (dt_not (dt_val (de_blt (cr_all rfl) allD_ok (by rfl) T.b_all boot_all (da_cons (de_lc (own := [("number", 5)]) rfl nd (di_any rfl (de_var 2 rfl (Or.inl rfl) rfl rfl)) (blkOk_by (own := [("number", 5)]) (N := N_need_route) (sc := defScope (top 18)) (by decide +kernel)) (fun _ => (tgN_ok 5)) (gName_own (by decide)) (fun _ _ _ _ _ => (pg_name (i := 5) nd rfl (Or.inl rfl) (Or.inr rfl))) (fun _ _ _ _ _ _ => dts_nil) (fun _ _ _ _ _ _ => (de_chain op_le leD_ok op_le leD_ok de_int (de_var 5 rfl (Or.inl rfl) rfl rfl) (de_gint T.MOST_NUMBER (by rfl) rfl) (by with_unfolding_all rfl))) (fun _ => rfl)) da_nil) (by decide) rfl rfl rfl) (fun _ => rfl))))))
    (dss_one (ds_raise rfl rfl tk T.X_BadRoute (by rfl) (by rfl))) dss_nil)
    (dss_one (ds_if (PW.pt (dw_or (dt_not (dt_chain op_le leD_ok op_le leD_ok de_int (de_var 3 rfl (Or.inl rfl) rfl rfl) (de_gint T.MOST_WEIGHT (by rfl) rfl) (by with_unfolding_all rfl))) (dw_or1 (dt_not (dt_val (de_call rfl (G_are_tags.wm _) (hr.mono (by decide)) tk (by rfl) (da_cons (de_var 4 rfl (Or.inl rfl) rfl rfl) da_nil) rfl (by rfl) (by rfl) (by rfl)) (fun _ => rfl))))))
    (dss_one (ds_raise rfl rfl tk T.X_BadRoute (by rfl) (by rfl))) dss_nil)))))

abbrev N_need_rule : List Str := ["rule", "prefix", "longest", "number", "tag", "deed", "prefer", "more", "less", "ahead", "one"]
theorem sc_need_rule : FnScope N_need_rule ["rule"] (defScope (top 19)) := ⟨rfl, rfl, rfl, by decide +kernel, rfl, by decide +kernel, by decide +kernel⟩
theorem d_need_rule {P : Program} {w : World} {K : PySem.W.Frag} {mg : Str → Option Value} {base : Heap} (T : Tx (ghT K) mg) (D : DefOk (ghT K).K mg "need_rule" (top 19) ["rule"]) (G_is_prefix : GFn P w (ghT K) mg base "is_prefix" 1 1 fn_is_prefix) : GFn P w (ghT K) mg base "need_rule" 2 1 (runF 11 (b_need_rule)) :=
  GFn.of D sc_need_rule rfl rfl fun f M cdv A outer s H E hr tk pp =>
  have nd : N_need_rule.Nodup := sc_need_rule.nd
  (dss_cons (ds_asg (tgT_ok [1, 2, 3, 4, 5, 6, 7, 8, 9]) (de_var 0 rfl (Or.inl rfl) rfl rfl) (pg_tup rfl (pgs_cons (pg_name (i := 1) nd rfl (Or.inl rfl) (Or.inr rfl)) (pgs_cons (pg_name (i := 2) nd rfl (Or.inl rfl) (Or.inr rfl)) (pgs_cons (pg_name (i := 3) nd rfl (Or.inl rfl) (Or.inr rfl)) (pgs_cons (pg_name (i := 4) nd rfl (Or.inl rfl) (Or.inr rfl)) (pgs_cons (pg_name (i := 5) nd rfl (Or.inl rfl) (Or.inr rfl)) (pgs_cons (pg_name (i := 6) nd rfl (Or.inl rfl) (Or.inr rfl)) (pgs_cons (pg_name (i := 7) nd rfl (Or.inl rfl) (Or.inr rfl)) (pgs_cons (pg_name (i := 8) nd rfl (Or.inl rfl) (Or.inr rfl)) (pgs_cons (pg_name (i := 9) nd rfl (Or.inl rfl) (Or.inr rfl)) pgs_nil)))))))))) rfl rfl rfl)
    (dss_cons (ds_if (PW.pt (dw_or (dt_not (dt_val (de_call rfl (G_is_prefix.wm _) (hr.mono (by decide)) tk (by rfl) (da_cons (de_var 1 rfl (Or.inl rfl) rfl rfl) da_nil) rfl (by rfl) (by rfl) (by rfl)) (fun _ => rfl))) (dw_or (dt_not (dt_chain op_le leD_ok op_le leD_ok de_int (de_var 2 rfl (Or.inl rfl) rfl rfl) (de_gint T.MOST_SIGNS (by rfl) rfl) (by with_unfolding_all rfl))) (dw_or1 (dt_not (dt_chain op_le leD_ok op_le leD_ok de_int (de_var 3 rfl (Or.inl rfl) rfl rfl) (de_gint T.MOST_NUMBER (by rfl) rfl) (by with_unfolding_all rfl)))))))
    (dss_one (ds_raise rfl rfl tk T.X_BadRule (by rfl) (by rfl))) dss_nil)
    (dss_cons (ds_if (PW.pt (dw_or (dt_not (dt_val (de_blt (cr_all rfl) allD_ok (by rfl) T.b_all boot_all (da_cons (de_lc (own := [("one", 10)]) rfl nd (di_any rfl (de_tup (da_cons (de_var 4 rfl (Or.inl rfl) rfl rfl) (da_cons (de_var 7 rfl (Or.inl rfl) rfl rfl) (da_cons (de_var 8 rfl (Or.inl rfl) rfl rfl) da_nil))) (Nat.le_of_ble_eq_true rfl))) (blkOk_by (own := [("one", 10)]) (N := N_need_rule) (sc := defScope (top 19)) (by decide +kernel)) (fun _ => (tgN_ok 10)) (gName_own (by decide)) (fun _ _ _ _ _ => (pg_name (i := 10) nd rfl (Or.inl rfl) (Or.inr rfl))) (fun _ _ _ _ _ _ => dts_nil) (fun _ _ _ _ _ _ => (de_chain op_le leD_ok op_le leD_ok de_int (de_var 10 rfl (Or.inl rfl) rfl rfl) (de_gint T.MOST_TAG (by rfl) rfl) (by with_unfolding_all rfl))) (fun _ => rfl)) da_nil) (by decide) rfl rfl rfl) (fun _ => rfl))) (dw_or1 (dt_cmp (op_notInD (uu1 hr)) notInD_ok (de_var 5 rfl (Or.inl rfl) rfl rfl) (de_gkt T.DEEDS (by rfl) (by rfl)) (by with_unfolding_all rfl)))))
    (dss_one (ds_raise rfl rfl tk T.X_BadRule (by rfl) (by rfl))) dss_nil)
    (dss_one (ds_if (PW.pt (dw_or (PW.pt (dw_and (dt_cmp op_isnD isnD_ok (de_var 6 rfl (Or.inl rfl) rfl rfl) de_non (nomark _)) (dw_and1 (dt_not (dt_chain op_le leD_ok op_le leD_ok de_int (de_var 6 rfl (Or.inl rfl) rfl rfl) (de_gint T.MOST_WEIGHT (by rfl) rfl) (by with_unfolding_all rfl)))))) (dw_or1 (dt_not (dt_chain op_le leD_ok op_le leD_ok de_int (de_var 9 rfl (Or.inl rfl) rfl rfl) (de_gint T.MOST_AHEAD (by rfl) rfl) (by with_unfolding_all rfl))))))
    (dss_one (ds_raise rfl rfl tk T.X_BadRule (by rfl) (by rfl))) dss_nil)))))

def b_law_told_y1 : DS :=
  (dRet (dCallF 0 fn_need_route fn_need_rule [(dV 1)]))
def b_law_told : DS :=
  (dTry 2 (b_law_told_y1))
def fn_law_told : Fn := Fn.clean (runF 3 b_law_told)
abbrev N_law_told : List Str := ["_law_rule", "_law_thing", "_law_e"]
theorem sc_law_told : FnScope N_law_told ["_law_rule", "_law_thing"] (defScope (top 32)) := ⟨rfl, rfl, rfl, by decide +kernel, rfl, by decide +kernel, by decide +kernel⟩
theorem d_law_told {P : Program} {w : World} {K : PySem.W.Frag} {mg : Str → Option Value} {base : Heap} (T : Tx (ghT K) mg) (D : DefOk (ghT K).K mg "_law_told" (top 32) ["_law_rule", "_law_thing"]) (G_law_word : GWord P w (ghT K) mg base "_law_word" 1) (G_need_route : GFn P w (ghT K) mg base "need_route" 3 1 fn_need_route) (G_need_rule : GFn P w (ghT K) mg base "need_rule" 2 1 fn_need_rule) : GFn P w (ghT K) mg base "_law_told" 4 2 (runF 3 (b_law_told)) :=
  GFn.of D sc_law_told rfl rfl fun f M cdv A outer s H E hr tk pp =>
  have nd : N_law_told.Nodup := sc_law_told.nd
  (dss_one (ds_try rfl (G_law_word.wm _) (L2H.roomH_of (hr.mono (by decide))) rfl rfl nd rfl rfl ⟨by rfl, rfl, .inl T.P0⟩ tk T.exm (by rfl) rfl rfl rfl rfl (by rfl) fun W pn xe tk pp =>
    (dss_one (ds_ret (de_callF rfl (G_need_route.wm _) (G_need_rule.wm _) T.F_need_route T.F_need_rule (hr.mono (by decide)) (hr.mono (by decide)) tk rfl (Or.inl rfl) rfl rfl (da_cons (de_var 1 rfl (Or.inl rfl) rfl rfl) da_nil) rfl (by rfl) (by rfl))))))

def b_law_i1 : DS :=
  (dIfS (dTest (dB eqD (dB modI (dB divI (dV 2) (dB powI (dC (.int 2)) (dC (.int 47)))) (dC (.int 2))) (dC (.int 1))))
    (dSeq (dSet (tgN 7) (dCall fn_law_spoilt_route [(dB divI (dV 2) (dB powI (dC (.int 2)) (dC (.int 60)))), (dV 7)]))
    (dSet (tgN 8) (dCall fn_law_spoilt_rule [(dB divI (dB divI (dV 2) (dB powI (dC (.int 2)) (dC (.int 60)))) (dC (.int 1024))), (dV 8)]))) dNext)
def b_law_i2 : DS :=
  (dIfS (dTest (dB neD (dLst [(dCall fn_law_told [(dC (.fn 0)), (dV 7)]), (dCall fn_law_told [(dC (.fn 1)), (dV 8)])]) (dV 9)))
    (dRet (dC (.bl false))) dNext)
def b_law_l1 : DS :=
  (b_law_i2)
def b_law_l2 : DS :=
  (dSeq (dSet (tgN 2) (dCall fn_law_drawn [(dCall fn_law_cell [(dV 0), (dV 1)]), (dV 1)]))
    (dSeq (dSet (tgN 3) (dCall fn_law_bits [(dB divI (dV 2) (dC (.int 16))), (dB ixD (dLst [(dC (.int 0)), (dB modI (dV 2) (dC (.int 17))), (dC (.int 16))]) (dB modI (dB divI (dV 2) (dC (.int 8))) (dC (.int 3))))]))
    (dSeq (dSet (tgN 4) (dB addD (dC (.int 1)) (dB modI (dB divI (dV 2) (dB powI (dC (.int 2)) (dC (.int 17)))) (dC (.int 12)))))
    (dSeq (dSet (tgN 5) (dCall tupleD [(dCall fn_law_numbers [(dB divI (dV 2) (dB powI (dC (.int 2)) (dC (.int 20)))), (dV 4)])]))
    (dSeq (dSet (tgN 6) (dB ixD (dLst [(dC (.int 0)), (dC (.int 1000)), (dB modI (dB divI (dV 2) (dB powI (dC (.int 2)) (dC (.int 40)))) (dC (.int 1001)))]) (dB modI (dB divI (dV 2) (dB powI (dC (.int 2)) (dC (.int 30)))) (dC (.int 3)))))
    (dSeq (dSet (tgN 7) (dTup [(dV 3), (dV 5), (dV 6), (dCall fn_law_tags [(dB divI (dV 2) (dB powI (dC (.int 2)) (dC (.int 50))))])]))
    (dSeq (dSet (tgN 8) (dTup [(dV 3), (dB ixD (dLst [(dC (.int 0)), (dC (.int 16)), (dC (.int 7))]) (dB modI (dB divI (dV 2) (dC (.int 32))) (dC (.int 3)))), (dB ixD (dLst [(dC (.int 0)), (dC (.int 999)), (dB ixD (dV 5) (dC (.int 0)))]) (dB modI (dB divI (dV 2) (dB powI (dC (.int 2)) (dC (.int 33)))) (dC (.int 3))))]))
    (dSeq (dSet (tgN 8) (dB addD (dV 8) (dTup [(dB ixD (dLst [(dC (.int 0)), (dC (.int 99)), (dC (.int 5))]) (dB modI (dB divI (dV 2) (dB powI (dC (.int 2)) (dC (.int 35)))) (dC (.int 3))))])))
    (dSeq (dSet (tgN 8) (dB addD (dV 8) (dTup [(dB ixD (dLst [(dC (.str "no")), (dC (.str "yes")), (dC (.str "on"))]) (dB modI (dB divI (dV 2) (dB powI (dC (.int 2)) (dC (.int 37)))) (dC (.int 3)))), (dB ixD (dLst [(dC .non), (dC (.int 0)), (dC (.int 1000))]) (dB modI (dB divI (dV 2) (dB powI (dC (.int 2)) (dC (.int 39)))) (dC (.int 3))))])))
    (dSeq (dSet (tgN 8) (dB addD (dV 8) (dTup [(dB ixD (dLst [(dC (.int 0)), (dC (.int 99))]) (dB modI (dB divI (dV 2) (dB powI (dC (.int 2)) (dC (.int 42)))) (dC (.int 2)))), (dB ixD (dLst [(dC (.int 0)), (dC (.int 99))]) (dB modI (dB divI (dV 2) (dB powI (dC (.int 2)) (dC (.int 43)))) (dC (.int 2))))])))
    (dSeq (dSet (tgN 8) (dB addD (dV 8) (dTup [(dB ixD (dLst [(dC (.int 0)), (dC (.int 3)), (dC (.int 1))]) (dB modI (dB divI (dV 2) (dB powI (dC (.int 2)) (dC (.int 44)))) (dC (.int 3))))])))
    (dSeq (b_law_i1)
    (dSeq (dSet (tgN 9) (dLstM [(dB ixD (dLst [(dC .non), (dC (.str "BadRoute"))]) (dCall intD [(dNotV (dCall fn_law_good_route [(dV 7)]))]))]))
    (dSeq (dExpr (dMeth chkL appendD (dV 9) [(dB ixD (dLst [(dC .non), (dC (.str "BadRule"))]) (dCall intD [(dNotV (dCall fn_law_good_rule [(dV 8)]))]))]))
    (dFor (dIterR (dC (.int 2))) (tgN 10)
    (b_law_l1))))))))))))))))
def b_law : DS :=
  (dSeq (dFor (dIterR (dCall max2D [(dC (.int 1)), (dCall min2D [(dC (.int 6)), (dCall lenD [(dV 0)])])])) (tgN 1)
    (b_law_l2))
    (dRet (dC (.bl true))))
def F_law : Fn := runF 11 b_law
abbrev N_law : List Str := ["_law_script", "_law_k", "_law_more", "_law_prefix", "_law_many", "_law_path", "_law_weight", "_law_route", "_law_rule", "_law_due", "_law_turn"]
theorem sc_law : FnScope N_law ["_law_script"] (defScope (top 33)) := ⟨rfl, rfl, rfl, by decide +kernel, rfl, by decide +kernel, by decide +kernel⟩
theorem d_law {P : Program} {w : World} {K : PySem.W.Frag} {mg : Str → Option Value} {base : Heap} {f : Addr} {fd : FuncData} (T : Tx (ghT K) mg) (F : L2.Fun (ghT K).K "law" "law" (top 33) f fd) (G_law_drawn : GFn P w (ghT K) mg base "_law_drawn" 1 2 fn_law_drawn) (G_law_cell : GFn P w (ghT K) mg base "_law_cell" 1 2 fn_law_cell) (G_law_bits : GFn P w (ghT K) mg base "_law_bits" 1 2 fn_law_bits) (G_law_numbers : GFn P w (ghT K) mg base "_law_numbers" 1 2 fn_law_numbers) (G_law_tags : GFn P w (ghT K) mg base "_law_tags" 1 1 fn_law_tags) (G_law_spoilt_route : GFn P w (ghT K) mg base "_law_spoilt_route" 1 2 fn_law_spoilt_route) (G_law_spoilt_rule : GFn P w (ghT K) mg base "_law_spoilt_rule" 1 2 fn_law_spoilt_rule) (G_law_good_route : GFn P w (ghT K) mg base "_law_good_route" 1 1 fn_law_good_route) (G_law_good_rule : GFn P w (ghT K) mg base "_law_good_rule" 1 1 fn_law_good_rule) (G_law_told : GFn P w (ghT K) mg base "_law_told" 4 2 fn_law_told) : LawF P w (ghT K) mg base 5 f fd "_law_script" (runF 11 (b_law)) :=
  fn_rule F sc_law rfl rfl fun M cdv A outer s H E hr tk pp =>
  have nd : N_law.Nodup := sc_law.nd
  (dss_cons (ds_for pp rfl (di_range (by rfl) T.b_range (de_blt (call_max2 rfl) max2D_ok (by rfl) T.b_max boot_max (da_cons de_int (da_cons (de_blt (call_min2 rfl) min2D_ok (by rfl) T.b_min boot_min (da_cons de_int (da_cons (de_blt cr_len lenD_ok (by rfl) T.b_len boot_len (da_cons (de_var 0 rfl (Or.inl rfl) rfl rfl) da_nil) (by decide) rfl rfl rfl) da_nil)) (by decide) rfl rfl rfl) da_nil)) (by decide) rfl rfl rfl) rfl) (tgN_ok 1) (pg_name (i := 1) nd rfl (Or.inl rfl) (Or.inr rfl))
    (dss_cons (ds_set 2 nd rfl (Or.inl rfl) (de_call rfl (G_law_drawn.wm _) (hr.mono (by decide)) tk (by rfl) (da_cons (de_call rfl (G_law_cell.wm _) (hr.mono (by decide)) tk (by rfl) (da_cons (de_var 0 rfl (Or.inl rfl) rfl rfl) (da_cons (de_var 1 rfl (Or.inl rfl) rfl rfl) da_nil)) rfl (by rfl) (by rfl) (by rfl)) (da_cons (de_var 1 rfl (Or.inl rfl) rfl rfl) da_nil)) rfl (by rfl) (by rfl) (by rfl)) rfl (Or.inr rfl))
    (dss_cons (ds_set 3 nd rfl (Or.inl rfl) (de_call rfl (G_law_bits.wm _) (hr.mono (by decide)) tk (by rfl) (da_cons (de_div (de_var 2 rfl (Or.inl rfl) rfl rfl) de_int) (da_cons (de_ix rfl (uu1 hr) (de_lst (da_cons de_int (da_cons (de_mod (de_var 2 rfl (Or.inl rfl) rfl rfl) de_int) (da_cons de_int da_nil))) (Nat.le_of_ble_eq_true rfl)) (de_mod (de_div (de_var 2 rfl (Or.inl rfl) rfl rfl) de_int) de_int) (fun _ _ => rfl)) da_nil)) rfl (by rfl) (by rfl) (by rfl)) rfl (Or.inr rfl))
    (dss_cons (ds_set 4 nd rfl (Or.inl rfl) (de_add rfl de_int (de_mod (de_div (de_var 2 rfl (Or.inl rfl) rfl rfl) (de_pow de_int de_int)) de_int)) rfl (Or.inr rfl))
    (dss_cons (ds_set 5 nd rfl (Or.inl rfl) (de_bty call_tuple_of tupleD_ok (by rfl) T.b_tuple boot_tuple (da_cons (de_call rfl (G_law_numbers.wm _) (hr.mono (by decide)) tk (by rfl) (da_cons (de_div (de_var 2 rfl (Or.inl rfl) rfl rfl) (de_pow de_int de_int)) (da_cons (de_var 4 rfl (Or.inl rfl) rfl rfl) da_nil)) rfl (by rfl) (by rfl) (by rfl)) da_nil) (by decide) rfl rfl rfl) rfl (Or.inr rfl))
    (dss_cons (ds_set 6 nd rfl (Or.inl rfl) (de_ix rfl (uu1 hr) (de_lst (da_cons de_int (da_cons de_int (da_cons (de_mod (de_div (de_var 2 rfl (Or.inl rfl) rfl rfl) (de_pow de_int de_int)) de_int) da_nil))) (Nat.le_of_ble_eq_true rfl)) (de_mod (de_div (de_var 2 rfl (Or.inl rfl) rfl rfl) (de_pow de_int de_int)) de_int) (fun _ _ => rfl)) rfl (Or.inr rfl))
    (dss_cons (ds_set 7 nd rfl (Or.inl rfl) (de_tup (da_cons (de_var 3 rfl (Or.inl rfl) rfl rfl) (da_cons (de_var 5 rfl (Or.inl rfl) rfl rfl) (da_cons (de_var 6 rfl (Or.inl rfl) rfl rfl) (da_cons (de_call rfl (G_law_tags.wm _) (hr.mono (by decide)) tk (by rfl) (da_cons (de_div (de_var 2 rfl (Or.inl rfl) rfl rfl) (de_pow de_int de_int)) da_nil) rfl (by rfl) (by rfl) (by rfl)) da_nil)))) (Nat.le_of_ble_eq_true rfl)) rfl (Or.inr rfl))
    (dss_cons (ds_set 8 nd rfl (Or.inl rfl) (de_tup (da_cons (de_var 3 rfl (Or.inl rfl) rfl rfl) (da_cons (de_ix rfl (uu1 hr) (de_lst (da_cons de_int (da_cons de_int (da_cons de_int da_nil))) (Nat.le_of_ble_eq_true rfl)) (de_mod (de_div (de_var 2 rfl (Or.inl rfl) rfl rfl) de_int) de_int) (fun _ _ => rfl)) (da_cons (de_ix rfl (uu1 hr) (de_lst (da_cons de_int (da_cons de_int (da_cons (de_ix rfl (uu1 hr) (de_var 5 rfl (Or.inl rfl) rfl rfl) de_int (fun _ _ => rfl)) da_nil))) (Nat.le_of_ble_eq_true rfl)) (de_mod (de_div (de_var 2 rfl (Or.inl rfl) rfl rfl) (de_pow de_int de_int)) de_int) (fun _ _ => rfl)) da_nil))) (Nat.le_of_ble_eq_true rfl)) rfl (Or.inr rfl))
    (dss_cons (ds_set 8 nd rfl (Or.inl rfl) (de_add rfl (de_var 8 rfl (Or.inl rfl) rfl rfl) (de_tup (da_cons (de_ix rfl (uu1 hr) (de_lst (da_cons de_int (da_cons de_int (da_cons de_int da_nil))) (Nat.le_of_ble_eq_true rfl)) (de_mod (de_div (de_var 2 rfl (Or.inl rfl) rfl rfl) (de_pow de_int de_int)) de_int) (fun _ _ => rfl)) da_nil) (Nat.le_of_ble_eq_true rfl))) rfl (Or.inr rfl))
    (dss_cons (ds_set 8 nd rfl (Or.inl rfl) (de_add rfl (de_var 8 rfl (Or.inl rfl) rfl rfl) (de_tup (da_cons (de_ix rfl (uu1 hr) (de_lst (da_cons (de_str (by decide +kernel)) (da_cons (de_str (by decide +kernel)) (da_cons (de_str (by decide +kernel)) da_nil))) (Nat.le_of_ble_eq_true rfl)) (de_mod (de_div (de_var 2 rfl (Or.inl rfl) rfl rfl) (de_pow de_int de_int)) de_int) (fun _ _ => rfl)) (da_cons (de_ix rfl (uu1 hr) (de_lst (da_cons de_non (da_cons de_int (da_cons de_int da_nil))) (Nat.le_of_ble_eq_true rfl)) (de_mod (de_div (de_var 2 rfl (Or.inl rfl) rfl rfl) (de_pow de_int de_int)) de_int) (fun _ _ => rfl)) da_nil)) (Nat.le_of_ble_eq_true rfl))) rfl (Or.inr rfl))
    (dss_cons (ds_set 8 nd rfl (Or.inl rfl) (de_add rfl (de_var 8 rfl (Or.inl rfl) rfl rfl) (de_tup (da_cons (de_ix rfl (uu1 hr) (de_lst (da_cons de_int (da_cons de_int da_nil)) (Nat.le_of_ble_eq_true rfl)) (de_mod (de_div (de_var 2 rfl (Or.inl rfl) rfl rfl) (de_pow de_int de_int)) de_int) (fun _ _ => rfl)) (da_cons (de_ix rfl (uu1 hr) (de_lst (da_cons de_int (da_cons de_int da_nil)) (Nat.le_of_ble_eq_true rfl)) (de_mod (de_div (de_var 2 rfl (Or.inl rfl) rfl rfl) (de_pow de_int de_int)) de_int) (fun _ _ => rfl)) da_nil)) (Nat.le_of_ble_eq_true rfl))) rfl (Or.inr rfl))
    (dss_cons (ds_set 8 nd rfl (Or.inl rfl) (de_add rfl (de_var 8 rfl (Or.inl rfl) rfl rfl) (de_tup (da_cons (de_ix rfl (uu1 hr) (de_lst (da_cons de_int (da_cons de_int (da_cons de_int da_nil))) (Nat.le_of_ble_eq_true rfl)) (de_mod (de_div (de_var 2 rfl (Or.inl rfl) rfl rfl) (de_pow de_int de_int)) de_int) (fun _ _ => rfl)) da_nil) (Nat.le_of_ble_eq_true rfl))) rfl (Or.inr rfl))
    (dss_cons (ds_if (dt_cmp (op_eqD (uu hr)) eqD_ok (de_mod (de_div (de_var 2 rfl (Or.inl rfl) rfl rfl) (de_pow de_int de_int)) de_int) de_int (nomark _))
    (dss_cons (ds_set 7 nd rfl (Or.inl rfl) (de_call rfl (G_law_spoilt_route.wm _) (hr.mono (by decide)) tk (by rfl) (da_cons (de_div (de_var 2 rfl (Or.inl rfl) rfl rfl) (de_pow de_int de_int)) (da_cons (de_var 7 rfl (Or.inl rfl) rfl rfl) da_nil)) rfl (by rfl) (by rfl) (by rfl)) rfl (Or.inr rfl))
    (dss_one (ds_set 8 nd rfl (Or.inl rfl) (de_call rfl (G_law_spoilt_rule.wm _) (hr.mono (by decide)) tk (by rfl) (da_cons (de_div (de_div (de_var 2 rfl (Or.inl rfl) rfl rfl) (de_pow de_int de_int)) de_int) (da_cons (de_var 8 rfl (Or.inl rfl) rfl rfl) da_nil)) rfl (by rfl) (by rfl) (by rfl)) rfl (Or.inr rfl)))) dss_nil)
    (dss_cons (ds_set 9 nd rfl (Or.inl rfl) (de_lstM (da_cons (de_ix rfl (uu1 hr) (de_lst (da_cons de_non (da_cons (de_str (by decide +kernel)) da_nil)) (Nat.le_of_ble_eq_true rfl)) (de_bty call_int1 intD_ok (by rfl) T.b_int boot_int (da_cons (de_not (de_call rfl (G_law_good_route.wm _) (hr.mono (by decide)) tk (by rfl) (da_cons (de_var 7 rfl (Or.inl rfl) rfl rfl) da_nil) rfl (by rfl) (by rfl) (by rfl))) da_nil) (by decide) rfl rfl rfl) (fun _ _ => rfl)) da_nil) (Nat.le_of_ble_eq_true rfl)) rfl (Or.inr rfl))
    (dss_cons (ds_expr (de_bm rfl chkL_ok appendD_ok PySem.F.plainAttrs_list PySem.F.slot_list_append PySem.F.type_list_append mt_append (de_var 9 rfl (Or.inl rfl) rfl rfl) (da_cons (de_ix rfl (uu1 hr) (de_lst (da_cons de_non (da_cons (de_str (by decide +kernel)) da_nil)) (Nat.le_of_ble_eq_true rfl)) (de_bty call_int1 intD_ok (by rfl) T.b_int boot_int (da_cons (de_not (de_call rfl (G_law_good_rule.wm _) (hr.mono (by decide)) tk (by rfl) (da_cons (de_var 8 rfl (Or.inl rfl) rfl rfl) da_nil) rfl (by rfl) (by rfl) (by rfl))) da_nil) (by decide) rfl rfl rfl) (fun _ _ => rfl)) da_nil) rfl rfl rfl rfl rfl) rfl)
    (dss_one (ds_for pp rfl (di_range (by rfl) T.b_range de_int rfl) (tgN_ok 10) (pg_name (i := 10) nd rfl (Or.inl rfl) (Or.inr rfl))
    (dss_one (ds_if (dt_cmp (op_neD (uu hr)) neD_ok (de_lst (da_cons (de_call rfl (G_law_told.wm _) (hr.mono (by decide)) tk (by rfl) (da_cons (de_gfn (by rfl) T.F_need_route rfl) (da_cons (de_var 7 rfl (Or.inl rfl) rfl rfl) da_nil)) rfl (by rfl) (by rfl) (by rfl)) (da_cons (de_call rfl (G_law_told.wm _) (hr.mono (by decide)) tk (by rfl) (da_cons (de_gfn (by rfl) T.F_need_rule rfl) (da_cons (de_var 8 rfl (Or.inl rfl) rfl rfl) da_nil)) rfl (by rfl) (by rfl) (by rfl)) da_nil)) (Nat.le_of_ble_eq_true rfl)) (de_var 9 rfl (Or.inl rfl) rfl rfl) (nomark _))
    (dss_one (ds_ret de_bl)) dss_nil)) (fun _ => rfl))))))))))))))))) (fun _ => rfl))
    (dss_one (ds_ret de_bl)))
end
end DL

/-! K10A: the law's own look at a route. -/
namespace DL
open PySem PySem.Spec PyProof.Rows L2
@[simp] theorem dSS_def (m : Bool) (f : DE) (env : En) (st : Sto) : dSS m f env st = (f env st).bind (ssD m) := nrfl rfl
@[simp] theorem dCallF_0 (i : Nat) (F0 F1 : Fn) (fs : List DE) (env : En) (st : Sto) (h : env[i]? = some (some (.fn 0))) : dCallF i F0 F1 fs env st = dCall F0 fs env st := by unfold dCallF; simp only [h]
@[simp] theorem dCallF_1 (i : Nat) (F0 F1 : Fn) (fs : List DE) (env : En) (st : Sto) (h : env[i]? = some (some (.fn 1))) : dCallF i F0 F1 fs env st = dCall F1 fs env st := by unfold dCallF; simp only [h]
theorem ne_nilG (xs : List D) (hg : xs.all (good 39) = true) (st : Sto) : neD (.lst xs) (.lst []) st = .ok (.bl (!xs.isEmpty)) st := by
  rw [neD_good (x := .lst xs) (y := .lst []) (by exact hg) rfl]
  cases xs with
  | nil => simp [der, toP, toPs, PyData.eqv, PyData.eqvAll]
  | cons r rs => simp [der, toP, toPs, PyData.eqv, PyData.eqvAll]
theorem toP_ints_lst (xs : List Int) : toP (.lst (xs.map D.int)) = .list (xs.map PyData.int) := by simp [toP, toPs_ints]
theorem toP_ints_tup (xs : List Int) : toP (.tup (xs.map D.int)) = .tuple (xs.map PyData.int) := by simp [toP, toPs_ints]
theorem ne_intsL (xs ys : List Int) (st : Sto) : neD (.lst (xs.map D.int)) (.lst (ys.map D.int)) st = .ok (.bl (!decide (xs = ys))) st := by
  rw [neD_good (x := .lst (xs.map D.int)) (y := .lst (ys.map D.int)) (good_ints' 39 xs) (good_ints' 39 ys)]
  show Rs.ok (D.bl (!PyData.eqv (toP (.lst (xs.map D.int))) (toP (.lst (ys.map D.int))))) st = _
  rw [toP_ints_lst, toP_ints_lst]
  simp only [PyData.eqv, eqvAll_ints]
theorem eq_tupNil (xs : List Int) (st : Sto) : eqD (.tup (xs.map D.int)) (.tup []) st = .ok (.bl xs.isEmpty) st := by
  show eqD (.tup (xs.map D.int)) (.tup (([] : List Int).map D.int)) st = _
  rw [eqD_good (x := .tup (xs.map D.int)) (y := .tup (([] : List Int).map D.int)) (good_ints' 39 xs) rfl]
  show Rs.ok (D.bl (PyData.eqv (toP (.tup (xs.map D.int))) (toP (.tup (([] : List Int).map D.int))))) st = _
  rw [toP_ints_tup, toP_ints_tup]
  simp only [PyData.eqv, eqvAll_ints]
  cases xs <;> simp
theorem sign_eq (c : Nat) : ((⟨#[c]⟩ : Str) == ("0" : Str)) = (c == 48) := by
  have e : ("0" : Str) = ⟨#[48]⟩ := by decide
  rw [e, Bool.eq_iff_iff]
  simp [Str.mk.injEq]
theorem sign_eq1 (c : Nat) : ((⟨#[c]⟩ : Str) == ("1" : Str)) = (c == 49) := by
  have e : ("1" : Str) = ⟨#[49]⟩ := by decide
  rw [e, Bool.eq_iff_iff]
  simp [Str.mk.injEq]
/-! ### rows that rise -/
theorem risingB_cons (a b : Int) (ts : List Int) : risingB (a :: b :: ts) = (decide (a < b) && risingB (b :: ts)) := rfl
theorem risingB_iff : ∀ ts : List Int, risingB ts = true ↔ ts.Pairwise (· < ·)
  | [] => ⟨fun _ => .nil, fun _ => rfl⟩
  | [a] => ⟨fun _ => List.pairwise_singleton _ _, fun _ => rfl⟩
  | a :: b :: ts => by
    rw [risingB_cons, Bool.and_eq_true, decide_eq_true_eq, risingB_iff (b :: ts)]
    constructor
    · rintro ⟨h1, h2⟩
      refine List.pairwise_cons.mpr ⟨fun x hx => ?_, h2⟩
      rcases List.mem_cons.mp hx with e | hx
      · rw [e]; exact h1
      · have := (List.pairwise_cons.mp h2).1 x hx
        omega
    · intro h
      exact ⟨(List.pairwise_cons.mp h).1 b List.mem_cons_self, (List.pairwise_cons.mp h).2⟩
theorem lt_nodup : ∀ {l : List Int}, l.Pairwise (· < ·) → l.Nodup
  | [], _ => .nil
  | a :: l, h => List.nodup_cons.mpr ⟨fun z => by have := (List.pairwise_cons.mp h).1 a z; omega, lt_nodup (List.pairwise_cons.mp h).2⟩
theorem ss_rising (ts : List Int) : decide (ts = srtI (once ts)) = risingB ts := by
  rw [Bool.eq_iff_iff, decide_eq_true_eq, risingB_iff]
  constructor
  · intro e
    rw [e]
    exact lt_of_le_nodup _ (srtI_sorted _) ((srtI_perm _).nodup_iff.mpr (once_nodup ts))
  · intro h
    exact srtI_one (once_perm (lt_nodup h)).symm (h.imp fun h => by omega)
theorem ss_ints (ts : List Int) (hl : ts.length < 64) (st : Sto) : ssD false (.lst (ts.map D.int)) st = .ok (.lst ((srtI (once ts)).map D.int)) st := by
  unfold ssD
  rw [show itemsOf st (.lst (ts.map D.int)) = some (ts.map D.int) from rfl]
  dsimp only
  rw [if_neg (show ¬ (isTup (.lst (ts.map D.int)) = true) from Bool.false_ne_true)]
  cases ts with
  | nil =>
    simp [strs?, once, srtS, srtI, mk]
  | cons t ts =>
    rw [show strs? ((t :: ts).map D.int) = none from rfl]
    dsimp only
    rw [ints?_map]
    dsimp only
    rw [if_pos hl]; rfl
theorem fold_min : ∀ (ns : List Int) (n k : Int), k ≤ ns.foldl min n ↔ k ≤ n ∧ ∀ x ∈ ns, k ≤ x
  | [], n, k => by simp
  | a :: ns, n, k => by
    rw [List.foldl_cons, fold_min ns]
    simp only [List.mem_cons, forall_eq_or_imp, Int.le_min, and_assoc]
theorem fold_max : ∀ (ns : List Int) (n k : Int), ns.foldl max n ≤ k ↔ n ≤ k ∧ ∀ x ∈ ns, x ≤ k
  | [], n, k => by simp
  | a :: ns, n, k => by
    rw [List.foldl_cons, fold_max ns]
    simp only [List.mem_cons, forall_eq_or_imp, Int.max_le, and_assoc]
theorem best_tup (f : Int → Int → Int) (n : Int) (ns : List Int) (st : Sto) : bestID f [.tup ((n :: ns).map D.int)] st = .ok (.int (ns.foldl f n)) st := by
  have e : itemsOf st (.tup ((n :: ns).map D.int)) = some ((n :: ns).map D.int) := rfl
  have e2 := ints?_map (n :: ns)
  unfold bestID
  simp only [e, e2]
/-- the signs that are none -/
def badS (s : Str) : List Nat := s.cps.toList.filter fun c => !isBit c
theorem bad_nil (s : Str) : (badS s).isEmpty = s.cps.toList.all isBit := by
  unfold badS
  rw [Bool.eq_iff_iff, List.isEmpty_iff, List.filter_eq_nil_iff, List.all_eq_true]
  simp
theorem good_signs (n : Nat) (cs : List Nat) : (cs.map fun c => D.str ⟨#[c]⟩).all (good n) = true := by
  rw [List.all_map]; exact List.all_eq_true.mpr fun _ _ => good_str n _
theorem gt_len (n : Nat) (k : Nat) (st : Sto) : gtD (.int (n : Int)) (.int (k : Int)) st = .ok (.bl (!decide (n ≤ k))) st := by
  rw [gtD_int]; congr 2; rw [Bool.eq_iff_iff]; simp <;> omega
theorem tag_ends {ts : List Int} (h4 : ts.length ≤ 4) (hr : risingB ts = true) (st : Sto) : ts = [] ∨ ∃ a z, ixD (.tup (ts.map D.int)) (.int 0) st = .ok (.int a) st ∧ ixD (.tup (ts.map D.int)) (.int (-1)) st = .ok (.int z) st ∧ (ts.all (inB1 1 99) = (decide (a > 0) && decide (z < 100))) := by
  have hp := (risingB_iff ts).mp hr
  match ts, h4, hp with
  | [], _, _ => exact .inl rfl
  | [a], _, _ =>
    refine .inr ⟨a, a, rfl, rfl, ?_⟩
    rw [Bool.eq_iff_iff]; simp [inB1] <;> omega
  | [a, b], _, hp =>
    refine .inr ⟨a, b, rfl, rfl, ?_⟩
    simp at hp
    rw [Bool.eq_iff_iff]; simp [inB1] <;> omega
  | [a, b, c], _, hp =>
    refine .inr ⟨a, c, rfl, rfl, ?_⟩
    simp at hp
    rw [Bool.eq_iff_iff]; simp [inB1] <;> omega
  | [a, b, c, d], _, hp =>
    refine .inr ⟨a, d, rfl, rfl, ?_⟩
    simp at hp
    rw [Bool.eq_iff_iff]; simp [inB1] <;> omega
  | _ :: _ :: _ :: _ :: _ :: _, h4, _ => simp at h4
theorem good_route_ok {q : RouteS} (h1 : q.pfx.length ≤ 1000) (h2 : q.path.length ≤ 1000) (st : Sto) : fn_law_good_route [q.enc] st = .ok (.bl (decide (GoodRoute q))) st := by
  refine Fn.clean_same ?_ rfl
  have hc : compL (tgN 5) b_law_good_route_t1 b_law_good_route_c1 [some q.enc, some (.str q.pfx), some (.tup (q.path.map D.int)), some (.int q.weight), some (.tup (q.tags.map D.int)), none] (q.pfx.cps.toList.map fun c => D.str ⟨#[c]⟩) st = .ok ((badS q.pfx).map fun c => D.str ⟨#[c]⟩) st :=
    compL_filter (fun c => D.str ⟨#[c]⟩) (fun c => !isBit c) (fun c => D.str ⟨#[c]⟩) _ (fun c _ => by
      have e0 := sign_eq c
      have e1 := sign_eq1 c
      cases c0 : (c == 48) <;> cases c1 : (c == 49) <;> rw [c0] at e0 <;> rw [c1] at e1 <;> simp [b_law_good_route_t1, e0, e1, isBit, c0, c1]) fun c _ _ => by simp [b_law_good_route_c1]
  have hd := dComp_of (vs := [5]) (src := dIterA (dV 1)) (tg := tgN 5) (t := b_law_good_route_t1) (f := b_law_good_route_c1) (env := [some q.enc, some (.str q.pfx), some (.tup (q.path.map D.int)), some (.int q.weight), some (.tup (q.tags.map D.int)), none]) (st := st) (st1 := st) (by simp [asAny, signs]) hc (by
    rw [List.length_map]
    have : (badS q.pfx).length ≤ q.pfx.cps.toList.length := List.length_filter_le _ _
    rw [← str_len] at this
    omega)
  have hn := ne_nilG ((badS q.pfx).map fun c => D.str ⟨#[c]⟩) (good_signs 39 _) st
  have ee : ((badS q.pfx).map fun c => D.str (⟨#[c]⟩ : Str)).isEmpty = q.pfx.cps.toList.all isBit := by rw [← bad_nil]; cases badS q.pfx <;> rfl
  rw [ee] at hn
  generalize ((badS q.pfx).map fun c => D.str ⟨#[c]⟩) = bl at *
  have g1 := gt_len q.pfx.length 16 st
  have he : q.enc = .tup [.str q.pfx, .tup (q.path.map D.int), .int q.weight, .tup (q.tags.map D.int)] := rfl
  rw [he] at hd ⊢
  have g1 : gtD (.int (q.pfx.length : Int)) (.int 16) st = .ok (.bl (!decide (q.pfx.length ≤ 16))) st := g1
  by_cases c1 : ¬ isPfx q.pfx = true
  · rw [decide_eq_false fun h => c1 h.pfx]
    unfold isPfx at c1
    cases d1 : decide (q.pfx.length ≤ 16) with
    | false =>
      rw [d1] at g1
      simp [b_law_good_route, b_law_good_route_i1, len_str, g1, -gtD_int]
    | true =>
      rw [d1] at g1 c1
      have d2 : q.pfx.cps.toList.all isBit = false := by simpa using c1
      rw [d2] at hn
      simp [b_law_good_route, b_law_good_route_i1, len_str, g1, hd, hn, -gtD_int]
  have c1 := Decidable.not_not.mp c1
  have c1' := c1
  unfold isPfx at c1'
  rw [Bool.and_eq_true] at c1'
  rw [c1'.1] at g1
  rw [c1'.2] at hn
  have i1 : b_law_good_route_i1 [some (.tup [.str q.pfx, .tup (q.path.map D.int), .int q.weight, .tup (q.tags.map D.int)]), some (.str q.pfx), some (.tup (q.path.map D.int)), some (.int q.weight), some (.tup (q.tags.map D.int)), none] st = .nx [some (.tup [.str q.pfx, .tup (q.path.map D.int), .int q.weight, .tup (q.tags.map D.int)]), some (.str q.pfx), some (.tup (q.path.map D.int)), some (.int q.weight), some (.tup (q.tags.map D.int)), none] st := by
    simp [b_law_good_route_i1, len_str, g1, hd, hn, -gtD_int]
  -- the path, the weight
  have e0 := eq_tupNil q.path st
  have g2 : gtD (.int (q.path.length : Int)) (.int 12) st = .ok (.bl (!decide (q.path.length ≤ 12))) st := gt_len q.path.length 12 st
  have lt := len_tup (q.path.map D.int) st
  rw [List.length_map] at lt
  have key2 : ∃ b : Bool, b_law_good_route_i2 [some (.tup [.str q.pfx, .tup (q.path.map D.int), .int q.weight, .tup (q.tags.map D.int)]), some (.str q.pfx), some (.tup (q.path.map D.int)), some (.int q.weight), some (.tup (q.tags.map D.int)), none] st = (if b = true then .nx [some (.tup [.str q.pfx, .tup (q.path.map D.int), .int q.weight, .tup (q.tags.map D.int)]), some (.str q.pfx), some (.tup (q.path.map D.int)), some (.int q.weight), some (.tup (q.tags.map D.int)), none] st else .rt (.bl false) st) ∧ (b = true ↔ ((1 ≤ q.path.length ∧ q.path.length ≤ 12) ∧ q.path.all (inB1 1 999) = true) ∧ inB1 0 1000 q.weight = true) := by
    cases hpth : q.path with
    | nil =>
      rw [hpth] at e0
      refine ⟨false, ?_, by simp⟩
      have e0 : eqD (.tup (([] : List Int).map D.int)) (.tup []) st = .ok (.bl true) st := e0
      generalize ([] : List Int).map D.int = pd at *
      simp [b_law_good_route_i2, e0]
    | cons n rest =>
      rw [hpth] at e0 g2 lt
      have e0 : eqD (.tup ((n :: rest).map D.int)) (.tup []) st = .ok (.bl false) st := e0
      have b1 := best_tup min n rest st
      have b2 := best_tup max n rest st
      have m1 := fold_min rest n 1
      have m2 := fold_max rest n 999
      have al : (n :: rest).all (inB1 1 999) = (decide (1 ≤ rest.foldl min n) && decide (rest.foldl max n ≤ 999)) := by
        rw [Bool.eq_iff_iff, Bool.and_eq_true, decide_eq_true_eq, decide_eq_true_eq, m1, m2, List.all_eq_true]
        constructor
        · intro h
          have h0 := h n List.mem_cons_self
          unfold inB1 at h0
          rw [Bool.and_eq_true, decide_eq_true_eq, decide_eq_true_eq] at h0
          refine ⟨⟨h0.1, fun x hx => ?_⟩, h0.2, fun x hx => ?_⟩
          all_goals
            have h1 := h x (List.mem_cons_of_mem _ hx)
            unfold inB1 at h1
            rw [Bool.and_eq_true, decide_eq_true_eq, decide_eq_true_eq] at h1
          · exact h1.1
          · exact h1.2
        · rintro ⟨⟨a1, a2⟩, a3, a4⟩ x hx
          unfold inB1
          rw [Bool.and_eq_true, decide_eq_true_eq, decide_eq_true_eq]
          rcases List.mem_cons.mp hx with rfl | hx
          · exact ⟨a1, a3⟩
          · exact ⟨a2 x hx, a4 x hx⟩
      rw [al]
      generalize rest.foldl min n = mn at *
      generalize rest.foldl max n = mx at *
      have w1 : ltD (.int q.weight) (.int 0) st = .ok (.bl (decide (q.weight < 0))) st := ltD_int _ _ _
      have w2 : gtD (.int q.weight) (.int 1000) st = .ok (.bl (decide (q.weight > 1000))) st := gtD_int _ _ _
      have l1 : ltD (.int mn) (.int 1) st = .ok (.bl (decide (mn < 1))) st := ltD_int _ _ _
      have l2 : gtD (.int mx) (.int 999) st = .ok (.bl (decide (mx > 999))) st := gtD_int _ _ _
      have hlen : (n :: rest).length = rest.length + 1 := rfl
      rw [hlen] at g2 lt ⊢
      have hL1 : 1 ≤ rest.length + 1 := by omega
      generalize rest.length + 1 = L at *
      generalize (n :: rest).map D.int = pd at *
      have iw : inB1 0 1000 q.weight = (!decide (q.weight < 0) && !decide (q.weight > 1000)) := by
        unfold inB1; rw [Bool.eq_iff_iff]; simp
      have i1' : decide (1 ≤ mn) = !decide (mn < 1) := by rw [Bool.eq_iff_iff]; simp
      have i2' : decide (mx ≤ 999) = !decide (mx > 999) := by rw [Bool.eq_iff_iff]; simp
      rw [iw, i1', i2']
      refine ⟨decide (L ≤ 12) && (!decide (mn < 1) && !decide (mx > 999)) && (!decide (q.weight < 0) && !decide (q.weight > 1000)), ?_, ?_⟩
      · generalize decide (q.weight < 0) = x1 at *
        generalize decide (q.weight > 1000) = x2 at *
        generalize decide (mn < 1) = x3 at *
        generalize decide (mx > 999) = x4 at *
        generalize decide (L ≤ 12) = x5 at *
        cases x5
        · simp [b_law_good_route_i2, e0, lt, g2, -gtD_int, -ltD_int]
        cases x3
        case true => simp [b_law_good_route_i2, e0, lt, g2, b1, l1, -gtD_int, -ltD_int]
        cases x4
        case true => simp [b_law_good_route_i2, e0, lt, g2, b1, b2, l1, l2, -gtD_int, -ltD_int]
        cases x1
        case true => simp [b_law_good_route_i2, e0, lt, g2, b1, b2, l1, l2, w1, -gtD_int, -ltD_int]
        cases x2 <;> simp [b_law_good_route_i2, e0, lt, g2, b1, b2, l1, l2, w1, w2, -gtD_int, -ltD_int]
      · simp <;> omega
  obtain ⟨bb, k2, kb⟩ := key2
  cases bb with
  | false =>
    rw [if_neg (by decide)] at k2
    rw [decide_eq_false fun h => by have := kb.mpr ⟨h.path, h.weight⟩; cases this]
    generalize q.path.map D.int = pd at *
    generalize q.tags.map D.int = td at *
    simp [b_law_good_route, i1, k2]
  | true =>
    rw [if_pos rfl] at k2
    have kp := kb.mp rfl
    -- the tags
    have lt3 := len_tup (q.tags.map D.int) st
    rw [List.length_map] at lt3
    have g3 : gtD (.int (q.tags.length : Int)) (.int 4) st = .ok (.bl (!decide (q.tags.length ≤ 4))) st := gt_len q.tags.length 4 st
    have l3 : listAD false [.tup (q.tags.map D.int)] st = .ok (.lst (q.tags.map D.int)) st := rfl
    have e3 := eq_tupNil q.tags st
    by_cases c4 : ¬ q.tags.length ≤ 4
    · rw [decide_eq_false c4] at g3
      rw [decide_eq_false fun h => by
        have := h.tags
        unfold tagsB at this
        rw [decide_eq_false c4] at this
        simp at this]
      generalize q.path.map D.int = pd at *
      generalize q.tags.map D.int = td at *
      simp [b_law_good_route, b_law_good_route_i3, i1, k2, lt3, g3, -gtD_int]
    have c4 := Decidable.not_not.mp c4
    rw [decide_eq_true c4] at g3
    have s3 := ss_ints q.tags (by omega) st
    have n3 := ne_intsL q.tags (srtI (once q.tags)) st
    rw [ss_rising] at n3
    generalize (srtI (once q.tags)).map D.int = sd at *
    by_cases c5 : ¬ risingB q.tags = true
    · rw [Bool.not_eq_true _ |>.mp c5] at n3
      rw [decide_eq_false fun h => by
        have := h.tags
        unfold tagsB at this
        rw [Bool.not_eq_true _ |>.mp c5] at this
        simp at this]
      generalize q.path.map D.int = pd at *
      generalize q.tags.map D.int = td at *
      simp [b_law_good_route, b_law_good_route_i3, i1, k2, lt3, g3, l3, s3, n3, -gtD_int]
    have c5 := Decidable.not_not.mp c5
    rw [c5] at n3
    have hgood : decide (GoodRoute q) = q.tags.all (inB1 1 99) := by
      rw [Bool.eq_iff_iff, decide_eq_true_eq, good_iff]
      unfold tagsB
      rw [decide_eq_true c4, c5]
      simp only [Bool.true_and, Bool.and_true]
      exact ⟨fun h => h.2.2.2, fun h => ⟨c1, kp.1, kp.2, h⟩⟩
    rw [hgood]
    rcases tag_ends c4 c5 st with e | ⟨a, z, x1, x2, x3⟩
    · have e3 : eqD (.tup (q.tags.map D.int)) (.tup []) st = .ok (.bl true) st := by rw [e] at e3 ⊢; exact e3
      have ht : q.tags.all (inB1 1 99) = true := by rw [e]; rfl
      rw [ht]
      generalize q.path.map D.int = pd at *
      generalize q.tags.map D.int = td at *
      simp [b_law_good_route, b_law_good_route_i3, i1, k2, lt3, g3, l3, s3, n3, e3, -gtD_int]
    · rw [x3]
      have l4 : gtD (.int a) (.int 0) st = .ok (.bl (decide (a > 0))) st := gtD_int _ _ _
      have l5 : ltD (.int z) (.int 100) st = .ok (.bl (decide (z < 100))) st := ltD_int _ _ _
      have e4 : q.tags.isEmpty = false := by
        cases ht : q.tags with
        | nil => rw [ht] at x1; cases x1
        | cons _ _ => rfl
      rw [e4] at e3
      generalize decide (a > 0) = y1 at *
      generalize decide (z < 100) = y2 at *
      generalize q.path.map D.int = pd at *
      generalize q.tags.map D.int = td at *
      cases y1 <;> cases y2 <;> simp [b_law_good_route, b_law_good_route_i3, i1, k2, lt3, g3, l3, s3, n3, e3, x1, x2, l4, l5, -gtD_int, -ltD_int]
end DL

/-! K10B: the law's own look at a rule. -/
namespace DL
open PySem PySem.Spec PyProof.Rows L2
theorem rule_loop {re me : D} {st : Sto} (a3 : Option D) : ∀ (ts : List (Int × Int × Int)) (a2 : Option D), (∀ t ∈ ts, ixD re (.int t.1) st = .ok (.int t.2.1) st ∧ ixD me (.int (t.1 - 1)) st = .ok (.int t.2.2) st) →
    ∃ b2, loopL (tgN 2) b_law_good_rule_l1 (ts.map fun t => D.int t.1) [some re, some me, a2, a3] st = if ts.all (fun t => inB1 0 t.2.2 t.2.1) = true then .nx [some re, some me, b2, a3] st else .rt (.bl false) st
  | [], a2, _ => ⟨a2, rfl⟩
  | t :: ts, a2, h => by
    obtain ⟨x1, x2⟩ := h t List.mem_cons_self
    obtain ⟨b2, ih⟩ := rule_loop a3 ts (some (.int t.1)) fun x hx => h x (List.mem_cons_of_mem _ hx)
    have l1 : ltD (.int t.2.1) (.int 0) st = .ok (.bl (decide (t.2.1 < 0))) st := ltD_int _ _ _
    have l2 : gtD (.int t.2.1) (.int t.2.2) st = .ok (.bl (decide (t.2.1 > t.2.2))) st := gtD_int _ _ _
    have s1 : subI (.int t.1) (.int 1) st = .ok (.int (t.1 - 1)) st := rfl
    have e : inB1 0 t.2.2 t.2.1 = (!decide (t.2.1 < 0) && !decide (t.2.1 > t.2.2)) := by
      unfold inB1; rw [Bool.eq_iff_iff]; simp
    rw [List.all_cons, e, List.map_cons]
    refine ⟨b2, ?_⟩
    cases y1 : decide (t.2.1 < 0) with
    | true =>
      rw [y1] at l1
      rw [loopN_rt (x := .bl false)]
      · rfl
      · simp [b_law_good_rule_l1, b_law_good_rule_i2, x1, l1, -ltD_int]
    | false =>
      rw [y1] at l1
      cases y2 : decide (t.2.1 > t.2.2) with
      | true =>
        rw [y2] at l2
        rw [loopN_rt (x := .bl false)]
        · rfl
        · simp [b_law_good_rule_l1, b_law_good_rule_i2, x1, x2, s1, l1, l2, -ltD_int, -gtD_int]
      | false =>
        rw [y2] at l2
        rw [loopN_nx (e := [some re, some me, some (.int t.1), a3]) (s := st)]
        · rw [ih]; rfl
        · simp [b_law_good_rule_l1, b_law_good_rule_i2, x1, x2, s1, l1, l2, -ltD_int, -gtD_int]
theorem good_rule_ok {r : RuleS} (h1 : r.pfx.length ≤ 1000) (st : Sto) : fn_law_good_rule [r.enc] st = .ok (.bl (goodRuleB r)) st := by
  refine Fn.clean_same ?_ rfl
  have hc : compL (tgN 3) b_law_good_rule_t1 b_law_good_rule_c1 [some r.enc, none, none, none] (r.pfx.cps.toList.map fun c => D.str ⟨#[c]⟩) st = .ok ((badS r.pfx).map fun c => D.str ⟨#[c]⟩) st :=
    compL_filter (fun c => D.str ⟨#[c]⟩) (fun c => !isBit c) (fun c => D.str ⟨#[c]⟩) _ (fun c _ => by
      have e0 := sign_eq c
      have e1 := sign_eq1 c
      cases c0 : (c == 48) <;> cases c1 : (c == 49) <;> rw [c0] at e0 <;> rw [c1] at e1 <;> simp [b_law_good_rule_t1, e0, e1, isBit, c0, c1]) fun c _ _ => by simp [b_law_good_rule_c1]
  have x0 : ixD r.enc (.int 0) st = .ok (.str r.pfx) st := rfl
  have hd := dComp_of (vs := [3]) (src := dIterA (dB ixD (dV 0) (dC (.int 0)))) (tg := tgN 3) (t := b_law_good_rule_t1) (f := b_law_good_rule_c1) (env := [some r.enc, none, none, none]) (st := st) (st1 := st) (by simp [x0, asAny, signs]) hc (by
    rw [List.length_map]
    have : (badS r.pfx).length ≤ r.pfx.cps.toList.length := List.length_filter_le _ _
    rw [← str_len] at this
    omega)
  have hn := ne_nilG ((badS r.pfx).map fun c => D.str ⟨#[c]⟩) (good_signs 39 _) st
  have ee : ((badS r.pfx).map fun c => D.str (⟨#[c]⟩ : Str)).isEmpty = r.pfx.cps.toList.all isBit := by rw [← bad_nil]; cases badS r.pfx <;> rfl
  rw [ee] at hn
  have g1 : gtD (.int (r.pfx.length : Int)) (.int 16) st = .ok (.bl (!decide (r.pfx.length ≤ 16))) st := gt_len r.pfx.length 16 st
  have i1 : b_law_good_rule_i1 [some r.enc, none, none, none] st = if isPfx r.pfx = true then .nx [some r.enc, none, none, none] st else .rt (.bl false) st := by
    unfold isPfx
    generalize ((badS r.pfx).map fun c => D.str ⟨#[c]⟩) = bl at *
    generalize r.enc = re at *
    cases d1 : decide (r.pfx.length ≤ 16) with
    | false =>
      rw [d1] at g1
      simp [b_law_good_rule_i1, x0, len_str, g1, -gtD_int]
    | true =>
      rw [d1] at g1
      cases d2 : r.pfx.cps.toList.all isBit <;> rw [d2] at hn <;> simp [b_law_good_rule_i1, x0, len_str, g1, hd, hn, -gtD_int]
  obtain ⟨b2, lp⟩ := rule_loop (re := r.enc) (me := .lst [.int 16, .int 999, .int 99, .int 0, .int 0, .int 99, .int 99, .int 3]) (st := st) none [(1, r.longest, 16), (2, r.number, 999), (3, r.tag, 99), (6, r.more, 99), (7, r.less, 99), (8, r.ahead, 3)] none fun t ht => by
    simp only [List.mem_cons, List.mem_nil_iff, or_false] at ht
    rcases ht with rfl | rfl | rfl | rfl | rfl | rfl <;> exact ⟨rfl, rfl⟩
  have lp : loopL (tgN 2) b_law_good_rule_l1 [.int 1, .int 2, .int 3, .int 6, .int 7, .int 8] [some r.enc, some (.lst [.int 16, .int 999, .int 99, .int 0, .int 0, .int 99, .int 99, .int 3]), none, none] st = _ := lp
  have x4 : ixD r.enc (.int 4) st = .ok (.str r.deed) st := rfl
  have x5 : ixD r.enc (.int 5) st = .ok (optD r.prefer) st := rfl
  have ind : inD (.str r.deed) (.lst [.str "no", .str "yes", .str "on"]) st = .ok (.bl (deedB r.deed)) st := rfl
  have pr : (dOrV (dB isD (dB ixD (dV 0) (dC (.int 5))) (dC .non)) (dAndV (dB geD (dB ixD (dV 0) (dC (.int 5))) (dC (.int 0))) (dB leD (dB ixD (dV 0) (dC (.int 5))) (dC (.int 1000))))) [some r.enc, some (.lst [.int 16, .int 999, .int 99, .int 0, .int 0, .int 99, .int 99, .int 3]), b2, none] st = .ok (.bl (prefB r.prefer)) st := by
    generalize r.enc = re at *
    cases hp : r.prefer with
    | none =>
      rw [hp] at x5
      have x5 : ixD re (.int 5) st = .ok .non st := x5
      have i0 : isD .non .non st = .ok (.bl true) st := rfl
      simp [x5, i0, prefB]
    | some i =>
      rw [hp] at x5
      have x5 : ixD re (.int 5) st = .ok (.int i) st := x5
      have i0 : isD (.int i) .non st = .ok (.bl false) st := rfl
      have w1 : geD (.int i) (.int 0) st = .ok (.bl (decide (i ≥ 0))) st := geD_int _ _ _
      have w2 : leD (.int i) (.int 1000) st = .ok (.bl (decide (i ≤ 1000))) st := leD_int _ _ _
      have e2 : prefB (some i) = (decide (i ≥ 0) && decide (i ≤ 1000)) := rfl
      rw [e2]
      generalize decide (i ≥ 0) = y1 at *
      generalize decide (i ≤ 1000) = y2 at *
      cases y1 <;> simp [x5, i0, w1, w2, -geD_int, -leD_int]
  unfold goodRuleB
  have e6 : ([(1, r.longest, 16), (2, r.number, 999), (3, r.tag, 99), (6, r.more, 99), (7, r.less, 99), (8, r.ahead, 3)] : List (Int × Int × Int)).all (fun t => inB1 0 t.2.2 t.2.1) = (inB1 0 16 r.longest && (inB1 0 999 r.number && (inB1 0 99 r.tag && (inB1 0 99 r.more && (inB1 0 99 r.less && inB1 0 3 r.ahead))))) := by simp
  rw [e6] at lp
  have e3 : [r.tag, r.more, r.less].all (inB1 0 99) = (inB1 0 99 r.tag && (inB1 0 99 r.more && inB1 0 99 r.less)) := by simp
  rw [e3]
  generalize inB1 0 16 r.longest = c1 at *
  generalize inB1 0 999 r.number = c2 at *
  generalize inB1 0 99 r.tag = c3 at *
  generalize inB1 0 99 r.more = c4 at *
  generalize inB1 0 99 r.less = c5 at *
  generalize inB1 0 3 r.ahead = c6 at *
  generalize isPfx r.pfx = c0 at *
  generalize prefB r.prefer = c7 at *
  generalize deedB r.deed = c8 at *
  have eb : (c0 && (c1 && c2) && ((c3 && (c4 && c5) && c8) && (c7 && c6))) = (c0 && ((c1 && (c2 && (c3 && (c4 && (c5 && c6))))) && (c8 && c7))) := by
    cases c0 <;> cases c1 <;> cases c2 <;> cases c3 <;> cases c4 <;> cases c5 <;> cases c6 <;> cases c7 <;> cases c8 <;> rfl
  rw [eb]
  generalize (c1 && (c2 && (c3 && (c4 && (c5 && c6))))) = cc at *
  generalize r.enc = re at *
  cases c0 with
  | false => simp [b_law_good_rule, i1]
  | true =>
    rw [if_pos rfl] at i1
    cases cc with
    | false =>
      rw [if_neg (by decide)] at lp
      simp [b_law_good_rule, i1, lp]
    | true =>
      rw [if_pos rfl] at lp
      cases c8 with
      | false => simp [b_law_good_rule, i1, lp, x4, ind]
      | true =>
        have pr2 := pr
        simp only [dOrV_def] at pr
        simp [b_law_good_rule, i1, lp, x4, ind, -dOrV_def, pr2]
end DL

/-! K10C: parts out of their bounds. -/
namespace DL
open PySem PySem.Spec PyProof.Rows L2
def SmallR (q : RouteS) : Prop := q.pfx.length ≤ 1000 ∧ q.path.length ≤ 1000 ∧ q.tags.length ≤ 1000
theorem spoilt_route_ok {q : RouteS} (h1 : q.pfx.length ≤ 16) (h2 : q.path ≠ [] ∧ q.path.length ≤ 12) (h3 : q.tags.length ≤ 4) (m : Int) (st : Sto) : ∃ q' : RouteS, fn_law_spoilt_route [.int m, q.enc] st = .ok q'.enc st ∧ SmallR q' := by
  have fin : ∀ q' : RouteS, runF 8 b_law_spoilt_route [.int m, q.enc] st = .ok q'.enc st → fn_law_spoilt_route [.int m, q.enc] st = .ok q'.enc st := fun q' h => Fn.clean_same h (route_noLoc _ _)
  have hsm : SmallR q := ⟨by omega, by omega, by omega⟩
  have dM : divI (.int m) (.int 16) st = .ok (.int (m / 16)) st := divI_small (by decide) (by decide)
  have mW : modI (.int m) (.int 10) st = .ok (.int (m % 10)) st := modI_int (by decide)
  have hw := mod_lt (a := m) (show (0 : Int) < 10 by decide)
  generalize m % 10 = w at *
  generalize m / 16 = M at *
  have e : ∀ k : Int, eqD (.int w) (.int k) st = .ok (.bl (w == k)) st := fun k => eqD_int _ _ _
  obtain ⟨pfx, path, wt, tags⟩ := q
  have h1 : pfx.length ≤ 16 := h1
  have h2 : path ≠ [] ∧ path.length ≤ 12 := h2
  have h3 : tags.length ≤ 4 := h3
  have he : ∀ (p : Str) (pa : List Int) (x : Int) (ts : List Int), (RouteS.mk p pa x ts).enc = .tup [.str p, .tup (pa.map D.int), .int x, .tup (ts.map D.int)] := fun _ _ _ _ => rfl
  have ws : w = 0 ∨ w = 1 ∨ w = 2 ∨ w = 3 ∨ w = 4 ∨ w = 5 ∨ w = 6 ∨ w = 7 ∨ w = 8 ∨ w = 9 := by omega
  rcases ws with rfl | rfl | rfl | rfl | rfl | rfl | rfl | rfl | rfl | rfl
  · -- 0: the prefix
    have r17 : mulD (.str "0") (.int 17) st = .ok (.str (strRep "0" 17)) st := nrfl rfl
    have l17 : (strRep "0" 17).length ≤ 100 := by decide
    have c15 : slD (.str pfx) none (some 15) st = .ok (.str (cutS pfx none (some 15))) st := rfl
    have l15 := cutS_length pfx none (some 15)
    generalize cutS pfx none (some 15) = c15s at *
    generalize strRep "0" 17 = z17 at *
    have a1 : addD (.str pfx) (.str z17) st = .ok (.str (pfx ++ z17)) st := addD_str (by omega)
    have l2 : ("2" : Str).length ≤ 10 := by decide
    have a2 : addD (.str c15s) (.str "2") st = .ok (.str (c15s ++ "2")) st := addD_str (by omega)
    have h5 := mod_lt (a := M) (show (0 : Int) < 5 by decide)
    obtain ⟨p, hp, xp⟩ := pickE D.str (as := [pfx ++ z17, c15s ++ "2", "x", " 0", "O1"]) (i := M % 5) st h5.1 (by simpa using h5.2)
    have xp : ixD (.lst [.str (pfx ++ z17), .str (c15s ++ "2"), .str "x", .str " 0", .str "O1"]) (.int (M % 5)) st = .ok (.str p) st := xp
    have m5 : modI (.int M) (.int 5) st = .ok (.int (M % 5)) st := modI_int (by decide)
    have hl : p.length ≤ 1000 := by
      have e1 := str_app_len pfx z17
      have e2 := str_app_len c15s "2"
      simp only [List.mem_cons, List.mem_nil_iff, or_false] at hp
      rcases hp with rfl | rfl | rfl | rfl | rfl
      · omega
      · omega
      all_goals decide
    refine ⟨⟨p, path, wt, tags⟩, fin _ ?_, hl, by show path.length ≤ 1000; omega, by show tags.length ≤ 1000; omega⟩
    rw [he, he]
    generalize path.map D.int = pd at *
    generalize tags.map D.int = td at *
    generalize pfx ++ z17 = s1 at *
    generalize c15s ++ "2" = s2 at *
    simp [b_law_spoilt_route, b_law_spoilt_route_i1, dM, mW, e, r17, c15, a1, a2, xp, m5, -eqD_int]
  · -- 1: no path
    refine ⟨⟨pfx, [], wt, tags⟩, fin _ ?_, by show pfx.length ≤ 1000; omega, Nat.zero_le _, by show tags.length ≤ 1000; omega⟩
    rw [he, he]
    show _ = Rs.ok (D.tup [.str pfx, .tup [], .int wt, .tup (tags.map D.int)]) st
    generalize path.map D.int = pd at *
    generalize tags.map D.int = td at *
    simp [b_law_spoilt_route, b_law_spoilt_route_i1, b_law_spoilt_route_i2, dM, mW, e, -eqD_int]
  · -- 2: a long path
    have r12 : mulD (.tup [.int 5]) (.int 12) st = .ok (.tup ((List.replicate 12 (5 : Int)).map D.int)) st := nrfl rfl
    have a1 : addD (.tup (path.map D.int)) (.tup ((List.replicate 12 (5 : Int)).map D.int)) st = .ok (.tup ((path ++ List.replicate 12 5).map D.int)) st := by
      rw [addD_tup (by simp; omega), List.map_append]
    refine ⟨⟨pfx, path ++ List.replicate 12 5, wt, tags⟩, fin _ ?_, by show pfx.length ≤ 1000; omega, by show (path ++ List.replicate 12 (5 : Int)).length ≤ 1000; simp; omega, by show tags.length ≤ 1000; omega⟩
    rw [he, he]
    generalize (path ++ List.replicate 12 5).map D.int = pd2 at *
    generalize (List.replicate 12 (5 : Int)).map D.int = rd at *
    generalize path.map D.int = pd at *
    generalize tags.map D.int = td at *
    simp [b_law_spoilt_route, b_law_spoilt_route_i1, b_law_spoilt_route_i2, b_law_spoilt_route_i3, dM, mW, e, r12, a1, -eqD_int]
  · -- 3: a number of the path
    have hpl : 0 < path.length := List.length_pos_iff.mpr h2.1
    have ln := len_tup (path.map D.int) st
    rw [List.length_map] at ln
    have mL : modI (.int M) (.int (path.length : Int)) st = .ok (.int (M % (path.length : Int))) st := modI_int (by omega)
    have ha := mod_lt (a := M) (show (0 : Int) < (path.length : Int) by omega)
    generalize M % (path.length : Int) = a at *
    have s1 : slD (.tup (path.map D.int)) none (some a) st = .ok (.tup ((path.take a.toNat).map D.int)) st := by
      show Rs.ok (D.tup (cutD _ _ _)) st = _
      rw [cutD_to _ ha.1, List.map_take]
    have s2 : slD (.tup (path.map D.int)) (some (a + 1)) none st = .ok (.tup ((path.drop (a + 1).toNat).map D.int)) st := by
      show Rs.ok (D.tup (cutD _ _ _)) st = _
      rw [cutD_from _ (by omega), List.map_drop]
    have d16 : divI (.int M) (.int 16) st = .ok (.int (M / 16)) st := divI_small (by decide) (by decide)
    have m4 : modI (.int (M / 16)) (.int 4) st = .ok (.int (M / 16 % 4)) st := modI_int (by decide)
    have h4 := mod_lt (a := M / 16) (show (0 : Int) < 4 by decide)
    obtain ⟨x, hx, xx⟩ := pickE D.int (as := [0, 1000, -1, 1000000000]) (i := M / 16 % 4) st h4.1 (by simpa using h4.2)
    have xx : ixD (.lst [.int 0, .int 1000, .int (-1), .int 1000000000]) (.int (M / 16 % 4)) st = .ok (.int x) st := xx
    have p9 : powI (.int 10) (.int 9) st = .ok (.int 1000000000) st := powI_int (by decide) (by decide) (by decide)
    have a1 : addD (.tup ((path.take a.toNat).map D.int)) (.tup [.int x]) st = .ok (.tup ((path.take a.toNat ++ [x]).map D.int)) st := by
      rw [addD_tup (by simp; omega), List.map_append]; rfl
    have a2 : addD (.tup ((path.take a.toNat ++ [x]).map D.int)) (.tup ((path.drop (a + 1).toNat).map D.int)) st = .ok (.tup ((path.take a.toNat ++ [x] ++ path.drop (a + 1).toNat).map D.int)) st := by
      rw [addD_tup (by simp; omega), ← List.map_append]
    refine ⟨⟨pfx, path.take a.toNat ++ [x] ++ path.drop (a + 1).toNat, wt, tags⟩, fin _ ?_, by show pfx.length ≤ 1000; omega, by show (path.take a.toNat ++ [x] ++ path.drop (a + 1).toNat).length ≤ 1000; simp; omega, by show tags.length ≤ 1000; omega⟩
    rw [he, he]
    generalize (path.take a.toNat ++ [x] ++ path.drop (a + 1).toNat).map D.int = pd3 at *
    generalize (path.take a.toNat ++ [x]).map D.int = pd2 at *
    generalize (path.take a.toNat).map D.int = pd1 at *
    generalize (path.drop (a + 1).toNat).map D.int = pd0 at *
    generalize path.map D.int = pd at *
    generalize tags.map D.int = td at *
    simp [b_law_spoilt_route, b_law_spoilt_route_i1, b_law_spoilt_route_i2, b_law_spoilt_route_i3, b_law_spoilt_route_i4, dM, mW, e, ln, mL, s1, s2, d16, m4, xx, p9, a1, a2, -eqD_int]
  · -- 4: the weight
    have m4 : modI (.int M) (.int 4) st = .ok (.int (M % 4)) st := modI_int (by decide)
    have h4 := mod_lt (a := M) (show (0 : Int) < 4 by decide)
    obtain ⟨x, hx, xx⟩ := pickE D.int (as := [-1, 1001, 1000000000000, -5]) (i := M % 4) st h4.1 (by simpa using h4.2)
    have xx : ixD (.lst [.int (-1), .int 1001, .int 1000000000000, .int (-5)]) (.int (M % 4)) st = .ok (.int x) st := xx
    have p9 : powI (.int 10) (.int 12) st = .ok (.int 1000000000000) st := powI_int (by decide) (by decide) (by decide)
    refine ⟨⟨pfx, path, x, tags⟩, fin _ ?_, by show pfx.length ≤ 1000; omega, by show path.length ≤ 1000; omega, by show tags.length ≤ 1000; omega⟩
    rw [he, he]
    generalize path.map D.int = pd at *
    generalize tags.map D.int = td at *
    simp [b_law_spoilt_route, b_law_spoilt_route_i1, b_law_spoilt_route_i2, b_law_spoilt_route_i3, b_law_spoilt_route_i4, b_law_spoilt_route_i5, dM, mW, e, m4, xx, p9, -eqD_int]
  · -- 5: two tags more
    have a1 : addD (.tup (tags.map D.int)) (.tup [.int 99, .int 99]) st = .ok (.tup ((tags ++ [99, 99]).map D.int)) st := by
      rw [addD_tup (by simp; omega), List.map_append]; rfl
    refine ⟨⟨pfx, path, wt, tags ++ [99, 99]⟩, fin _ ?_, by show pfx.length ≤ 1000; omega, by show path.length ≤ 1000; omega, by show (tags ++ [99, 99]).length ≤ 1000; simp; omega⟩
    rw [he, he]
    generalize (tags ++ [99, 99]).map D.int = td2 at *
    generalize path.map D.int = pd at *
    generalize tags.map D.int = td at *
    simp [b_law_spoilt_route, b_law_spoilt_route_i1, b_law_spoilt_route_i2, b_law_spoilt_route_i3, b_law_spoilt_route_i4, b_law_spoilt_route_i5, b_law_spoilt_route_i6, dM, mW, e, a1, -eqD_int]
  · -- 6: other tags
    have m6 : modI (.int M) (.int 6) st = .ok (.int (M % 6)) st := modI_int (by decide)
    have h6 := mod_lt (a := M) (show (0 : Int) < 6 by decide)
    obtain ⟨ts, hts, xx⟩ := pickE (fun ts : List Int => D.tup (ts.map D.int)) (as := [[2, 1], [0, 3], [5, 100], [1, 3, 2], [-1], [7, 7]]) (i := M % 6) st h6.1 (by simpa using h6.2)
    have xx : ixD (.lst [.tup [.int 2, .int 1], .tup [.int 0, .int 3], .tup [.int 5, .int 100], .tup [.int 1, .int 3, .int 2], .tup [.int (-1)], .tup [.int 7, .int 7]]) (.int (M % 6)) st = .ok (.tup (ts.map D.int)) st := xx
    have hl : ts.length ≤ 1000 := by
      simp only [List.mem_cons, List.mem_nil_iff, or_false] at hts
      rcases hts with rfl | rfl | rfl | rfl | rfl | rfl <;> decide
    refine ⟨⟨pfx, path, wt, ts⟩, fin _ ?_, by show pfx.length ≤ 1000; omega, by show path.length ≤ 1000; omega, hl⟩
    rw [he, he]
    generalize ts.map D.int = td2 at *
    generalize path.map D.int = pd at *
    generalize tags.map D.int = td at *
    simp [b_law_spoilt_route, b_law_spoilt_route_i1, b_law_spoilt_route_i2, b_law_spoilt_route_i3, b_law_spoilt_route_i4, b_law_spoilt_route_i5, b_law_spoilt_route_i6, b_law_spoilt_route_i7, dM, mW, e, m6, xx, -eqD_int]
  · -- 7: five tags
    refine ⟨⟨pfx, path, wt, [1, 2, 3, 4, 5]⟩, fin _ ?_, by show pfx.length ≤ 1000; omega, by show path.length ≤ 1000; omega, by show ([1, 2, 3, 4, 5] : List Int).length ≤ 1000; decide⟩
    rw [he, he]
    show _ = Rs.ok (D.tup [.str pfx, .tup (path.map D.int), .int wt, .tup [.int 1, .int 2, .int 3, .int 4, .int 5]]) st
    generalize path.map D.int = pd at *
    generalize tags.map D.int = td at *
    simp [b_law_spoilt_route, b_law_spoilt_route_i1, b_law_spoilt_route_i2, b_law_spoilt_route_i3, b_law_spoilt_route_i4, b_law_spoilt_route_i5, b_law_spoilt_route_i6, b_law_spoilt_route_i7, b_law_spoilt_route_i8, dM, mW, e, -eqD_int]
  all_goals
    refine ⟨⟨pfx, path, wt, tags⟩, fin _ ?_, hsm⟩
    rw [he]
    generalize path.map D.int = pd at *
    generalize tags.map D.int = td at *
    simp [b_law_spoilt_route, b_law_spoilt_route_i1, b_law_spoilt_route_i2, b_law_spoilt_route_i3, b_law_spoilt_route_i4, b_law_spoilt_route_i5, b_law_spoilt_route_i6, b_law_spoilt_route_i7, b_law_spoilt_route_i8, dM, mW, e, -eqD_int]
end DL

/-! K10D: a rule with a part out of its bounds. -/
namespace DL
open PySem PySem.Spec PyProof.Rows L2
theorem spoilt_rule_ok {r : RuleS} (h1 : r.pfx.length ≤ 16) (m : Int) (st : Sto) : ∃ r' : RuleS, fn_law_spoilt_rule [.int m, r.enc] st = .ok r'.enc st ∧ r'.pfx.length ≤ 1000 := by
  have fin : ∀ r' : RuleS, runF 4 b_law_spoilt_rule [.int m, r.enc] st = .ok r'.enc st → fn_law_spoilt_rule [.int m, r.enc] st = .ok r'.enc st := fun r' h => Fn.clean_same h (rule_noLoc _ _)
  have dM : divI (.int m) (.int 16) st = .ok (.int (m / 16)) st := divI_small (by decide) (by decide)
  have mW : modI (.int m) (.int 10) st = .ok (.int (m % 10)) st := modI_int (by decide)
  have hw := mod_lt (a := m) (show (0 : Int) < 10 by decide)
  generalize m % 10 = w at *
  generalize m / 16 = M at *
  have m2 : modI (.int M) (.int 2) st = .ok (.int (M % 2)) st := modI_int (by decide)
  have h2 := mod_lt (a := M) (show (0 : Int) < 2 by decide)
  generalize M % 2 = j at *
  have e : ∀ k : Int, eqD (.int w) (.int k) st = .ok (.bl (w == k)) st := fun k => eqD_int _ _ _
  have r17 : mulD (.str "0") (.int 17) st = .ok (.str (strRep "0" 17)) st := nrfl rfl
  have l17 : (strRep "0" 17).length ≤ 100 := by decide
  generalize strRep "0" 17 = z17 at *
  obtain ⟨pfx, lon, num, tag, deed, pref, mo, le, ah⟩ := r
  have h1 : pfx.length ≤ 16 := h1
  have he : ∀ (a : Str) (b c d : Int) (e : Str) (f : Option Int) (g h i : Int), (RuleS.mk a b c d e f g h i).enc = .tup [.str a, .int b, .int c, .int d, .str e, optD f, .int g, .int h, .int i] := fun _ _ _ _ _ _ _ _ _ => rfl
  have a9 : addD (.lst [.lst [.str "2", .str z17], .lst [.int (-1), .int 17], .lst [.int (-1), .int 1000], .lst [.int (-1), .int 100], .lst [.str "", .str "yes "], .lst [.int (-1), .int 1001]]) (.lst [.lst [.int 100, .int (-1)], .lst [.int (-1), .int 100], .lst [.int 4, .int (-1)]]) st = .ok (.lst [.lst [.str "2", .str z17], .lst [.int (-1), .int 17], .lst [.int (-1), .int 1000], .lst [.int (-1), .int 100], .lst [.str "", .str "yes "], .lst [.int (-1), .int 1001], .lst [.int 100, .int (-1)], .lst [.int (-1), .int 100], .lst [.int 4, .int (-1)]]) st := addD_lst (by simp)
  have ws : w = 0 ∨ w = 1 ∨ w = 2 ∨ w = 3 ∨ w = 4 ∨ w = 5 ∨ w = 6 ∨ w = 7 ∨ w = 8 ∨ w = 9 := by omega
  rcases ws with rfl | rfl | rfl | rfl | rfl | rfl | rfl | rfl | rfl | rfl
  · have x1 : ixD (.lst [.lst [.str "2", .str z17], .lst [.int (-1), .int 17], .lst [.int (-1), .int 1000], .lst [.int (-1), .int 100], .lst [.str "", .str "yes "], .lst [.int (-1), .int 1001], .lst [.int 100, .int (-1)], .lst [.int (-1), .int 100], .lst [.int 4, .int (-1)]]) (.int 0) st = .ok (.lst [.str "2", .str z17]) st := ixD_lst (by rw [show (0 : Int) = ((0 : Nat) : Int) from rfl, atI_nat' 0 (by simp)]; rfl)
    obtain ⟨x, hx, xx⟩ := pickE D.str (as := ["2", z17]) (i := j) st h2.1 (by simpa using h2.2)
    have xx : ixD (.lst [.str "2", .str z17]) (.int j) st = .ok (.str x) st := xx
    have s1 : slD (.tup [.str pfx, .int lon, .int num, .int tag, .str deed, optD pref, .int mo, .int le, .int ah]) none (some 0) st = .ok (.tup []) st := by
      show Rs.ok (D.tup (cutD _ _ _)) st = _
      rw [cutD_to _ (by decide)]; rfl
    have s2 : slD (.tup [.str pfx, .int lon, .int num, .int tag, .str deed, optD pref, .int mo, .int le, .int ah]) (some 1) none st = .ok (.tup [.int lon, .int num, .int tag, .str deed, optD pref, .int mo, .int le, .int ah]) st := by
      show Rs.ok (D.tup (cutD _ _ _)) st = _
      rw [cutD_from _ (by decide)]; rfl
    have a1 : addD (.tup []) (.tup [.str x]) st = .ok (.tup [.str x]) st := addD_tup (by simp)
    have a2 : addD (.tup [.str x]) (.tup [.int lon, .int num, .int tag, .str deed, optD pref, .int mo, .int le, .int ah]) st = .ok (.tup [.str x, .int lon, .int num, .int tag, .str deed, optD pref, .int mo, .int le, .int ah]) st := addD_tup (by simp)
    have hl : x.length ≤ 1000 := by
      simp only [List.mem_cons, List.mem_nil_iff, or_false] at hx
      rcases hx with rfl | rfl
      · decide
      · omega
    refine ⟨⟨x, lon, num, tag, deed, pref, mo, le, ah⟩, fin _ ?_, hl⟩
    rw [he, he]
    generalize optD pref = op at *
    have ad : addD (.int 0) (.int 1) st = .ok (.int 1) st := rfl
    simp [b_law_spoilt_rule, b_law_spoilt_rule_i1, dM, mW, e, r17, a9, x1, m2, xx, s1, s2, a1, a2, -eqD_int]
  · have x1 : ixD (.lst [.lst [.str "2", .str z17], .lst [.int (-1), .int 17], .lst [.int (-1), .int 1000], .lst [.int (-1), .int 100], .lst [.str "", .str "yes "], .lst [.int (-1), .int 1001], .lst [.int 100, .int (-1)], .lst [.int (-1), .int 100], .lst [.int 4, .int (-1)]]) (.int 1) st = .ok (.lst [.int (-1), .int 17]) st := ixD_lst (by rw [show (1 : Int) = ((1 : Nat) : Int) from rfl, atI_nat' 1 (by simp)]; rfl)
    obtain ⟨x, hx, xx⟩ := pickE D.int (as := [-1, 17]) (i := j) st h2.1 (by simpa using h2.2)
    have xx : ixD (.lst [.int (-1), .int 17]) (.int j) st = .ok (.int x) st := xx
    have s1 : slD (.tup [.str pfx, .int lon, .int num, .int tag, .str deed, optD pref, .int mo, .int le, .int ah]) none (some 1) st = .ok (.tup [.str pfx]) st := by
      show Rs.ok (D.tup (cutD _ _ _)) st = _
      rw [cutD_to _ (by decide)]; rfl
    have s2 : slD (.tup [.str pfx, .int lon, .int num, .int tag, .str deed, optD pref, .int mo, .int le, .int ah]) (some 2) none st = .ok (.tup [.int num, .int tag, .str deed, optD pref, .int mo, .int le, .int ah]) st := by
      show Rs.ok (D.tup (cutD _ _ _)) st = _
      rw [cutD_from _ (by decide)]; rfl
    have a1 : addD (.tup [.str pfx]) (.tup [.int x]) st = .ok (.tup [.str pfx, .int x]) st := addD_tup (by simp)
    have a2 : addD (.tup [.str pfx, .int x]) (.tup [.int num, .int tag, .str deed, optD pref, .int mo, .int le, .int ah]) st = .ok (.tup [.str pfx, .int x, .int num, .int tag, .str deed, optD pref, .int mo, .int le, .int ah]) st := addD_tup (by simp)
    refine ⟨⟨pfx, x, num, tag, deed, pref, mo, le, ah⟩, fin _ ?_, by show pfx.length ≤ 1000; omega⟩
    rw [he, he]
    generalize optD pref = op at *
    have ad : addD (.int 1) (.int 1) st = .ok (.int 2) st := rfl
    simp [b_law_spoilt_rule, b_law_spoilt_rule_i1, dM, mW, e, r17, a9, x1, m2, xx, s1, s2, a1, a2, -eqD_int]
  · have x1 : ixD (.lst [.lst [.str "2", .str z17], .lst [.int (-1), .int 17], .lst [.int (-1), .int 1000], .lst [.int (-1), .int 100], .lst [.str "", .str "yes "], .lst [.int (-1), .int 1001], .lst [.int 100, .int (-1)], .lst [.int (-1), .int 100], .lst [.int 4, .int (-1)]]) (.int 2) st = .ok (.lst [.int (-1), .int 1000]) st := ixD_lst (by rw [show (2 : Int) = ((2 : Nat) : Int) from rfl, atI_nat' 2 (by simp)]; rfl)
    obtain ⟨x, hx, xx⟩ := pickE D.int (as := [-1, 1000]) (i := j) st h2.1 (by simpa using h2.2)
    have xx : ixD (.lst [.int (-1), .int 1000]) (.int j) st = .ok (.int x) st := xx
    have s1 : slD (.tup [.str pfx, .int lon, .int num, .int tag, .str deed, optD pref, .int mo, .int le, .int ah]) none (some 2) st = .ok (.tup [.str pfx, .int lon]) st := by
      show Rs.ok (D.tup (cutD _ _ _)) st = _
      rw [cutD_to _ (by decide)]; rfl
    have s2 : slD (.tup [.str pfx, .int lon, .int num, .int tag, .str deed, optD pref, .int mo, .int le, .int ah]) (some 3) none st = .ok (.tup [.int tag, .str deed, optD pref, .int mo, .int le, .int ah]) st := by
      show Rs.ok (D.tup (cutD _ _ _)) st = _
      rw [cutD_from _ (by decide)]; rfl
    have a1 : addD (.tup [.str pfx, .int lon]) (.tup [.int x]) st = .ok (.tup [.str pfx, .int lon, .int x]) st := addD_tup (by simp)
    have a2 : addD (.tup [.str pfx, .int lon, .int x]) (.tup [.int tag, .str deed, optD pref, .int mo, .int le, .int ah]) st = .ok (.tup [.str pfx, .int lon, .int x, .int tag, .str deed, optD pref, .int mo, .int le, .int ah]) st := addD_tup (by simp)
    refine ⟨⟨pfx, lon, x, tag, deed, pref, mo, le, ah⟩, fin _ ?_, by show pfx.length ≤ 1000; omega⟩
    rw [he, he]
    generalize optD pref = op at *
    have ad : addD (.int 2) (.int 1) st = .ok (.int 3) st := rfl
    simp [b_law_spoilt_rule, b_law_spoilt_rule_i1, dM, mW, e, r17, a9, x1, m2, xx, s1, s2, a1, a2, -eqD_int]
  · have x1 : ixD (.lst [.lst [.str "2", .str z17], .lst [.int (-1), .int 17], .lst [.int (-1), .int 1000], .lst [.int (-1), .int 100], .lst [.str "", .str "yes "], .lst [.int (-1), .int 1001], .lst [.int 100, .int (-1)], .lst [.int (-1), .int 100], .lst [.int 4, .int (-1)]]) (.int 3) st = .ok (.lst [.int (-1), .int 100]) st := ixD_lst (by rw [show (3 : Int) = ((3 : Nat) : Int) from rfl, atI_nat' 3 (by simp)]; rfl)
    obtain ⟨x, hx, xx⟩ := pickE D.int (as := [-1, 100]) (i := j) st h2.1 (by simpa using h2.2)
    have xx : ixD (.lst [.int (-1), .int 100]) (.int j) st = .ok (.int x) st := xx
    have s1 : slD (.tup [.str pfx, .int lon, .int num, .int tag, .str deed, optD pref, .int mo, .int le, .int ah]) none (some 3) st = .ok (.tup [.str pfx, .int lon, .int num]) st := by
      show Rs.ok (D.tup (cutD _ _ _)) st = _
      rw [cutD_to _ (by decide)]; rfl
    have s2 : slD (.tup [.str pfx, .int lon, .int num, .int tag, .str deed, optD pref, .int mo, .int le, .int ah]) (some 4) none st = .ok (.tup [.str deed, optD pref, .int mo, .int le, .int ah]) st := by
      show Rs.ok (D.tup (cutD _ _ _)) st = _
      rw [cutD_from _ (by decide)]; rfl
    have a1 : addD (.tup [.str pfx, .int lon, .int num]) (.tup [.int x]) st = .ok (.tup [.str pfx, .int lon, .int num, .int x]) st := addD_tup (by simp)
    have a2 : addD (.tup [.str pfx, .int lon, .int num, .int x]) (.tup [.str deed, optD pref, .int mo, .int le, .int ah]) st = .ok (.tup [.str pfx, .int lon, .int num, .int x, .str deed, optD pref, .int mo, .int le, .int ah]) st := addD_tup (by simp)
    refine ⟨⟨pfx, lon, num, x, deed, pref, mo, le, ah⟩, fin _ ?_, by show pfx.length ≤ 1000; omega⟩
    rw [he, he]
    generalize optD pref = op at *
    have ad : addD (.int 3) (.int 1) st = .ok (.int 4) st := rfl
    simp [b_law_spoilt_rule, b_law_spoilt_rule_i1, dM, mW, e, r17, a9, x1, m2, xx, s1, s2, a1, a2, -eqD_int]
  · have x1 : ixD (.lst [.lst [.str "2", .str z17], .lst [.int (-1), .int 17], .lst [.int (-1), .int 1000], .lst [.int (-1), .int 100], .lst [.str "", .str "yes "], .lst [.int (-1), .int 1001], .lst [.int 100, .int (-1)], .lst [.int (-1), .int 100], .lst [.int 4, .int (-1)]]) (.int 4) st = .ok (.lst [.str "", .str "yes "]) st := ixD_lst (by rw [show (4 : Int) = ((4 : Nat) : Int) from rfl, atI_nat' 4 (by simp)]; rfl)
    obtain ⟨x, hx, xx⟩ := pickE D.str (as := ["", "yes "]) (i := j) st h2.1 (by simpa using h2.2)
    have xx : ixD (.lst [.str "", .str "yes "]) (.int j) st = .ok (.str x) st := xx
    have s1 : slD (.tup [.str pfx, .int lon, .int num, .int tag, .str deed, optD pref, .int mo, .int le, .int ah]) none (some 4) st = .ok (.tup [.str pfx, .int lon, .int num, .int tag]) st := by
      show Rs.ok (D.tup (cutD _ _ _)) st = _
      rw [cutD_to _ (by decide)]; rfl
    have s2 : slD (.tup [.str pfx, .int lon, .int num, .int tag, .str deed, optD pref, .int mo, .int le, .int ah]) (some 5) none st = .ok (.tup [optD pref, .int mo, .int le, .int ah]) st := by
      show Rs.ok (D.tup (cutD _ _ _)) st = _
      rw [cutD_from _ (by decide)]; rfl
    have a1 : addD (.tup [.str pfx, .int lon, .int num, .int tag]) (.tup [.str x]) st = .ok (.tup [.str pfx, .int lon, .int num, .int tag, .str x]) st := addD_tup (by simp)
    have a2 : addD (.tup [.str pfx, .int lon, .int num, .int tag, .str x]) (.tup [optD pref, .int mo, .int le, .int ah]) st = .ok (.tup [.str pfx, .int lon, .int num, .int tag, .str x, optD pref, .int mo, .int le, .int ah]) st := addD_tup (by simp)
    refine ⟨⟨pfx, lon, num, tag, x, pref, mo, le, ah⟩, fin _ ?_, by show pfx.length ≤ 1000; omega⟩
    rw [he, he]
    generalize optD pref = op at *
    have ad : addD (.int 4) (.int 1) st = .ok (.int 5) st := rfl
    simp [b_law_spoilt_rule, b_law_spoilt_rule_i1, dM, mW, e, r17, a9, x1, m2, xx, s1, s2, a1, a2, -eqD_int]
  · have x1 : ixD (.lst [.lst [.str "2", .str z17], .lst [.int (-1), .int 17], .lst [.int (-1), .int 1000], .lst [.int (-1), .int 100], .lst [.str "", .str "yes "], .lst [.int (-1), .int 1001], .lst [.int 100, .int (-1)], .lst [.int (-1), .int 100], .lst [.int 4, .int (-1)]]) (.int 5) st = .ok (.lst [.int (-1), .int 1001]) st := ixD_lst (by rw [show (5 : Int) = ((5 : Nat) : Int) from rfl, atI_nat' 5 (by simp)]; rfl)
    obtain ⟨x, hx, xx⟩ := pickE D.int (as := [-1, 1001]) (i := j) st h2.1 (by simpa using h2.2)
    have xx : ixD (.lst [.int (-1), .int 1001]) (.int j) st = .ok (.int x) st := xx
    have s1 : slD (.tup [.str pfx, .int lon, .int num, .int tag, .str deed, optD pref, .int mo, .int le, .int ah]) none (some 5) st = .ok (.tup [.str pfx, .int lon, .int num, .int tag, .str deed]) st := by
      show Rs.ok (D.tup (cutD _ _ _)) st = _
      rw [cutD_to _ (by decide)]; rfl
    have s2 : slD (.tup [.str pfx, .int lon, .int num, .int tag, .str deed, optD pref, .int mo, .int le, .int ah]) (some 6) none st = .ok (.tup [.int mo, .int le, .int ah]) st := by
      show Rs.ok (D.tup (cutD _ _ _)) st = _
      rw [cutD_from _ (by decide)]; rfl
    have a1 : addD (.tup [.str pfx, .int lon, .int num, .int tag, .str deed]) (.tup [.int x]) st = .ok (.tup [.str pfx, .int lon, .int num, .int tag, .str deed, .int x]) st := addD_tup (by simp)
    have a2 : addD (.tup [.str pfx, .int lon, .int num, .int tag, .str deed, .int x]) (.tup [.int mo, .int le, .int ah]) st = .ok (.tup [.str pfx, .int lon, .int num, .int tag, .str deed, .int x, .int mo, .int le, .int ah]) st := addD_tup (by simp)
    refine ⟨⟨pfx, lon, num, tag, deed, (some x), mo, le, ah⟩, fin _ ?_, by show pfx.length ≤ 1000; omega⟩
    rw [he, he]
    show _ = Rs.ok (D.tup [.str pfx, .int lon, .int num, .int tag, .str deed, .int x, .int mo, .int le, .int ah]) st
    generalize optD pref = op at *
    have ad : addD (.int 5) (.int 1) st = .ok (.int 6) st := rfl
    simp [b_law_spoilt_rule, b_law_spoilt_rule_i1, dM, mW, e, r17, a9, x1, m2, xx, s1, s2, a1, a2, -eqD_int]
  · have x1 : ixD (.lst [.lst [.str "2", .str z17], .lst [.int (-1), .int 17], .lst [.int (-1), .int 1000], .lst [.int (-1), .int 100], .lst [.str "", .str "yes "], .lst [.int (-1), .int 1001], .lst [.int 100, .int (-1)], .lst [.int (-1), .int 100], .lst [.int 4, .int (-1)]]) (.int 6) st = .ok (.lst [.int 100, .int (-1)]) st := ixD_lst (by rw [show (6 : Int) = ((6 : Nat) : Int) from rfl, atI_nat' 6 (by simp)]; rfl)
    obtain ⟨x, hx, xx⟩ := pickE D.int (as := [100, -1]) (i := j) st h2.1 (by simpa using h2.2)
    have xx : ixD (.lst [.int 100, .int (-1)]) (.int j) st = .ok (.int x) st := xx
    have s1 : slD (.tup [.str pfx, .int lon, .int num, .int tag, .str deed, optD pref, .int mo, .int le, .int ah]) none (some 6) st = .ok (.tup [.str pfx, .int lon, .int num, .int tag, .str deed, optD pref]) st := by
      show Rs.ok (D.tup (cutD _ _ _)) st = _
      rw [cutD_to _ (by decide)]; rfl
    have s2 : slD (.tup [.str pfx, .int lon, .int num, .int tag, .str deed, optD pref, .int mo, .int le, .int ah]) (some 7) none st = .ok (.tup [.int le, .int ah]) st := by
      show Rs.ok (D.tup (cutD _ _ _)) st = _
      rw [cutD_from _ (by decide)]; rfl
    have a1 : addD (.tup [.str pfx, .int lon, .int num, .int tag, .str deed, optD pref]) (.tup [.int x]) st = .ok (.tup [.str pfx, .int lon, .int num, .int tag, .str deed, optD pref, .int x]) st := addD_tup (by simp)
    have a2 : addD (.tup [.str pfx, .int lon, .int num, .int tag, .str deed, optD pref, .int x]) (.tup [.int le, .int ah]) st = .ok (.tup [.str pfx, .int lon, .int num, .int tag, .str deed, optD pref, .int x, .int le, .int ah]) st := addD_tup (by simp)
    refine ⟨⟨pfx, lon, num, tag, deed, pref, x, le, ah⟩, fin _ ?_, by show pfx.length ≤ 1000; omega⟩
    rw [he, he]
    generalize optD pref = op at *
    have ad : addD (.int 6) (.int 1) st = .ok (.int 7) st := rfl
    simp [b_law_spoilt_rule, b_law_spoilt_rule_i1, dM, mW, e, r17, a9, x1, m2, xx, s1, s2, a1, a2, -eqD_int]
  · have x1 : ixD (.lst [.lst [.str "2", .str z17], .lst [.int (-1), .int 17], .lst [.int (-1), .int 1000], .lst [.int (-1), .int 100], .lst [.str "", .str "yes "], .lst [.int (-1), .int 1001], .lst [.int 100, .int (-1)], .lst [.int (-1), .int 100], .lst [.int 4, .int (-1)]]) (.int 7) st = .ok (.lst [.int (-1), .int 100]) st := ixD_lst (by rw [show (7 : Int) = ((7 : Nat) : Int) from rfl, atI_nat' 7 (by simp)]; rfl)
    obtain ⟨x, hx, xx⟩ := pickE D.int (as := [-1, 100]) (i := j) st h2.1 (by simpa using h2.2)
    have xx : ixD (.lst [.int (-1), .int 100]) (.int j) st = .ok (.int x) st := xx
    have s1 : slD (.tup [.str pfx, .int lon, .int num, .int tag, .str deed, optD pref, .int mo, .int le, .int ah]) none (some 7) st = .ok (.tup [.str pfx, .int lon, .int num, .int tag, .str deed, optD pref, .int mo]) st := by
      show Rs.ok (D.tup (cutD _ _ _)) st = _
      rw [cutD_to _ (by decide)]; rfl
    have s2 : slD (.tup [.str pfx, .int lon, .int num, .int tag, .str deed, optD pref, .int mo, .int le, .int ah]) (some 8) none st = .ok (.tup [.int ah]) st := by
      show Rs.ok (D.tup (cutD _ _ _)) st = _
      rw [cutD_from _ (by decide)]; rfl
    have a1 : addD (.tup [.str pfx, .int lon, .int num, .int tag, .str deed, optD pref, .int mo]) (.tup [.int x]) st = .ok (.tup [.str pfx, .int lon, .int num, .int tag, .str deed, optD pref, .int mo, .int x]) st := addD_tup (by simp)
    have a2 : addD (.tup [.str pfx, .int lon, .int num, .int tag, .str deed, optD pref, .int mo, .int x]) (.tup [.int ah]) st = .ok (.tup [.str pfx, .int lon, .int num, .int tag, .str deed, optD pref, .int mo, .int x, .int ah]) st := addD_tup (by simp)
    refine ⟨⟨pfx, lon, num, tag, deed, pref, mo, x, ah⟩, fin _ ?_, by show pfx.length ≤ 1000; omega⟩
    rw [he, he]
    generalize optD pref = op at *
    have ad : addD (.int 7) (.int 1) st = .ok (.int 8) st := rfl
    simp [b_law_spoilt_rule, b_law_spoilt_rule_i1, dM, mW, e, r17, a9, x1, m2, xx, s1, s2, a1, a2, -eqD_int]
  · have x1 : ixD (.lst [.lst [.str "2", .str z17], .lst [.int (-1), .int 17], .lst [.int (-1), .int 1000], .lst [.int (-1), .int 100], .lst [.str "", .str "yes "], .lst [.int (-1), .int 1001], .lst [.int 100, .int (-1)], .lst [.int (-1), .int 100], .lst [.int 4, .int (-1)]]) (.int 8) st = .ok (.lst [.int 4, .int (-1)]) st := ixD_lst (by rw [show (8 : Int) = ((8 : Nat) : Int) from rfl, atI_nat' 8 (by simp)]; rfl)
    obtain ⟨x, hx, xx⟩ := pickE D.int (as := [4, -1]) (i := j) st h2.1 (by simpa using h2.2)
    have xx : ixD (.lst [.int 4, .int (-1)]) (.int j) st = .ok (.int x) st := xx
    have s1 : slD (.tup [.str pfx, .int lon, .int num, .int tag, .str deed, optD pref, .int mo, .int le, .int ah]) none (some 8) st = .ok (.tup [.str pfx, .int lon, .int num, .int tag, .str deed, optD pref, .int mo, .int le]) st := by
      show Rs.ok (D.tup (cutD _ _ _)) st = _
      rw [cutD_to _ (by decide)]; rfl
    have s2 : slD (.tup [.str pfx, .int lon, .int num, .int tag, .str deed, optD pref, .int mo, .int le, .int ah]) (some 9) none st = .ok (.tup []) st := by
      show Rs.ok (D.tup (cutD _ _ _)) st = _
      rw [cutD_from _ (by decide)]; rfl
    have a1 : addD (.tup [.str pfx, .int lon, .int num, .int tag, .str deed, optD pref, .int mo, .int le]) (.tup [.int x]) st = .ok (.tup [.str pfx, .int lon, .int num, .int tag, .str deed, optD pref, .int mo, .int le, .int x]) st := addD_tup (by simp)
    have a2 : addD (.tup [.str pfx, .int lon, .int num, .int tag, .str deed, optD pref, .int mo, .int le, .int x]) (.tup []) st = .ok (.tup [.str pfx, .int lon, .int num, .int tag, .str deed, optD pref, .int mo, .int le, .int x]) st := addD_tup (by simp)
    refine ⟨⟨pfx, lon, num, tag, deed, pref, mo, le, x⟩, fin _ ?_, by show pfx.length ≤ 1000; omega⟩
    rw [he, he]
    generalize optD pref = op at *
    have ad : addD (.int 8) (.int 1) st = .ok (.int 9) st := rfl
    simp [b_law_spoilt_rule, b_law_spoilt_rule_i1, dM, mW, e, r17, a9, x1, m2, xx, s1, s2, a1, a2, -eqD_int]
  · refine ⟨⟨pfx, lon, num, tag, deed, pref, mo, le, ah⟩, fin _ ?_, by show pfx.length ≤ 1000; omega⟩
    rw [he]
    generalize optD pref = op at *
    simp [b_law_spoilt_rule, b_law_spoilt_rule_i1, dM, mW, e, r17, a9, -eqD_int]
end DL

/-! K10L: the law. -/
namespace DL
open PySem PySem.Spec PyProof.Rows L2
def toldQ (q : RouteS) : D := if GoodRoute q then .non else .str "BadRoute"
def toldR (r : RuleS) : D := if goodRuleB r = true then .non else .str "BadRule"
theorem told_route {q : RouteS} (h : SmallR q) (st : Sto) : fn_law_told [.fn 0, q.enc] st = .ok (toldQ q) st := by
  have f := need_route_ok h.1 h.2.1 h.2.2 st
  refine Fn.clean_same ?_ (by unfold toldQ; split <;> rfl)
  unfold toldQ
  have y : ∀ (E : En), E = [some (.fn 0), some q.enc, none] → b_law_told_y1 E st = ((fn_need_route [q.enc] st).thn E fun d st => SR.rt d st) := fun E hE => by
    subst hE
    generalize q.enc = qe at *
    simp [b_law_told_y1]
  show SR.fin (dTry 2 b_law_told_y1 [some (.fn 0), some q.enc, none] st) = _
  unfold dTry
  rw [y _ rfl, f]
  by_cases c : GoodRoute q
  · rw [if_pos c, if_pos c]; rfl
  · rw [if_neg c, if_neg c]; rfl
theorem told_rule {r : RuleS} (h : r.pfx.length ≤ 1000) (st : Sto) : fn_law_told [.fn 1, r.enc] st = .ok (toldR r) st := by
  have f := need_rule_ok h st
  refine Fn.clean_same ?_ (by unfold toldR; split <;> rfl)
  unfold toldR
  have y : ∀ (E : En), E = [some (.fn 1), some r.enc, none] → b_law_told_y1 E st = ((fn_need_rule [r.enc] st).thn E fun d st => SR.rt d st) := fun E hE => by
    subst hE
    generalize r.enc = qe at *
    simp [b_law_told_y1]
  show SR.fin (dTry 2 b_law_told_y1 [some (.fn 1), some r.enc, none] st) = _
  unfold dTry
  rw [y _ rfl, f]
  by_cases c : goodRuleB r = true
  · rw [if_pos c, if_pos c]; rfl
  · rw [if_neg c, if_neg c]; rfl
theorem due_turns (l : Nat) (a0 a1 a2 a3 a4 a5 a6 : Option D) {q : RouteS} {r : RuleS} (hq : SmallR q) (hr : r.pfx.length ≤ 1000) (st : Sto) : ∀ (ds : List D) (a10 : Option D),
    ∃ b10, loopL (tgN 10) b_law_l1 ds [a0, a1, a2, a3, a4, a5, a6, some q.enc, some r.enc, some (.loc st.length), a10] (st ++ [.lst [toldQ q, toldR r]]) = .nx [a0, a1, a2, a3, a4, a5, a6, some q.enc, some r.enc, some (.loc st.length), b10] (st ++ [.lst [toldQ q, toldR r]])
  | [], a10 => ⟨a10, rfl⟩
  | d :: ds, a10 => by
    obtain ⟨b10, ih⟩ := due_turns l a0 a1 a2 a3 a4 a5 a6 hq hr st ds (some d)
    refine ⟨b10, ?_⟩
    have t1 := told_route hq (st ++ [.lst [toldQ q, toldR r]])
    have t2 := told_rule hr (st ++ [.lst [toldQ q, toldR r]])
    have g : ∀ n, good (n + 1) (toldQ q) = true ∧ good (n + 1) (toldR r) = true := fun n => by
      unfold toldQ toldR
      constructor <;> split <;> rfl
    have ne : neD (.lst [toldQ q, toldR r]) (.loc st.length) (st ++ [.lst [toldQ q, toldR r]]) = .ok (.bl false) (st ++ [.lst [toldQ q, toldR r]]) := by
      have e : der (st ++ [Ob.lst [toldQ q, toldR r]]) (.loc st.length) = .lst [toldQ q, toldR r] := by
        unfold der
        dsimp only
        rw [get_new]
      have g1 : good 40 (.lst [toldQ q, toldR r]) = true := by
        show ([toldQ q, toldR r]).all (good 39) = true
        simp [(g 38).1, (g 38).2]
      rw [neD_good (x := .lst [toldQ q, toldR r]) (y := .loc st.length) g1 (by rw [e]; exact g1), e]
      show Rs.ok (D.bl (!PyData.eqv (toP (.lst [toldQ q, toldR r])) (toP (.lst [toldQ q, toldR r])))) _ = _
      rw [eqv_self]; rfl
    rw [loopN_nx (e := [a0, a1, a2, a3, a4, a5, a6, some q.enc, some r.enc, some (.loc st.length), some d]) (s := st ++ [.lst [toldQ q, toldR r]])]
    · exact ih
    · generalize toldQ q = tq at *
      generalize toldR r = tr at *
      generalize q.enc = qe at *
      generalize r.enc = re at *
      simp [b_law_l1, b_law_i2, t1, t2, ne]
/-- what is due, and both turns -/
theorem due_ok10 (a0 a1 a2 a3 a4 a5 a6 a9 a10 : Option D) {q : RouteS} {r : RuleS} (hq : SmallR q) (hr : r.pfx.length ≤ 1000) (st : Sto) :
    ∃ st' b9 b10, (dSeq (dSet (tgN 9) (dLstM [(dB ixD (dLst [(dC .non), (dC (.str "BadRoute"))]) (dCall intD [(dNotV (dCall fn_law_good_route [(dV 7)]))]))]))
    (dSeq (dExpr (dMeth chkL appendD (dV 9) [(dB ixD (dLst [(dC .non), (dC (.str "BadRule"))]) (dCall intD [(dNotV (dCall fn_law_good_rule [(dV 8)]))]))]))
    (dFor (dIterR (dC (.int 2))) (tgN 10)
    (b_law_l1)))) [a0, a1, a2, a3, a4, a5, a6, some q.enc, some r.enc, a9, a10] st = .nx [a0, a1, a2, a3, a4, a5, a6, some q.enc, some r.enc, b9, b10] st' := by
  have g1 := good_route_ok hq.1 hq.2.1 st
  have g2 := good_rule_ok hr (st ++ [.lst [toldQ q]])
  have x1 : ∀ b : Bool, (intD [.bl (!b)] st).bind (fun y st => ixD (.lst [.non, .str "BadRoute"]) y st) = .ok (if b = true then .non else .str "BadRoute") st := fun b => by cases b <;> rfl
  have x2 : ∀ (b : Bool) (S : Sto), (intD [.bl (!b)] S).bind (fun y st => ixD (.lst [.non, .str "BadRule"]) y st) = .ok (if b = true then .non else .str "BadRule") S := fun b S => by cases b <;> rfl
  have x1 := x1 (decide (GoodRoute q))
  have x2 := x2 (goodRuleB r) (st ++ [.lst [toldQ q]])
  have e1 : (if decide (GoodRoute q) = true then D.non else D.str "BadRoute") = toldQ q := by unfold toldQ; by_cases c : GoodRoute q <;> simp [c]
  have e2 : (if goodRuleB r = true then D.non else D.str "BadRule") = toldR r := rfl
  rw [e1] at x1
  rw [e2] at x2
  have cL := chkL_new st [toldQ q]
  have ap := append_new (st := st) (xs := [toldQ q]) (toldR r) (by simp)
  obtain ⟨b10, lp⟩ := due_turns st.length a0 a1 a2 a3 a4 a5 a6 hq hr st (rngD 2) a10
  refine ⟨st ++ [.lst [toldQ q, toldR r]], some (.loc st.length), b10, ?_⟩
  have ap : appendD (.loc st.length) [toldR r] (st ++ [.lst [toldQ q]]) = .ok .non (st ++ [.lst [toldQ q, toldR r]]) := ap
  generalize toldQ q = tq at *
  generalize toldR r = tr at *
  generalize q.enc = qe at *
  generalize r.enc = re at *
  generalize decide (GoodRoute q) = gq at *
  generalize goodRuleB r = gr at *
  have hr2 : asR (.int 2) (st ++ [.lst [tq, tr]]) = .ok (rngD 2) (st ++ [.lst [tq, tr]]) := by rw [asR_ok (by decide) (by decide)]; rfl
  simp [g1, g2, x1, x2, cL, ap, hr2, lp]
theorem turn10 {ns : List Int} (hns : Scr ns) (k : Nat) (hk : k < 100) (st : Sto) (a2 a3 a4 a5 a6 a7 a8 a9 a10 : Option D) :
    ∃ st' b2 b3 b4 b5 b6 b7 b8 b9 b10, b_law_l2 [some (.scr ns), some (.int k), a2, a3, a4, a5, a6, a7, a8, a9, a10] st = .nx [some (.scr ns), some (.int k), b2, b3, b4, b5, b6, b7, b8, b9, b10] st' := by
  obtain ⟨c, m, f1, f2, hm⟩ := draw_ok hns k k (by omega) (by omega) st
  have dv : ∀ (x y : Int), 0 < y → y.natAbs < 2 ^ 200 → divI (.int x) (.int y) st = .ok (.int (x / y)) st := fun x y h1 h2 => divI_small h1 h2
  have pw : ∀ (n : Nat) (y : Int), n ≤ 100 → y = (2 : Int) ^ n → powI (.int 2) (.int (n : Int)) st = .ok (.int y) st := fun n y h e => by
    rw [powI_int (by omega) (by omega) (by decide), e]
    simp
  have d16 := dv m 16 (by decide) (by decide)
  have d8 := dv m 8 (by decide) (by decide)
  have d32 := dv m 32 (by decide) (by decide)
  have md : ∀ (x y : Int), 0 < y → modI (.int x) (.int y) st = .ok (.int (x % y)) st := fun x y h => modI_int (by omega)
  have P := fun (n : Nat) (y : Int) (h : n ≤ 100) (e : y = (2 : Int) ^ n) (h1 : 0 < y) (h2 : y.natAbs < 2 ^ 200) => And.intro (pw n y h e) (dv m y h1 h2)
  obtain ⟨p17, d17⟩ := P 17 131072 (by decide) (by decide) (by decide) (by decide)
  obtain ⟨p20, d20⟩ := P 20 1048576 (by decide) (by decide) (by decide) (by decide)
  obtain ⟨p30, d30⟩ := P 30 1073741824 (by decide) (by decide) (by decide) (by decide)
  obtain ⟨p33, d33⟩ := P 33 8589934592 (by decide) (by decide) (by decide) (by decide)
  obtain ⟨p35, d35⟩ := P 35 34359738368 (by decide) (by decide) (by decide) (by decide)
  obtain ⟨p37, d37⟩ := P 37 137438953472 (by decide) (by decide) (by decide) (by decide)
  obtain ⟨p39, d39⟩ := P 39 549755813888 (by decide) (by decide) (by decide) (by decide)
  obtain ⟨p40, d40⟩ := P 40 1099511627776 (by decide) (by decide) (by decide) (by decide)
  obtain ⟨p42, d42⟩ := P 42 4398046511104 (by decide) (by decide) (by decide) (by decide)
  obtain ⟨p43, d43⟩ := P 43 8796093022208 (by decide) (by decide) (by decide) (by decide)
  obtain ⟨p44, d44⟩ := P 44 17592186044416 (by decide) (by decide) (by decide) (by decide)
  obtain ⟨p47, d47⟩ := P 47 140737488355328 (by decide) (by decide) (by decide) (by decide)
  obtain ⟨p50, d50⟩ := P 50 1125899906842624 (by decide) (by decide) (by decide) (by decide)
  obtain ⟨p60, d60⟩ := P 60 1152921504606846976 (by decide) (by decide) (by decide) (by decide)
  have p17 : powI (.int 2) (.int 17) st = .ok (.int 131072) st := p17
  have p20 : powI (.int 2) (.int 20) st = .ok (.int 1048576) st := p20
  have p30 : powI (.int 2) (.int 30) st = .ok (.int 1073741824) st := p30
  have p33 : powI (.int 2) (.int 33) st = .ok (.int 8589934592) st := p33
  have p35 : powI (.int 2) (.int 35) st = .ok (.int 34359738368) st := p35
  have p37 : powI (.int 2) (.int 37) st = .ok (.int 137438953472) st := p37
  have p39 : powI (.int 2) (.int 39) st = .ok (.int 549755813888) st := p39
  have p40 : powI (.int 2) (.int 40) st = .ok (.int 1099511627776) st := p40
  have p42 : powI (.int 2) (.int 42) st = .ok (.int 4398046511104) st := p42
  have p43 : powI (.int 2) (.int 43) st = .ok (.int 8796093022208) st := p43
  have p44 : powI (.int 2) (.int 44) st = .ok (.int 17592186044416) st := p44
  have p47 : powI (.int 2) (.int 47) st = .ok (.int 140737488355328) st := p47
  have p50 : powI (.int 2) (.int 50) st = .ok (.int 1125899906842624) st := p50
  have p60 : powI (.int 2) (.int 60) st = .ok (.int 1152921504606846976) st := p60
  have big20 : Big (m / 1048576) := hm.div 1048576
  have big50 : Big (m / 1125899906842624) := hm.div 1125899906842624
  have big16 : Big (m / 16) := hm.div 16
  have pick3 : ∀ (xs : List Int) (x : Int), xs.length = 3 → ∃ y, y ∈ xs ∧ ixD (.lst (xs.map D.int)) (.int (x % 3)) st = .ok (.int y) st := fun xs x hl => by
    have h3 := mod_lt (a := x) (show (0 : Int) < 3 by decide)
    exact pickE D.int (as := xs) (i := x % 3) st h3.1 (by rw [hl]; exact h3.2)
  have pick2 : ∀ (xs : List Int) (x : Int), xs.length = 2 → ∃ y, y ∈ xs ∧ ixD (.lst (xs.map D.int)) (.int (x % 2)) st = .ok (.int y) st := fun xs x hl => by
    have h3 := mod_lt (a := x) (show (0 : Int) < 2 by decide)
    exact pickE D.int (as := xs) (i := x % 2) st h3.1 (by rw [hl]; exact h3.2)
  -- the prefix
  have h17 := mod_lt (a := m) (show (0 : Int) < 17 by decide)
  obtain ⟨t, ht, xt⟩ := pick3 [0, m % 17, 16] (m / 8) rfl
  have xt : ixD (.lst [.int 0, .int (m % 17), .int 16]) (.int (m / 8 % 3)) st = .ok (.int t) st := xt
  obtain ⟨tn, htn, htl⟩ : ∃ n : Nat, t = (n : Int) ∧ n ≤ 16 := by
    simp only [List.mem_cons, List.mem_nil_iff, or_false] at ht
    exact ⟨t.toNat, by omega, by omega⟩
  obtain ⟨s, fb, hb, hsl⟩ := bits_ok big16 tn htl st
  rw [← htn] at fb
  have hs16 : s.length ≤ 16 := by omega
  -- the path
  have h12 := mod_lt (a := m / 131072) (show (0 : Int) < 12 by decide)
  obtain ⟨many, hmany, hm1, hm2⟩ : ∃ n : Nat, 1 + m / 131072 % 12 = (n : Int) ∧ 1 ≤ n ∧ n ≤ 12 := ⟨(1 + m / 131072 % 12).toNat, by omega, by omega, by omega⟩
  obtain ⟨path, fn, hpl, hp9, _⟩ := numbers_ok big20 many (by omega) st
  rw [← hmany] at fn
  have tp := tuple_lst (path.map D.int) st
  obtain ⟨p0, pr, hpe⟩ : ∃ p0 pr, path = p0 :: pr := by
    cases path with
    | nil => simp at hpl; omega
    | cons a b => exact ⟨a, b, rfl⟩
  have x0 : ixD (.tup (path.map D.int)) (.int 0) st = .ok (.int p0) st := by rw [hpe]; exact ix_head p0 pr st
  -- the weight, the tags
  obtain ⟨w, hw, xw⟩ := pick3 [0, 1000, m / 1099511627776 % 1001] (m / 1073741824) rfl
  have xw : ixD (.lst [.int 0, .int 1000, .int (m / 1099511627776 % 1001)]) (.int (m / 1073741824 % 3)) st = .ok (.int w) st := xw
  obtain ⟨tags, ftg, htg⟩ := tags_ok big50 st
  -- the rule
  obtain ⟨r1, _, y1⟩ := pick3 [0, 16, 7] (m / 32) rfl
  have y1 : ixD (.lst [.int 0, .int 16, .int 7]) (.int (m / 32 % 3)) st = .ok (.int r1) st := y1
  obtain ⟨r2, _, y2⟩ := pick3 [0, 999, p0] (m / 8589934592) rfl
  have y2 : ixD (.lst [.int 0, .int 999, .int p0]) (.int (m / 8589934592 % 3)) st = .ok (.int r2) st := y2
  obtain ⟨r3, _, y3⟩ := pick3 [0, 99, 5] (m / 34359738368) rfl
  have y3 : ixD (.lst [.int 0, .int 99, .int 5]) (.int (m / 34359738368 % 3)) st = .ok (.int r3) st := y3
  have h3a := mod_lt (a := m / 137438953472) (show (0 : Int) < 3 by decide)
  obtain ⟨r4, _, y4⟩ := pickE D.str (as := ["no", "yes", "on"]) (i := m / 137438953472 % 3) st h3a.1 (by simpa using h3a.2)
  have y4 : ixD (.lst [.str "no", .str "yes", .str "on"]) (.int (m / 137438953472 % 3)) st = .ok (.str r4) st := y4
  have h3b := mod_lt (a := m / 549755813888) (show (0 : Int) < 3 by decide)
  obtain ⟨r5, _, y5⟩ := pickE optD (as := [none, some 0, some 1000]) (i := m / 549755813888 % 3) st h3b.1 (by simpa using h3b.2)
  have y5 : ixD (.lst [.non, .int 0, .int 1000]) (.int (m / 549755813888 % 3)) st = .ok (optD r5) st := y5
  obtain ⟨r6, _, y6⟩ := pick2 [0, 99] (m / 4398046511104) rfl
  have y6 : ixD (.lst [.int 0, .int 99]) (.int (m / 4398046511104 % 2)) st = .ok (.int r6) st := y6
  obtain ⟨r7, _, y7⟩ := pick2 [0, 99] (m / 8796093022208) rfl
  have y7 : ixD (.lst [.int 0, .int 99]) (.int (m / 8796093022208 % 2)) st = .ok (.int r7) st := y7
  obtain ⟨r8, _, y8⟩ := pick3 [0, 3, 1] (m / 17592186044416) rfl
  have y8 : ixD (.lst [.int 0, .int 3, .int 1]) (.int (m / 17592186044416 % 3)) st = .ok (.int r8) st := y8
  have j1 : addD (.tup [.str s, .int r1, .int r2]) (.tup [.int r3]) st = .ok (.tup [.str s, .int r1, .int r2, .int r3]) st := addD_tup (by simp)
  have j2 : addD (.tup [.str s, .int r1, .int r2, .int r3]) (.tup [.str r4, optD r5]) st = .ok (.tup [.str s, .int r1, .int r2, .int r3, .str r4, optD r5]) st := addD_tup (by simp)
  have j3 : addD (.tup [.str s, .int r1, .int r2, .int r3, .str r4, optD r5]) (.tup [.int r6, .int r7]) st = .ok (.tup [.str s, .int r1, .int r2, .int r3, .str r4, optD r5, .int r6, .int r7]) st := addD_tup (by simp)
  have j4 : addD (.tup [.str s, .int r1, .int r2, .int r3, .str r4, optD r5, .int r6, .int r7]) (.tup [.int r8]) st = .ok (.tup [.str s, .int r1, .int r2, .int r3, .str r4, optD r5, .int r6, .int r7, .int r8]) st := addD_tup (by simp)
  have eq0 : (RouteS.mk s path w tags).enc = .tup [.str s, .tup (path.map D.int), .int w, .tup (tags.map D.int)] := rfl
  have er0 : (RuleS.mk s r1 r2 r3 r4 r5 r6 r7 r8).enc = .tup [.str s, .int r1, .int r2, .int r3, .str r4, optD r5, .int r6, .int r7, .int r8] := rfl
  have ad1 : addD (.int 1) (.int (m / 131072 % 12)) st = .ok (.int (1 + m / 131072 % 12)) st := rfl
  -- spoilt or not
  have ex : ∃ (q : RouteS) (r : RuleS), SmallR q ∧ r.pfx.length ≤ 1000 ∧ b_law_i1 [some (.scr ns), some (.int k), some (.int m), some (.str s), some (.int (1 + m / 131072 % 12)), some (.tup (path.map D.int)), some (.int w), some (RouteS.mk s path w tags).enc, some (RuleS.mk s r1 r2 r3 r4 r5 r6 r7 r8).enc, a9, a10] st = .nx [some (.scr ns), some (.int k), some (.int m), some (.str s), some (.int (1 + m / 131072 % 12)), some (.tup (path.map D.int)), some (.int w), some q.enc, some r.enc, a9, a10] st := by
    have m47 := md (m / 140737488355328) 2 (by decide)
    have h2 := mod_lt (a := m / 140737488355328) (show (0 : Int) < 2 by decide)
    have tl4 : tags.length ≤ 4 := htg.2.2
    have e47 : eqD (.int (m / 140737488355328 % 2)) (.int 1) st = .ok (.bl (m / 140737488355328 % 2 == 1)) st := eqD_int _ _ _
    cases hc : (m / 140737488355328 % 2 == 1) with
    | false =>
      rw [hc] at e47
      refine ⟨RouteS.mk s path w tags, RuleS.mk s r1 r2 r3 r4 r5 r6 r7 r8, ⟨by show s.length ≤ 1000; omega, by show path.length ≤ 1000; omega, by show tags.length ≤ 1000; omega⟩, by show s.length ≤ 1000; omega, ?_⟩
      generalize (RouteS.mk s path w tags).enc = qe at *
      generalize (RuleS.mk s r1 r2 r3 r4 r5 r6 r7 r8).enc = re at *
      generalize path.map D.int = pd at *
      simp [b_law_i1, p47, d47, m47, e47, -eqD_int, -powI_int]
    | true =>
      rw [hc] at e47
      obtain ⟨q, fq, hq⟩ := spoilt_route_ok (q := RouteS.mk s path w tags) hs16 ⟨by show path ≠ []; rw [hpe]; simp, by show path.length ≤ 12; omega⟩ tl4 (m / 1152921504606846976) st
      obtain ⟨r, fr, hr⟩ := spoilt_rule_ok (r := RuleS.mk s r1 r2 r3 r4 r5 r6 r7 r8) hs16 (m / 1152921504606846976 / 1024) st
      have d1024 := dv (m / 1152921504606846976) 1024 (by decide) (by decide)
      refine ⟨q, r, hq, hr, ?_⟩
      generalize (RouteS.mk s path w tags).enc = qe at *
      generalize (RuleS.mk s r1 r2 r3 r4 r5 r6 r7 r8).enc = re at *
      generalize path.map D.int = pd at *
      generalize q.enc = qe2 at *
      generalize r.enc = re2 at *
      simp [b_law_i1, p47, d47, m47, e47, p60, d60, d1024, fq, fr, -eqD_int, -powI_int]
  obtain ⟨q, r, hq, hr, fi⟩ := ex
  obtain ⟨st', b9, b10, fd⟩ := due_ok10 (some (.scr ns)) (some (.int k)) (some (.int m)) (some (.str s)) (some (.int (1 + m / 131072 % 12))) (some (.tup (path.map D.int))) (some (.int w)) a9 a10 hq hr st
  refine ⟨st', some (.int m), some (.str s), some (.int (1 + m / 131072 % 12)), some (.tup (path.map D.int)), some (.int w), some q.enc, some r.enc, b9, b10, ?_⟩
  rw [eq0, er0] at fi
  have mm17 := md m 17 (by decide)
  have mm3 := md (m / 8) 3 (by decide)
  have mm12 := md (m / 131072) 12 (by decide)
  have mm1001 := md (m / 1099511627776) 1001 (by decide)
  have mw3 := md (m / 1073741824) 3 (by decide)
  have n1 := md (m / 32) 3 (by decide)
  have n2 := md (m / 8589934592) 3 (by decide)
  have n3 := md (m / 34359738368) 3 (by decide)
  have n4 := md (m / 137438953472) 3 (by decide)
  have n5 := md (m / 549755813888) 3 (by decide)
  have n6 := md (m / 4398046511104) 2 (by decide)
  have n7 := md (m / 8796093022208) 2 (by decide)
  have n8 := md (m / 17592186044416) 3 (by decide)
  generalize hD : (dSeq (dSet (tgN 9) (dLstM [(dB ixD (dLst [(dC .non), (dC (.str "BadRoute"))]) (dCall intD [(dNotV (dCall fn_law_good_route [(dV 7)]))]))]))
    (dSeq (dExpr (dMeth chkL appendD (dV 9) [(dB ixD (dLst [(dC .non), (dC (.str "BadRule"))]) (dCall intD [(dNotV (dCall fn_law_good_rule [(dV 8)]))]))]))
    (dFor (dIterR (dC (.int 2))) (tgN 10)
    (b_law_l1)))) = DD at *
  generalize optD r5 = o5 at *
  generalize path.map D.int = pd at *
  generalize tags.map D.int = td at *
  unfold b_law_l2
  rw [hD]
  simp [f1, f2, d16, mm17, d8, mm3, xt, fb, p17, d17, mm12, ad1, p20, d20, fn, tp, p40, d40, mm1001, p30, d30, mw3, xw, p50, d50, ftg, d32, n1, y1, p33, d33, x0, n2, y2, p35, d35, n3, y3, j1, p37, d37, n4, y4, p39, d39, n5, y5, j2, p42, d42, n6, y6, p43, d43, n7, y7, j3, p44, d44, n8, y8, j4, fi, fd, -powI_int, -addD_int]
theorem law_true (ns : List Int) (hns : Scr ns) : ∃ st, F_law [.scr ns] [] = .ok (.bl true) st := by
  obtain ⟨n, hn, hn6⟩ : ∃ n : Nat, (if (if (ns.length : Int) < 6 then (ns.length : Int) else 6) > 1 then (if (ns.length : Int) < 6 then (ns.length : Int) else 6) else 1) = (n : Int) ∧ n ≤ 6 := by
    refine ⟨(if (if (ns.length : Int) < 6 then (ns.length : Int) else 6) > 1 then (if (ns.length : Int) < 6 then (ns.length : Int) else 6) else 1).toNat, ?_, ?_⟩ <;> split <;> split <;> omega
  have hmin : min2D [.int 6, .int (ns.length : Int)] [] = .ok (.int (if (ns.length : Int) < 6 then (ns.length : Int) else 6)) [] := rfl
  have hmax : max2D [.int 1, .int (if (ns.length : Int) < 6 then (ns.length : Int) else 6)] [] = .ok (.int (n : Int)) [] := by rw [← hn]; rfl
  have hr : asR (.int (n : Int)) [] = .ok (rngD n) [] := by rw [asR_ok (by omega) (by omega)]; simp
  obtain ⟨e, st4, lp, x1, x2, x3, x4, x5, x6, x7, x8, x9, x10, rfl⟩ := loopN_inv (i := 1) (b := b_law_l2) (fun (j : Nat) => D.int (j : Int)) (fun j env st' => ∃ (x1 x2 x3 x4 x5 x6 x7 x8 x9 x10 : Option D), env = [some (.scr ns), x1, x2, x3, x4, x5, x6, x7, x8, x9, x10]) (List.range n) 0
    [some (.scr ns), none, none, none, none, none, none, none, none, none, none] [] ⟨_, _, _, _, _, _, _, _, _, _, rfl⟩ (by
    rintro k a env st' ha ⟨x1, x2, x3, x4, x5, x6, x7, x8, x9, x10, rfl⟩
    have hj := (List.getElem?_eq_some_iff.mp ha).1
    rw [List.length_range] at hj
    have ea : a = k := by
      have := (List.getElem?_eq_some_iff.mp ha).2
      rw [List.getElem_range] at this
      exact this.symm
    subst ea
    obtain ⟨st'', b2, b3, b4, b5, b6, b7, b8, b9, b10, t1⟩ := turn10 hns a (by omega) st' x2 x3 x4 x5 x6 x7 x8 x9 x10
    exact ⟨_, _, t1, _, _, _, _, _, _, _, _, _, _, rfl⟩)
  have lp : loopL (tgN 1) b_law_l2 (rngD n) _ [] = _ := lp
  refine ⟨st4, ?_⟩
  unfold F_law
  simp only [b_law, runF_def]
  simp [hmin, hmax, hr, lp, len_scr]
end DL

namespace DL
open PySem PySem.Spec PyProof.Rows L2
theorem all_mk {l : PySem.W.OpenLaw} {w : World} {K : PySem.W.Frag} {h : Heap} {mg : Str → Option Value} {fa f0 f1 f2 f3 f4 f5 f6 f7 f8 f9 f10 f11 f12 f13 f14 f15 f16 : Addr} {C_BadRoute C_BadRule C_NoLine C_NoNeighbour C_PathError : Addr} (X : K.In h) (G : h.Ns mainGlobals mg) (hfa : mg "law" = some (.ref fa))
    {od0 od1 od2 od3 od4 od5 od6 od7 od8 od9 od10 od11 od12 od13 od14 od15 od16 an0 an1 an2 an3 an4 an5 an6 an7 an8 an9 an10 an11 an12 an13 an14 an15 an16 : Option Addr} {sl0 sl1 sl2 sl3 sl4 sl5 sl6 sl7 sl8 sl9 sl10 sl11 sl12 sl13 sl14 sl15 sl16 : Array (Option Value)} {oc0 oc1 oc2 oc3 oc4 oc5 oc6 oc7 oc8 oc9 oc10 oc11 oc12 oc13 oc14 oc15 oc16 kv0 kv1 kv2 kv3 kv4 kv5 kv6 kv7 kv8 kv9 kv10 kv11 kv12 kv13 kv14 kv15 kv16 dc0 dc1 dc2 dc3 dc4 dc5 dc6 dc7 dc8 dc9 dc10 dc11 dc12 dc13 dc14 dc15 dc16 pm0 pm1 pm2 pm3 pm4 pm5 pm6 pm7 pm8 pm9 pm10 pm11 pm12 pm13 pm14 pm15 pm16 cd0 cd1 cd2 cd3 cd4 cd5 cd6 cd7 cd8 cd9 cd10 cd11 cd12 cd13 cd14 cd15 cd16 ct0 ct1 ct2 ct3 ct4 ct5 ct6 ct7 ct8 ct9 ct10 ct11 ct12 ct13 ct14 ct15 ct16 : Value}
    {t_MOST_AHEAD t_MOST_NUMBER t_MOST_PATH t_MOST_SIGNS t_MOST_TAG t_MOST_TAGS t_MOST_WEIGHT : Tok}
    {kta_DEEDS : Addr} {kto_DEEDS : Option Addr} {kts_DEEDS : Array (Option Value)} {ktn_DEEDS : Nat}
    {ktt_DEEDS_0 ktt_DEEDS_1 ktt_DEEDS_2 : Tok}
    (aC_BadRoute : PySem.W.nsIn K mainGlobals "BadRoute" = some (some (.ref C_BadRoute)))
    (aC_BadRule : PySem.W.nsIn K mainGlobals "BadRule" = some (some (.ref C_BadRule)))
    (aC_NoLine : PySem.W.nsIn K mainGlobals "NoLine" = some (some (.ref C_NoLine)))
    (aC_NoNeighbour : PySem.W.nsIn K mainGlobals "NoNeighbour" = some (some (.ref C_NoNeighbour)))
    (aC_PathError : PySem.W.nsIn K mainGlobals "PathError" = some (some (.ref C_PathError)))
    (a0 : PySem.W.nsIn K mainGlobals "_law_drawn" = some (some (.ref f0)))
    (l0 : K.lookup f0 = some ⟨oc0, od0, .func (PySem.W.fnOf "_law_drawn" "_law_drawn" (defArgs (top 22)) (defBody (top 22)) (defScope (top 22)) .none kv0 dc0 pm0 an0 cd0 ct0), sl0⟩)
    (c0 : PySem.W.codeIn K cd0 "_law_drawn" = true)
    (k0 : PySem.W.keepIn K (.ref f0) = true)
    (a1 : PySem.W.nsIn K mainGlobals "_law_cell" = some (some (.ref f1)))
    (l1 : K.lookup f1 = some ⟨oc1, od1, .func (PySem.W.fnOf "_law_cell" "_law_cell" (defArgs (top 21)) (defBody (top 21)) (defScope (top 21)) .none kv1 dc1 pm1 an1 cd1 ct1), sl1⟩)
    (c1 : PySem.W.codeIn K cd1 "_law_cell" = true)
    (k1 : PySem.W.keepIn K (.ref f1) = true)
    (a2 : PySem.W.nsIn K mainGlobals "_law_bits" = some (some (.ref f2)))
    (l2 : K.lookup f2 = some ⟨oc2, od2, .func (PySem.W.fnOf "_law_bits" "_law_bits" (defArgs (top 24)) (defBody (top 24)) (defScope (top 24)) .none kv2 dc2 pm2 an2 cd2 ct2), sl2⟩)
    (c2 : PySem.W.codeIn K cd2 "_law_bits" = true)
    (k2 : PySem.W.keepIn K (.ref f2) = true)
    (a3 : PySem.W.nsIn K mainGlobals "_law_numbers" = some (some (.ref f3)))
    (l3 : K.lookup f3 = some ⟨oc3, od3, .func (PySem.W.fnOf "_law_numbers" "_law_numbers" (defArgs (top 23)) (defBody (top 23)) (defScope (top 23)) .none kv3 dc3 pm3 an3 cd3 ct3), sl3⟩)
    (c3 : PySem.W.codeIn K cd3 "_law_numbers" = true)
    (k3 : PySem.W.keepIn K (.ref f3) = true)
    (a4 : PySem.W.nsIn K mainGlobals "_law_tags" = some (some (.ref f4)))
    (l4 : K.lookup f4 = some ⟨oc4, od4, .func (PySem.W.fnOf "_law_tags" "_law_tags" (defArgs (top 26)) (defBody (top 26)) (defScope (top 26)) .none kv4 dc4 pm4 an4 cd4 ct4), sl4⟩)
    (c4 : PySem.W.codeIn K cd4 "_law_tags" = true)
    (k4 : PySem.W.keepIn K (.ref f4) = true)
    (a5 : PySem.W.nsIn K mainGlobals "_law_spoilt_route" = some (some (.ref f5)))
    (l5 : K.lookup f5 = some ⟨oc5, od5, .func (PySem.W.fnOf "_law_spoilt_route" "_law_spoilt_route" (defArgs (top 28)) (defBody (top 28)) (defScope (top 28)) .none kv5 dc5 pm5 an5 cd5 ct5), sl5⟩)
    (c5 : PySem.W.codeIn K cd5 "_law_spoilt_route" = true)
    (k5 : PySem.W.keepIn K (.ref f5) = true)
    (a6 : PySem.W.nsIn K mainGlobals "_law_spoilt_rule" = some (some (.ref f6)))
    (l6 : K.lookup f6 = some ⟨oc6, od6, .func (PySem.W.fnOf "_law_spoilt_rule" "_law_spoilt_rule" (defArgs (top 29)) (defBody (top 29)) (defScope (top 29)) .none kv6 dc6 pm6 an6 cd6 ct6), sl6⟩)
    (c6 : PySem.W.codeIn K cd6 "_law_spoilt_rule" = true)
    (k6 : PySem.W.keepIn K (.ref f6) = true)
    (a7 : PySem.W.nsIn K mainGlobals "_law_good_route" = some (some (.ref f7)))
    (l7 : K.lookup f7 = some ⟨oc7, od7, .func (PySem.W.fnOf "_law_good_route" "_law_good_route" (defArgs (top 30)) (defBody (top 30)) (defScope (top 30)) .none kv7 dc7 pm7 an7 cd7 ct7), sl7⟩)
    (c7 : PySem.W.codeIn K cd7 "_law_good_route" = true)
    (k7 : PySem.W.keepIn K (.ref f7) = true)
    (a8 : PySem.W.nsIn K mainGlobals "_law_good_rule" = some (some (.ref f8)))
    (l8 : K.lookup f8 = some ⟨oc8, od8, .func (PySem.W.fnOf "_law_good_rule" "_law_good_rule" (defArgs (top 31)) (defBody (top 31)) (defScope (top 31)) .none kv8 dc8 pm8 an8 cd8 ct8), sl8⟩)
    (c8 : PySem.W.codeIn K cd8 "_law_good_rule" = true)
    (k8 : PySem.W.keepIn K (.ref f8) = true)
    (a9 : PySem.W.nsIn K mainGlobals "_law_word" = some (some (.ref f9)))
    (l9 : K.lookup f9 = some ⟨oc9, od9, .func (PySem.W.fnOf "_law_word" "_law_word" (defArgs (top 27)) (defBody (top 27)) (defScope (top 27)) .none kv9 dc9 pm9 an9 cd9 ct9), sl9⟩)
    (c9 : PySem.W.codeIn K cd9 "_law_word" = true)
    (k9 : PySem.W.keepIn K (.ref f9) = true)
    (a10 : PySem.W.nsIn K mainGlobals "is_prefix" = some (some (.ref f10)))
    (l10 : K.lookup f10 = some ⟨oc10, od10, .func (PySem.W.fnOf "is_prefix" "is_prefix" (defArgs (top 15)) (defBody (top 15)) (defScope (top 15)) .none kv10 dc10 pm10 an10 cd10 ct10), sl10⟩)
    (c10 : PySem.W.codeIn K cd10 "is_prefix" = true)
    (k10 : PySem.W.keepIn K (.ref f10) = true)
    (a11 : PySem.W.nsIn K mainGlobals "need_prefix" = some (some (.ref f11)))
    (l11 : K.lookup f11 = some ⟨oc11, od11, .func (PySem.W.fnOf "need_prefix" "need_prefix" (defArgs (top 17)) (defBody (top 17)) (defScope (top 17)) .none kv11 dc11 pm11 an11 cd11 ct11), sl11⟩)
    (c11 : PySem.W.codeIn K cd11 "need_prefix" = true)
    (k11 : PySem.W.keepIn K (.ref f11) = true)
    (a12 : PySem.W.nsIn K mainGlobals "are_tags" = some (some (.ref f12)))
    (l12 : K.lookup f12 = some ⟨oc12, od12, .func (PySem.W.fnOf "are_tags" "are_tags" (defArgs (top 16)) (defBody (top 16)) (defScope (top 16)) .none kv12 dc12 pm12 an12 cd12 ct12), sl12⟩)
    (c12 : PySem.W.codeIn K cd12 "are_tags" = true)
    (k12 : PySem.W.keepIn K (.ref f12) = true)
    (a13 : PySem.W.nsIn K mainGlobals "need_route" = some (some (.ref f13)))
    (l13 : K.lookup f13 = some ⟨oc13, od13, .func (PySem.W.fnOf "need_route" "need_route" (defArgs (top 18)) (defBody (top 18)) (defScope (top 18)) .none kv13 dc13 pm13 an13 cd13 ct13), sl13⟩)
    (c13 : PySem.W.codeIn K cd13 "need_route" = true)
    (k13 : PySem.W.keepIn K (.ref f13) = true)
    (a14 : PySem.W.nsIn K mainGlobals "need_rule" = some (some (.ref f14)))
    (l14 : K.lookup f14 = some ⟨oc14, od14, .func (PySem.W.fnOf "need_rule" "need_rule" (defArgs (top 19)) (defBody (top 19)) (defScope (top 19)) .none kv14 dc14 pm14 an14 cd14 ct14), sl14⟩)
    (c14 : PySem.W.codeIn K cd14 "need_rule" = true)
    (k14 : PySem.W.keepIn K (.ref f14) = true)
    (a15 : PySem.W.nsIn K mainGlobals "_law_told" = some (some (.ref f15)))
    (l15 : K.lookup f15 = some ⟨oc15, od15, .func (PySem.W.fnOf "_law_told" "_law_told" (defArgs (top 32)) (defBody (top 32)) (defScope (top 32)) .none kv15 dc15 pm15 an15 cd15 ct15), sl15⟩)
    (c15 : PySem.W.codeIn K cd15 "_law_told" = true)
    (k15 : PySem.W.keepIn K (.ref f15) = true)
    (a16 : PySem.W.nsIn K mainGlobals "law" = some (some (.ref f16)))
    (l16 : K.lookup f16 = some ⟨oc16, od16, .func (PySem.W.fnOf "law" "law" (defArgs (top 33)) (defBody (top 33)) (defScope (top 33)) .none kv16 dc16 pm16 an16 cd16 ct16), sl16⟩)
    (c16 : PySem.W.codeIn K cd16 "law" = true)
    (k16 : PySem.W.keepIn K (.ref f16) = true)
    (kc_BadRoute : PySem.W.keepIn K (.ref C_BadRoute) = true)
    (ex_BadRoute : PySem.W.excIn K C_BadRoute [.type "ValueError", .type "Exception", .type "BaseException", .type "object"] "ValueError.__new__" = true)
    (su_BadRoute : PySem.W.subIn K (.ref C_BadRoute) (.type "BaseException") = some true)
    (ty_BadRoute : PySem.W.typeIn K (.ref C_BadRoute) = some (.type "type"))
    (kc_BadRule : PySem.W.keepIn K (.ref C_BadRule) = true)
    (ex_BadRule : PySem.W.excIn K C_BadRule [.type "ValueError", .type "Exception", .type "BaseException", .type "object"] "ValueError.__new__" = true)
    (su_BadRule : PySem.W.subIn K (.ref C_BadRule) (.type "BaseException") = some true)
    (ty_BadRule : PySem.W.typeIn K (.ref C_BadRule) = some (.type "type"))
    (z_ValueError : PySem.W.nsIn K mainGlobals "ValueError" = some none)
    (z_all : PySem.W.nsIn K mainGlobals "all" = some none)
    (z_int : PySem.W.nsIn K mainGlobals "int" = some none)
    (z_isinstance : PySem.W.nsIn K mainGlobals "isinstance" = some none)
    (z_len : PySem.W.nsIn K mainGlobals "len" = some none)
    (z_list : PySem.W.nsIn K mainGlobals "list" = some none)
    (z_max : PySem.W.nsIn K mainGlobals "max" = some none)
    (z_min : PySem.W.nsIn K mainGlobals "min" = some none)
    (z_range : PySem.W.nsIn K mainGlobals "range" = some none)
    (z_set : PySem.W.nsIn K mainGlobals "set" = some none)
    (z_sorted : PySem.W.nsIn K mainGlobals "sorted" = some none)
    (z_sum : PySem.W.nsIn K mainGlobals "sum" = some none)
    (z_tuple : PySem.W.nsIn K mainGlobals "tuple" = some none)
    (z_zip : PySem.W.nsIn K mainGlobals "zip" = some none)
    (v_MOST_AHEAD : PySem.W.nsIn K mainGlobals "MOST_AHEAD" = some (some (.int 3 t_MOST_AHEAD)))
    (v_MOST_NUMBER : PySem.W.nsIn K mainGlobals "MOST_NUMBER" = some (some (.int 999 t_MOST_NUMBER)))
    (v_MOST_PATH : PySem.W.nsIn K mainGlobals "MOST_PATH" = some (some (.int 12 t_MOST_PATH)))
    (v_MOST_SIGNS : PySem.W.nsIn K mainGlobals "MOST_SIGNS" = some (some (.int 16 t_MOST_SIGNS)))
    (v_MOST_TAG : PySem.W.nsIn K mainGlobals "MOST_TAG" = some (some (.int 99 t_MOST_TAG)))
    (v_MOST_TAGS : PySem.W.nsIn K mainGlobals "MOST_TAGS" = some (some (.int 4 t_MOST_TAGS)))
    (v_MOST_WEIGHT : PySem.W.nsIn K mainGlobals "MOST_WEIGHT" = some (some (.int 1000 t_MOST_WEIGHT)))
    (v_DEEDS : PySem.W.nsIn K mainGlobals "DEEDS" = some (some (.ref kta_DEEDS)))
    (q_DEEDS : K.lookup kta_DEEDS = some ⟨.type "tuple", kto_DEEDS, .seq #[.str "no" ktt_DEEDS_0, .str "yes" ktt_DEEDS_1, .str "on" ktt_DEEDS_2] ktn_DEEDS, kts_DEEDS⟩)
    (wk_BadRoute_BadRoute : PySem.W.subIn K (.ref C_BadRoute) (.ref C_BadRoute) = some true)
    (wk_BadRoute_BadRule : PySem.W.subIn K (.ref C_BadRoute) (.ref C_BadRule) = some false)
    (wk_BadRoute_NoNeighbour : PySem.W.subIn K (.ref C_BadRoute) (.ref C_NoNeighbour) = some false)
    (wk_BadRoute_NoLine : PySem.W.subIn K (.ref C_BadRoute) (.ref C_NoLine) = some false)
    (wv_BadRoute : PySem.W.subIn K (.ref C_BadRoute) (.type "ValueError") = some true)
    (wx_BadRoute : PySem.W.subIn K (.ref C_BadRoute) (.ref C_PathError) = some true)
    (wc_BadRoute : PySem.W.isClsIn K C_BadRoute = true)
    (wt_BadRoute : PySem.W.typeIn K (.ref C_BadRoute) = some (.type "type"))
    (w1_BadRoute : PySem.W.findIn K (.ref C_BadRoute) "__getattribute__" = some (some (.builtin "BaseException.__getattribute__")))
    (w2_BadRoute : PySem.W.findIn K (.ref C_BadRoute) "__getattr__" = some none)
    (w3_BadRoute : PySem.W.subIn K (.ref C_BadRoute) (.type "BaseException") = some true)
    (w4_BadRoute : PySem.W.hasDictIn K C_BadRoute = true)
    (w5_BadRoute : PySem.W.findIn K (.ref C_BadRoute) "__class__" = some (some (.builtin "object.__class__")))
    (w6_BadRoute : PySem.W.mroIn K C_BadRoute (.type "object") = some true)
    (wk_BadRule_BadRoute : PySem.W.subIn K (.ref C_BadRule) (.ref C_BadRoute) = some false)
    (wk_BadRule_BadRule : PySem.W.subIn K (.ref C_BadRule) (.ref C_BadRule) = some true)
    (wk_BadRule_NoNeighbour : PySem.W.subIn K (.ref C_BadRule) (.ref C_NoNeighbour) = some false)
    (wk_BadRule_NoLine : PySem.W.subIn K (.ref C_BadRule) (.ref C_NoLine) = some false)
    (wv_BadRule : PySem.W.subIn K (.ref C_BadRule) (.type "ValueError") = some true)
    (wx_BadRule : PySem.W.subIn K (.ref C_BadRule) (.ref C_PathError) = some true)
    (wc_BadRule : PySem.W.isClsIn K C_BadRule = true)
    (wt_BadRule : PySem.W.typeIn K (.ref C_BadRule) = some (.type "type"))
    (w1_BadRule : PySem.W.findIn K (.ref C_BadRule) "__getattribute__" = some (some (.builtin "BaseException.__getattribute__")))
    (w2_BadRule : PySem.W.findIn K (.ref C_BadRule) "__getattr__" = some none)
    (w3_BadRule : PySem.W.subIn K (.ref C_BadRule) (.type "BaseException") = some true)
    (w4_BadRule : PySem.W.hasDictIn K C_BadRule = true)
    (w5_BadRule : PySem.W.findIn K (.ref C_BadRule) "__class__" = some (some (.builtin "object.__class__")))
    (w6_BadRule : PySem.W.mroIn K C_BadRule (.type "object") = some true)
    (wk_NoNeighbour_BadRoute : PySem.W.subIn K (.ref C_NoNeighbour) (.ref C_BadRoute) = some false)
    (wk_NoNeighbour_BadRule : PySem.W.subIn K (.ref C_NoNeighbour) (.ref C_BadRule) = some false)
    (wk_NoNeighbour_NoNeighbour : PySem.W.subIn K (.ref C_NoNeighbour) (.ref C_NoNeighbour) = some true)
    (wk_NoNeighbour_NoLine : PySem.W.subIn K (.ref C_NoNeighbour) (.ref C_NoLine) = some false)
    (wv_NoNeighbour : PySem.W.subIn K (.ref C_NoNeighbour) (.type "ValueError") = some true)
    (wx_NoNeighbour : PySem.W.subIn K (.ref C_NoNeighbour) (.ref C_PathError) = some true)
    (wc_NoNeighbour : PySem.W.isClsIn K C_NoNeighbour = true)
    (wt_NoNeighbour : PySem.W.typeIn K (.ref C_NoNeighbour) = some (.type "type"))
    (w1_NoNeighbour : PySem.W.findIn K (.ref C_NoNeighbour) "__getattribute__" = some (some (.builtin "BaseException.__getattribute__")))
    (w2_NoNeighbour : PySem.W.findIn K (.ref C_NoNeighbour) "__getattr__" = some none)
    (w3_NoNeighbour : PySem.W.subIn K (.ref C_NoNeighbour) (.type "BaseException") = some true)
    (w4_NoNeighbour : PySem.W.hasDictIn K C_NoNeighbour = true)
    (w5_NoNeighbour : PySem.W.findIn K (.ref C_NoNeighbour) "__class__" = some (some (.builtin "object.__class__")))
    (w6_NoNeighbour : PySem.W.mroIn K C_NoNeighbour (.type "object") = some true)
    (wk_NoLine_BadRoute : PySem.W.subIn K (.ref C_NoLine) (.ref C_BadRoute) = some false)
    (wk_NoLine_BadRule : PySem.W.subIn K (.ref C_NoLine) (.ref C_BadRule) = some false)
    (wk_NoLine_NoNeighbour : PySem.W.subIn K (.ref C_NoLine) (.ref C_NoNeighbour) = some false)
    (wk_NoLine_NoLine : PySem.W.subIn K (.ref C_NoLine) (.ref C_NoLine) = some true)
    (wv_NoLine : PySem.W.subIn K (.ref C_NoLine) (.type "ValueError") = some true)
    (wx_NoLine : PySem.W.subIn K (.ref C_NoLine) (.ref C_PathError) = some true)
    (wc_NoLine : PySem.W.isClsIn K C_NoLine = true)
    (wt_NoLine : PySem.W.typeIn K (.ref C_NoLine) = some (.type "type"))
    (w1_NoLine : PySem.W.findIn K (.ref C_NoLine) "__getattribute__" = some (some (.builtin "BaseException.__getattribute__")))
    (w2_NoLine : PySem.W.findIn K (.ref C_NoLine) "__getattr__" = some none)
    (w3_NoLine : PySem.W.subIn K (.ref C_NoLine) (.type "BaseException") = some true)
    (w4_NoLine : PySem.W.hasDictIn K C_NoLine = true)
    (w5_NoLine : PySem.W.findIn K (.ref C_NoLine) "__class__" = some (some (.builtin "object.__class__")))
    (w6_NoLine : PySem.W.mroIn K C_NoLine (.type "object") = some true)
    (w7 : PySem.W.specialIn K (.builtin "object.__class__") "__get__" = some (some (.builtin "getset_descriptor.__get__")))
    (wcP : PySem.W.isClsIn K C_PathError = true)
    (wtP : PySem.W.typeIn K (.ref C_PathError) = some (.type "type"))
    (wsP : PySem.W.subIn K (.ref C_PathError) (.type "BaseException") = some true)
    (w8 : PySem.W.takesIn K (.builtin "object.__class__") = some true)
    : ∃ fd : FuncData, (∀ (s : Shared) (v : Value), BindsTo s fd ⟨[v], []⟩ [("_law_script", v)]) ∧ ∀ base : Heap, K.In base → base.Ns mainGlobals mg → LawF l.prog w (ghT K) mg base 5 fa fd "_law_script" F_law := by
  have e := hfa.symm.trans (PySem.W.mg_of X G a16)
  cases e
  have e_BadRoute : (ghT K).cA 1 = C_BadRoute := gaN_of aC_BadRoute
  have e_BadRule : (ghT K).cA 2 = C_BadRule := gaN_of aC_BadRule
  have e_NoLine : (ghT K).cA 6 = C_NoLine := gaN_of aC_NoLine
  have e_NoNeighbour : (ghT K).cA 3 = C_NoNeighbour := gaN_of aC_NoNeighbour
  have e_PathError : (ghT K).cA 0 = C_PathError := gaN_of aC_PathError
  have D_X_BadRoute : ExD (ghT K).K mg "BadRoute" ((ghT K).cA 1) := ExD.mk' X G e_BadRoute aC_BadRoute ex_BadRoute kc_BadRoute su_BadRoute ty_BadRoute
  have D_X_BadRule : ExD (ghT K).K mg "BadRule" ((ghT K).cA 2) := ExD.mk' X G e_BadRule aC_BadRule ex_BadRule kc_BadRule su_BadRule ty_BadRule
  have D_DEEDS : GKt (ghT K).K mg "DEEDS" ["no", "yes", "on"] := GKt.mk' X G v_DEEDS q_DEEDS (by simp) (.cons ⟨_, rfl⟩ (.cons ⟨_, rfl⟩ (.cons ⟨_, rfl⟩ .nil)))
  have D_W : WordF (ghT K) mg := ⟨exc_all (by rw [e_BadRoute]; exact PySem.W.mg_of X G aC_BadRoute) (by rw [e_BadRule]; exact PySem.W.mg_of X G aC_BadRule) (by rw [e_NoNeighbour]; exact PySem.W.mg_of X G aC_NoNeighbour) (by rw [e_NoLine]; exact PySem.W.mg_of X G aC_NoLine),
    exc_all (exc_all (by rw [e_BadRoute]; exact kit_own wk_BadRoute_BadRoute wc_BadRoute wt_BadRoute wk_BadRoute_BadRoute) (by rw [e_BadRoute, e_BadRule]; exact kit_own wk_BadRoute_BadRule wc_BadRule wt_BadRule wk_BadRoute_BadRoute) (by rw [e_BadRoute, e_NoNeighbour]; exact kit_own wk_BadRoute_NoNeighbour wc_NoNeighbour wt_NoNeighbour wk_BadRoute_BadRoute) (by rw [e_BadRoute, e_NoLine]; exact kit_own wk_BadRoute_NoLine wc_NoLine wt_NoLine wk_BadRoute_BadRoute)) (exc_all (by rw [e_BadRule, e_BadRoute]; exact kit_own wk_BadRule_BadRoute wc_BadRoute wt_BadRoute wk_BadRule_BadRule) (by rw [e_BadRule]; exact kit_own wk_BadRule_BadRule wc_BadRule wt_BadRule wk_BadRule_BadRule) (by rw [e_BadRule, e_NoNeighbour]; exact kit_own wk_BadRule_NoNeighbour wc_NoNeighbour wt_NoNeighbour wk_BadRule_BadRule) (by rw [e_BadRule, e_NoLine]; exact kit_own wk_BadRule_NoLine wc_NoLine wt_NoLine wk_BadRule_BadRule)) (exc_all (by rw [e_NoNeighbour, e_BadRoute]; exact kit_own wk_NoNeighbour_BadRoute wc_BadRoute wt_BadRoute wk_NoNeighbour_NoNeighbour) (by rw [e_NoNeighbour, e_BadRule]; exact kit_own wk_NoNeighbour_BadRule wc_BadRule wt_BadRule wk_NoNeighbour_NoNeighbour) (by rw [e_NoNeighbour]; exact kit_own wk_NoNeighbour_NoNeighbour wc_NoNeighbour wt_NoNeighbour wk_NoNeighbour_NoNeighbour) (by rw [e_NoNeighbour, e_NoLine]; exact kit_own wk_NoNeighbour_NoLine wc_NoLine wt_NoLine wk_NoNeighbour_NoNeighbour)) (exc_all (by rw [e_NoLine, e_BadRoute]; exact kit_own wk_NoLine_BadRoute wc_BadRoute wt_BadRoute wk_NoLine_NoLine) (by rw [e_NoLine, e_BadRule]; exact kit_own wk_NoLine_BadRule wc_BadRule wt_BadRule wk_NoLine_NoLine) (by rw [e_NoLine, e_NoNeighbour]; exact kit_own wk_NoLine_NoNeighbour wc_NoNeighbour wt_NoNeighbour wk_NoLine_NoLine) (by rw [e_NoLine]; exact kit_own wk_NoLine_NoLine wc_NoLine wt_NoLine wk_NoLine_NoLine)),
    exc_all (by rw [e_BadRoute]; exact kit_val wv_BadRoute) (by rw [e_BadRule]; exact kit_val wv_BadRule) (by rw [e_NoNeighbour]; exact kit_val wv_NoNeighbour) (by rw [e_NoLine]; exact kit_val wv_NoLine),
    exc_all (by rw [e_BadRoute]; exact ⟨w1_BadRoute, w2_BadRoute, w3_BadRoute, w4_BadRoute, w5_BadRoute, w7, w8, w6_BadRoute⟩) (by rw [e_BadRule]; exact ⟨w1_BadRule, w2_BadRule, w3_BadRule, w4_BadRule, w5_BadRule, w7, w8, w6_BadRule⟩) (by rw [e_NoNeighbour]; exact ⟨w1_NoNeighbour, w2_NoNeighbour, w3_NoNeighbour, w4_NoNeighbour, w5_NoNeighbour, w7, w8, w6_NoNeighbour⟩) (by rw [e_NoLine]; exact ⟨w1_NoLine, w2_NoLine, w3_NoLine, w4_NoLine, w5_NoLine, w7, w8, w6_NoLine⟩), PySem.W.mg_none_of X G z_isinstance, PySem.W.mg_none_of X G z_int, PySem.W.mg_none_of X G z_sum, PySem.W.mg_none_of X G z_ValueError⟩
  have D_P0 : mg "PathError" = some (.ref ((ghT K).cA 0)) := by rw [e_PathError]; exact PySem.W.mg_of X G aC_PathError
  have D_exm : ∀ c ∈ excL, PySem.W.exmOne (ghT K).K (.ref ((ghT K).cA c)) (.ref ((ghT K).cA 0)) = some true := exc_all (by rw [e_BadRoute, e_PathError]; exact exm_own wx_BadRoute wcP wtP wsP) (by rw [e_BadRule, e_PathError]; exact exm_own wx_BadRule wcP wtP wsP) (by rw [e_NoNeighbour, e_PathError]; exact exm_own wx_NoNeighbour wcP wtP wsP) (by rw [e_NoLine, e_PathError]; exact exm_own wx_NoLine wcP wtP wsP)
  have D_F_need_route : mg "need_route" = some (.ref ((ghT K).fA 0)) := by
    have e : (ghT K).fA 0 = f13 := gaN_of a13
    rw [e]; exact PySem.W.mg_of X G a13
  have D_F_need_rule : mg "need_rule" = some (.ref ((ghT K).fA 1)) := by
    have e : (ghT K).fA 1 = f14 := gaN_of a14
    rw [e]; exact PySem.W.mg_of X G a14
  have T : Tx (ghT K) mg := ⟨PySem.W.mg_none_of X G z_ValueError, PySem.W.mg_none_of X G z_all, PySem.W.mg_none_of X G z_int, PySem.W.mg_none_of X G z_isinstance, PySem.W.mg_none_of X G z_len, PySem.W.mg_none_of X G z_list, PySem.W.mg_none_of X G z_max, PySem.W.mg_none_of X G z_min, PySem.W.mg_none_of X G z_range, PySem.W.mg_none_of X G z_set, PySem.W.mg_none_of X G z_sorted, PySem.W.mg_none_of X G z_sum, PySem.W.mg_none_of X G z_tuple, PySem.W.mg_none_of X G z_zip, D_DEEDS, GInt.mk' X G v_MOST_AHEAD, GInt.mk' X G v_MOST_NUMBER, GInt.mk' X G v_MOST_PATH, GInt.mk' X G v_MOST_SIGNS, GInt.mk' X G v_MOST_TAG, GInt.mk' X G v_MOST_TAGS, GInt.mk' X G v_MOST_WEIGHT, D_X_BadRoute, D_X_BadRule, D_W, D_P0, D_exm, D_F_need_route, D_F_need_rule⟩
  have D_law_drawn : DefOk (ghT K).K mg "_law_drawn" (top 22) ["_law_cell_here", "_law_k"] := DefOk.mk' X G a0 l0 c0 k0 (fun _ _ _ _ _ _ us hl => match us, hl with | [_, _], _ => rfl)
  have D_law_cell : DefOk (ghT K).K mg "_law_cell" (top 21) ["_law_script", "_law_k"] := DefOk.mk' X G a1 l1 c1 k1 (fun _ _ _ _ _ _ us hl => match us, hl with | [_, _], _ => rfl)
  have D_law_bits : DefOk (ghT K).K mg "_law_bits" (top 24) ["_law_more", "_law_many"] := DefOk.mk' X G a2 l2 c2 k2 (fun _ _ _ _ _ _ us hl => match us, hl with | [_, _], _ => rfl)
  have D_law_numbers : DefOk (ghT K).K mg "_law_numbers" (top 23) ["_law_more", "_law_many"] := DefOk.mk' X G a3 l3 c3 k3 (fun _ _ _ _ _ _ us hl => match us, hl with | [_, _], _ => rfl)
  have D_law_tags : DefOk (ghT K).K mg "_law_tags" (top 26) ["_law_more"] := DefOk.mk' X G a4 l4 c4 k4 (fun _ _ _ _ _ _ us hl => match us, hl with | [_], _ => rfl)
  have D_law_spoilt_route : DefOk (ghT K).K mg "_law_spoilt_route" (top 28) ["_law_more", "_law_route"] := DefOk.mk' X G a5 l5 c5 k5 (fun _ _ _ _ _ _ us hl => match us, hl with | [_, _], _ => rfl)
  have D_law_spoilt_rule : DefOk (ghT K).K mg "_law_spoilt_rule" (top 29) ["_law_more", "_law_rule"] := DefOk.mk' X G a6 l6 c6 k6 (fun _ _ _ _ _ _ us hl => match us, hl with | [_, _], _ => rfl)
  have D_law_good_route : DefOk (ghT K).K mg "_law_good_route" (top 30) ["_law_route"] := DefOk.mk' X G a7 l7 c7 k7 (fun _ _ _ _ _ _ us hl => match us, hl with | [_], _ => rfl)
  have D_law_good_rule : DefOk (ghT K).K mg "_law_good_rule" (top 31) ["_law_rule"] := DefOk.mk' X G a8 l8 c8 k8 (fun _ _ _ _ _ _ us hl => match us, hl with | [_], _ => rfl)
  have D_law_word : DefOk (ghT K).K mg "_law_word" (top 27) ["_law_e"] := DefOk.mk' X G a9 l9 c9 k9 (fun _ _ _ _ _ _ us hl => match us, hl with | [_], _ => rfl)
  have D_is_prefix : DefOk (ghT K).K mg "is_prefix" (top 15) ["text"] := DefOk.mk' X G a10 l10 c10 k10 (fun _ _ _ _ _ _ us hl => match us, hl with | [_], _ => rfl)
  have D_need_prefix : DefOk (ghT K).K mg "need_prefix" (top 17) ["text"] := DefOk.mk' X G a11 l11 c11 k11 (fun _ _ _ _ _ _ us hl => match us, hl with | [_], _ => rfl)
  have D_are_tags : DefOk (ghT K).K mg "are_tags" (top 16) ["tags"] := DefOk.mk' X G a12 l12 c12 k12 (fun _ _ _ _ _ _ us hl => match us, hl with | [_], _ => rfl)
  have D_need_route : DefOk (ghT K).K mg "need_route" (top 18) ["route"] := DefOk.mk' X G a13 l13 c13 k13 (fun _ _ _ _ _ _ us hl => match us, hl with | [_], _ => rfl)
  have D_need_rule : DefOk (ghT K).K mg "need_rule" (top 19) ["rule"] := DefOk.mk' X G a14 l14 c14 k14 (fun _ _ _ _ _ _ us hl => match us, hl with | [_], _ => rfl)
  have D_law_told : DefOk (ghT K).K mg "_law_told" (top 32) ["_law_rule", "_law_thing"] := DefOk.mk' X G a15 l15 c15 k15 (fun _ _ _ _ _ _ us hl => match us, hl with | [_, _], _ => rfl)
  refine ⟨PySem.W.fnOf "law" "law" (defArgs (top 33)) (defBody (top 33)) (defScope (top 33)) .none kv16 dc16 pm16 an16 cd16 ct16, fun s v => .of_eq rfl, fun base _ _ => ?_⟩
  have G_law_drawn : GFn l.prog w (ghT K) mg base "_law_drawn" 1 2 fn_law_drawn := (d_law_drawn T D_law_drawn).pure (Fn.clean_pure _)
  have G_law_cell : GFn l.prog w (ghT K) mg base "_law_cell" 1 2 fn_law_cell := (d_law_cell T D_law_cell).pure (Fn.clean_pure _)
  have G_law_bits : GFn l.prog w (ghT K) mg base "_law_bits" 1 2 fn_law_bits := (d_law_bits T D_law_bits).pure (Fn.clean_pure _)
  have G_law_numbers : GFn l.prog w (ghT K) mg base "_law_numbers" 1 2 fn_law_numbers := (d_law_numbers T D_law_numbers).pure (Fn.clean_pure _)
  have G_law_tags : GFn l.prog w (ghT K) mg base "_law_tags" 1 1 fn_law_tags := (d_law_tags T D_law_tags).pure (Fn.clean_pure _)
  have G_law_spoilt_route : GFn l.prog w (ghT K) mg base "_law_spoilt_route" 1 2 fn_law_spoilt_route := (d_law_spoilt_route T D_law_spoilt_route).pure (Fn.clean_pure _)
  have G_law_spoilt_rule : GFn l.prog w (ghT K) mg base "_law_spoilt_rule" 1 2 fn_law_spoilt_rule := (d_law_spoilt_rule T D_law_spoilt_rule).pure (Fn.clean_pure _)
  have G_law_good_route : GFn l.prog w (ghT K) mg base "_law_good_route" 1 1 fn_law_good_route := (d_law_good_route T D_law_good_route).pure (Fn.clean_pure _)
  have G_law_good_rule : GFn l.prog w (ghT K) mg base "_law_good_rule" 1 1 fn_law_good_rule := (d_law_good_rule T D_law_good_rule).pure (Fn.clean_pure _)
  have G_law_word : GWord l.prog w (ghT K) mg base "_law_word" 1 := (d_law_word T D_law_word)
  have G_is_prefix : GFn l.prog w (ghT K) mg base "is_prefix" 1 1 fn_is_prefix := (d_is_prefix T D_is_prefix).pure (Fn.clean_pure _)
  have G_need_prefix : GFn l.prog w (ghT K) mg base "need_prefix" 2 1 fn_need_prefix := (d_need_prefix T D_need_prefix G_is_prefix).pure (Fn.clean_pure _)
  have G_are_tags : GFn l.prog w (ghT K) mg base "are_tags" 1 1 fn_are_tags := (d_are_tags T D_are_tags).pure (Fn.clean_pure _)
  have G_need_route : GFn l.prog w (ghT K) mg base "need_route" 3 1 fn_need_route := (d_need_route T D_need_route G_need_prefix G_are_tags).pure (Fn.clean_pure _)
  have G_need_rule : GFn l.prog w (ghT K) mg base "need_rule" 2 1 fn_need_rule := (d_need_rule T D_need_rule G_is_prefix).pure (Fn.clean_pure _)
  have G_law_told : GFn l.prog w (ghT K) mg base "_law_told" 4 2 fn_law_told := (d_law_told T D_law_told G_law_word G_need_route G_need_rule).pure (Fn.clean_pure _)
  exact d_law T (fun_mk l16 c16 k16) G_law_drawn G_law_cell G_law_bits G_law_numbers G_law_tags G_law_spoilt_route G_law_spoilt_rule G_law_good_route G_law_good_rule G_law_told
end DL
open PySem PySem.W PyProof.Rows in
set_option maxRecDepth 100000 in
set_option maxHeartbeats 0 in
theorem PySem.Challenge.cw_plainpath_k10_routes_and_rules_refused_holds : PySem.Challenge.rw_plainpath_k10_routes_and_rules_refused.Holds := by
  w_on; o_law; k_head; (case hw => w_witness2)
  k_fill
  refine DL.walk_end (l := PySem.Challenge.rw_plainpath_k10_routes_and_rules_refused) (k := 5) (x := "_law_script") (F := DL.F_law) DL.ghT (fun _ => rfl) rfl rfl ⟨rfl, by decide, by decide⟩ (fun w h Y => PySem.W.kIn_of Y) ?hF DL.law_true
  case hF =>
    intro w mg fa h KX G hmg
    refine' DL.all_mk KX G hmg ?aC_BadRoute ?aC_BadRule ?aC_NoLine ?aC_NoNeighbour ?aC_PathError ?a0 ?l0 ?c0 ?k0 ?a1 ?l1 ?c1 ?k1 ?a2 ?l2 ?c2 ?k2 ?a3 ?l3 ?c3 ?k3 ?a4 ?l4 ?c4 ?k4 ?a5 ?l5 ?c5 ?k5 ?a6 ?l6 ?c6 ?k6 ?a7 ?l7 ?c7 ?k7 ?a8 ?l8 ?c8 ?k8 ?a9 ?l9 ?c9 ?k9 ?a10 ?l10 ?c10 ?k10 ?a11 ?l11 ?c11 ?k11 ?a12 ?l12 ?c12 ?k12 ?a13 ?l13 ?c13 ?k13 ?a14 ?l14 ?c14 ?k14 ?a15 ?l15 ?c15 ?k15 ?a16 ?l16 ?c16 ?k16 ?kc_BadRoute ?ex_BadRoute ?su_BadRoute ?ty_BadRoute ?kc_BadRule ?ex_BadRule ?su_BadRule ?ty_BadRule ?z_ValueError ?z_all ?z_int ?z_isinstance ?z_len ?z_list ?z_max ?z_min ?z_range ?z_set ?z_sorted ?z_sum ?z_tuple ?z_zip ?v_MOST_AHEAD ?v_MOST_NUMBER ?v_MOST_PATH ?v_MOST_SIGNS ?v_MOST_TAG ?v_MOST_TAGS ?v_MOST_WEIGHT ?v_DEEDS ?q_DEEDS ?wk_BadRoute_BadRoute ?wk_BadRoute_BadRule ?wk_BadRoute_NoNeighbour ?wk_BadRoute_NoLine ?wv_BadRoute ?wx_BadRoute ?wc_BadRoute ?wt_BadRoute ?w1_BadRoute ?w2_BadRoute ?w3_BadRoute ?w4_BadRoute ?w5_BadRoute ?w6_BadRoute ?wk_BadRule_BadRoute ?wk_BadRule_BadRule ?wk_BadRule_NoNeighbour ?wk_BadRule_NoLine ?wv_BadRule ?wx_BadRule ?wc_BadRule ?wt_BadRule ?w1_BadRule ?w2_BadRule ?w3_BadRule ?w4_BadRule ?w5_BadRule ?w6_BadRule ?wk_NoNeighbour_BadRoute ?wk_NoNeighbour_BadRule ?wk_NoNeighbour_NoNeighbour ?wk_NoNeighbour_NoLine ?wv_NoNeighbour ?wx_NoNeighbour ?wc_NoNeighbour ?wt_NoNeighbour ?w1_NoNeighbour ?w2_NoNeighbour ?w3_NoNeighbour ?w4_NoNeighbour ?w5_NoNeighbour ?w6_NoNeighbour ?wk_NoLine_BadRoute ?wk_NoLine_BadRule ?wk_NoLine_NoNeighbour ?wk_NoLine_NoLine ?wv_NoLine ?wx_NoLine ?wc_NoLine ?wt_NoLine ?w1_NoLine ?w2_NoLine ?w3_NoLine ?w4_NoLine ?w5_NoLine ?w6_NoLine ?w7 ?wcP ?wtP ?wsP ?w8
    (case aC_BadRoute => k_is)
    (case aC_BadRule => k_is)
    (case aC_NoLine => k_is)
    (case aC_NoNeighbour => k_is)
    (case aC_PathError => k_is)
    (case a0 => k_is)
    (case l0 => k_is)
    (case c0 => k_is)
    (case k0 => k_is)
    (case a1 => k_is)
    (case l1 => k_is)
    (case c1 => k_is)
    (case k1 => k_is)
    (case a2 => k_is)
    (case l2 => k_is)
    (case c2 => k_is)
    (case k2 => k_is)
    (case a3 => k_is)
    (case l3 => k_is)
    (case c3 => k_is)
    (case k3 => k_is)
    (case a4 => k_is)
    (case l4 => k_is)
    (case c4 => k_is)
    (case k4 => k_is)
    (case a5 => k_is)
    (case l5 => k_is)
    (case c5 => k_is)
    (case k5 => k_is)
    (case a6 => k_is)
    (case l6 => k_is)
    (case c6 => k_is)
    (case k6 => k_is)
    (case a7 => k_is)
    (case l7 => k_is)
    (case c7 => k_is)
    (case k7 => k_is)
    (case a8 => k_is)
    (case l8 => k_is)
    (case c8 => k_is)
    (case k8 => k_is)
    (case a9 => k_is)
    (case l9 => k_is)
    (case c9 => k_is)
    (case k9 => k_is)
    (case a10 => k_is)
    (case l10 => k_is)
    (case c10 => k_is)
    (case k10 => k_is)
    (case a11 => k_is)
    (case l11 => k_is)
    (case c11 => k_is)
    (case k11 => k_is)
    (case a12 => k_is)
    (case l12 => k_is)
    (case c12 => k_is)
    (case k12 => k_is)
    (case a13 => k_is)
    (case l13 => k_is)
    (case c13 => k_is)
    (case k13 => k_is)
    (case a14 => k_is)
    (case l14 => k_is)
    (case c14 => k_is)
    (case k14 => k_is)
    (case a15 => k_is)
    (case l15 => k_is)
    (case c15 => k_is)
    (case k15 => k_is)
    (case a16 => k_is)
    (case l16 => k_is)
    (case c16 => k_is)
    (case k16 => k_is)
    (case kc_BadRoute => k_is)
    (case ex_BadRoute => k_exc)
    (case su_BadRoute => k_is)
    (case ty_BadRoute => k_is)
    (case kc_BadRule => k_is)
    (case ex_BadRule => k_exc)
    (case su_BadRule => k_is)
    (case ty_BadRule => k_is)
    (case z_ValueError => k_is)
    (case z_all => k_is)
    (case z_int => k_is)
    (case z_isinstance => k_is)
    (case z_len => k_is)
    (case z_list => k_is)
    (case z_max => k_is)
    (case z_min => k_is)
    (case z_range => k_is)
    (case z_set => k_is)
    (case z_sorted => k_is)
    (case z_sum => k_is)
    (case z_tuple => k_is)
    (case z_zip => k_is)
    (case v_MOST_AHEAD => k_is)
    (case v_MOST_NUMBER => k_is)
    (case v_MOST_PATH => k_is)
    (case v_MOST_SIGNS => k_is)
    (case v_MOST_TAG => k_is)
    (case v_MOST_TAGS => k_is)
    (case v_MOST_WEIGHT => k_is)
    (case v_DEEDS => k_is)
    (case q_DEEDS => k_is)
    (case wk_BadRoute_BadRoute => k_is)
    (case wk_BadRoute_BadRule => k_is)
    (case wk_BadRoute_NoNeighbour => k_is)
    (case wk_BadRoute_NoLine => k_is)
    (case wv_BadRoute => k_is)
    (case wx_BadRoute => k_is)
    (case wc_BadRoute => k_is)
    (case wt_BadRoute => k_is)
    (case w1_BadRoute => k_is)
    (case w2_BadRoute => k_is)
    (case w3_BadRoute => k_is)
    (case w4_BadRoute => k_is)
    (case w5_BadRoute => k_is)
    (case w6_BadRoute => k_is)
    (case wk_BadRule_BadRoute => k_is)
    (case wk_BadRule_BadRule => k_is)
    (case wk_BadRule_NoNeighbour => k_is)
    (case wk_BadRule_NoLine => k_is)
    (case wv_BadRule => k_is)
    (case wx_BadRule => k_is)
    (case wc_BadRule => k_is)
    (case wt_BadRule => k_is)
    (case w1_BadRule => k_is)
    (case w2_BadRule => k_is)
    (case w3_BadRule => k_is)
    (case w4_BadRule => k_is)
    (case w5_BadRule => k_is)
    (case w6_BadRule => k_is)
    (case wk_NoNeighbour_BadRoute => k_is)
    (case wk_NoNeighbour_BadRule => k_is)
    (case wk_NoNeighbour_NoNeighbour => k_is)
    (case wk_NoNeighbour_NoLine => k_is)
    (case wv_NoNeighbour => k_is)
    (case wx_NoNeighbour => k_is)
    (case wc_NoNeighbour => k_is)
    (case wt_NoNeighbour => k_is)
    (case w1_NoNeighbour => k_is)
    (case w2_NoNeighbour => k_is)
    (case w3_NoNeighbour => k_is)
    (case w4_NoNeighbour => k_is)
    (case w5_NoNeighbour => k_is)
    (case w6_NoNeighbour => k_is)
    (case wk_NoLine_BadRoute => k_is)
    (case wk_NoLine_BadRule => k_is)
    (case wk_NoLine_NoNeighbour => k_is)
    (case wk_NoLine_NoLine => k_is)
    (case wv_NoLine => k_is)
    (case wx_NoLine => k_is)
    (case wc_NoLine => k_is)
    (case wt_NoLine => k_is)
    (case w1_NoLine => k_is)
    (case w2_NoLine => k_is)
    (case w3_NoLine => k_is)
    (case w4_NoLine => k_is)
    (case w5_NoLine => k_is)
    (case w6_NoLine => k_is)
    (case w7 => k_is)
    (case wcP => k_is)
    (case wtP => k_is)
    (case wsP => k_is)
    (case w8 => k_is)


import PyProof.Rows.All
import Wide.All
import OpenK.AllK
import Wide.FinOn
import HandS.ForMost
import HandS.Wide
import HandS.IsInst
import HandS.Flow
import HandS.ForExc
import PyProof.ReprRoads
import HandS.Ends
import HandS.DeepEq
import PyProof.NeKinds
import HandS.Conv
import HandS.Remove
import HandS.SetFor
import HandS.SortRule
import HandS.Property
import HandS.Star
import PyProof.InstNe
import HandS.TryOnly
import HandS.FStr
import HandS.Defaults
import PySem.Challenge.RW_rowqueue_k86_lanes_as_maps
set_option Elab.async false
set_option linter.all false
set_option maxRecDepth 100000
set_option autoImplicit false
/-! RQ: a program as functions of plain data and a store; the walk is by rules, one a construct. -/
namespace RQ
open PySem PySem.Spec PyProof.Rows L2
abbrev SV := L2.St

/-- plain data; `ref n` is the n-th thing of the store (what may change) -/
inductive D where
  | non | bl (b : Bool) | int (i : Int) | str (x : Str)
  | tup (xs : List D) | lst (xs : List D) | sls (xs : List D) | dic (kvs : List (Key × D)) | ins (c : Str) (fs : List (Str × D))
  | ref (n : Nat) | ty (n : String) | obj (a : Addr)
inductive O where
  | lst (xs : List D) | dic (kvs : List (Key × D)) | ins (c : Str) (fs : List (Str × D))
abbrev Sto := List O
abbrev EV := List (Option D)
inductive Res (α : Type) where
  | ok (a : α) (s : Sto) | exc (c : Str) (fs : List (Str × D)) (s : Sto) | bad
abbrev M (α : Type) := Sto → Res α
inductive Fl where
  | nx | rt (d : D) | bk | ct
inductive SRes where
  | go (fl : Fl) (σ : EV) (s : Sto) | exc (c : Str) (fs : List (Str × D)) (σ : EV) (s : Sto) | bad
abbrev SM := EV → Sto → SRes

/-- a thing that ties a continuation: what reckons goes into the first part alone -/
inductive Tie {α : Type} (a : α) : Type
  | mk
def Res.bnd {α β : Type} (r : Res α) (g : α → M β) (_ : Tie g := Tie.mk) : Res β :=
  match r with
  | .ok a s => g a s
  | .exc c fs s => .exc c fs s
  | .bad => .bad
def bnd {α β : Type} (f : M α) (g : α → M β) : M β := fun s => (f s).bnd g
def ret {α : Type} (a : α) : M α := fun s => .ok a s
def bad {α : Type} : M α := fun _ => .bad
theorem bnd_ok {α β : Type} (a : α) (s : Sto) (g : α → M β) : (Res.ok a s).bnd g = g a s := rfl

/-! ### how data lies in a heap -/
/-- where the things of the store lie (ix), and what nobody may see (ex: a list that is being made) -/
structure MM where
  ix : List Addr
  ex : List Addr
def MM.has (m : MM) (a : Addr) : Prop := a ∈ m.ix ∨ a ∈ m.ex
instance (m : MM) (a : Addr) : Decidable (m.has a) := inferInstanceAs (Decidable (_ ∨ _))
def hid (m : MM) (H : Hp) : Hp := fun b => if m.has b then none else H b
mutual
inductive RV (K : PySem.W.Frag) (m : MM) (G : Hp) : D → V → Prop where
  | non : RV K m G .non .non
  | bl (b : Bool) : RV K m G (.bl b) (.bl b)
  | int (i : Int) : RV K m G (.int i) (.int i)
  | str (x : Str) : RV K m G (.str x) (.str x)
  | ty (n : String) : RV K m G (.ty n) (.ty n)
  | obj (a : Addr) : RV K m G (.obj a) (.ref a)
  | ref {n : Nat} {a : Addr} : m.ix[n]? = some a → RV K m G (.ref n) (.ref a)
  | tup {a : Addr} {vs : List V} {ds : List D} : SqT K G a vs → RVs K m G ds vs → RV K m G (.tup ds) (.ref a)
  | lst {a : Addr} {vs : List V} {ds : List D} : G a = some (.lst vs) → RVs K m G ds vs → RV K m G (.lst ds) (.ref a)
  | sls {a : Addr} {vs : List V} {ds : List D} : SqL K G a vs → RVs K m G ds vs → RV K m G (.sls ds) (.ref a)
  | dic {a : Addr} {kvs : List (Key × D)} {kws : List (Key × V)} : Rd G a (.dK kws) → kws.map (·.1) = kvs.map (·.1) →
      RVs K m G (kvs.map (·.2)) (kws.map (·.2)) → RV K m G (.dic kvs) (.ref a)
  | ins {a C dx : Addr} {c : Str} {fs : List (Str × D)} {gs : List (Str × V)} : PySem.W.nsIn K mainGlobals c = some (some (.ref C)) → G a = some (.ins C dx gs) → gs.map (·.1) = fs.map (·.1) →
      RVs K m G (fs.map (·.2)) (gs.map (·.2)) → RV K m G (.ins c fs) (.ref a)
inductive RVs (K : PySem.W.Frag) (m : MM) (G : Hp) : List D → List V → Prop where
  | nil : RVs K m G [] []
  | cons {d : D} {v : V} {ds : List D} {vs : List V} : RV K m G d v → RVs K m G ds vs → RVs K m G (d :: ds) (v :: vs)
end

theorem rd_mono {G G' : Hp} (hs : Same G G') {a : Addr} {u : HO} (h : Rd G a u) : Rd G' a u := by
  rcases h with h | ⟨o, h⟩
  · exact .inl (hs _ _ h)
  · exact .inr ⟨o, hs _ _ h⟩
theorem sqt_mono {K : PySem.W.Frag} {G G' : Hp} (hs : Same G G') {a : Addr} {xs : List V} (h : SqT K G a xs) : SqT K G' a xs :=
  h.elim (fun z => .inl (rd_mono hs z)) .inr
theorem sql_mono {K : PySem.W.Frag} {G G' : Hp} (hs : Same G G') {a : Addr} {xs : List V} (h : SqL K G a xs) : SqL K G' a xs :=
  h.elim (fun z => .inl (rd_mono hs z)) .inr

section
variable {K : PySem.W.Frag} {m m' : MM} {G G' : Hp}
theorem pre_get {m m' : List Addr} (hm : m <+: m') {n : Nat} {a : Addr} (h : m[n]? = some a) : m'[n]? = some a := by
  obtain ⟨r, rfl⟩ := hm
  obtain ⟨h1, h2⟩ := List.getElem?_eq_some_iff.mp h
  rw [List.getElem?_append_left h1]; exact h
mutual
theorem RV.mono (hm : m.ix <+: m'.ix) (hs : Same G G') : ∀ {d : D} {v : V}, RV K m G d v → RV K m' G' d v
  | _, _, .non => .non
  | _, _, .bl b => .bl b
  | _, _, .int i => .int i
  | _, _, .str x => .str x
  | _, _, .ty n => .ty n
  | _, _, .obj a => .obj a
  | _, _, .ref h => .ref (pre_get hm h)
  | _, _, .tup h r => .tup (sqt_mono hs h) (RVs.mono hm hs r)
  | _, _, .lst h r => .lst (hs _ _ h) (RVs.mono hm hs r)
  | _, _, .sls h r => .sls (sql_mono hs h) (RVs.mono hm hs r)
  | _, _, .dic h e r => .dic (rd_mono hs h) e (RVs.mono hm hs r)
  | _, _, .ins n h e r => .ins n (hs _ _ h) e (RVs.mono hm hs r)
theorem RVs.mono (hm : m.ix <+: m'.ix) (hs : Same G G') : ∀ {ds : List D} {vs : List V}, RVs K m G ds vs → RVs K m' G' ds vs
  | _, _, .nil => .nil
  | _, _, .cons h r => .cons (RV.mono hm hs h) (RVs.mono hm hs r)
end
theorem RVs.length : ∀ {ds : List D} {vs : List V}, RVs K m G ds vs → vs.length = ds.length
  | _, _, .nil => rfl
  | _, _, .cons _ r => by rw [List.length_cons, List.length_cons, RVs.length r]
theorem RVs.get : ∀ {ds : List D} {vs : List V} {i : Nat} {d : D}, RVs K m G ds vs → ds[i]? = some d → ∃ v, vs[i]? = some v ∧ RV K m G d v
  | _, _, _, _, .nil, e => by simp at e
  | _, _, 0, _, .cons h _, e => by simp at e; subst e; exact ⟨_, rfl, h⟩
  | _, _, i + 1, d, .cons _ r, e => by
    obtain ⟨v, h1, h2⟩ := RVs.get (i := i) (d := d) r (by simpa using e)
    exact ⟨v, by simpa using h1, h2⟩
theorem RVs.get' : ∀ {ds : List D} {vs : List V} {i : Nat} {v : V}, RVs K m G ds vs → vs[i]? = some v → ∃ d, ds[i]? = some d ∧ RV K m G d v
  | _, _, _, _, .nil, e => by simp at e
  | _, _, 0, _, .cons h _, e => by simp at e; subst e; exact ⟨_, rfl, h⟩
  | _, _, i + 1, d, .cons _ r, e => by
    obtain ⟨v, h1, h2⟩ := RVs.get' (i := i) (v := d) r (by simpa using e)
    exact ⟨v, by simpa using h1, h2⟩
theorem RVs.append : ∀ {ds es : List D} {vs ws : List V}, RVs K m G ds vs → RVs K m G es ws → RVs K m G (ds ++ es) (vs ++ ws)
  | _, _, _, _, .nil, s => s
  | _, _, _, _, .cons h r, s => .cons h (RVs.append r s)
theorem RVs.take : ∀ {ds : List D} {vs : List V} (n : Nat), RVs K m G ds vs → RVs K m G (ds.take n) (vs.take n)
  | _, _, 0, _ => .nil
  | _, _, _ + 1, .nil => .nil
  | _, _, n + 1, .cons h r => .cons h (RVs.take n r)
theorem RVs.drop : ∀ {ds : List D} {vs : List V} (n : Nat), RVs K m G ds vs → RVs K m G (ds.drop n) (vs.drop n)
  | _, _, 0, r => r
  | _, _, _ + 1, .nil => .nil
  | _, _, n + 1, .cons _ r => RVs.drop n r
theorem RVs.set {d : D} {v : V} (h : RV K m G d v) : ∀ {ds : List D} {vs : List V} (n : Nat), RVs K m G ds vs → RVs K m G (ds.set n d) (vs.set n v)
  | _, _, _, .nil => .nil
  | _, _, 0, .cons _ r => .cons h r
  | _, _, n + 1, .cons q r => .cons q (RVs.set h n r)
theorem RVs.reverse : ∀ {ds : List D} {vs : List V}, RVs K m G ds vs → RVs K m G ds.reverse vs.reverse
  | _, _, .nil => .nil
  | _, _, .cons h r => by
    rw [List.reverse_cons, List.reverse_cons]
    exact (RVs.reverse r).append (.cons h .nil)
end

structure Ext (m : MM) (H : Hp) (m' : MM) (H' : Hp) : Prop where
  pre : m.ix <+: m'.ix
  same : Same (hid m H) (hid m' H')
  exq : m'.ex = m.ex
  keep : ∀ a ∈ m.ex, H' a = H a
theorem Ext.refl (m : MM) (H : Hp) : Ext m H m H := ⟨List.prefix_rfl, Same.refl _, rfl, fun _ _ => rfl⟩
theorem Ext.trans {m m1 m2 : MM} {H H1 H2 : Hp} (a : Ext m H m1 H1) (b : Ext m1 H1 m2 H2) : Ext m H m2 H2 :=
  ⟨a.pre.trans b.pre, a.same.trans b.same, b.exq.trans a.exq, fun c hc => (b.keep c (by rw [a.exq]; exact hc)).trans (a.keep c hc)⟩

def RO (K : PySem.W.Frag) (mg : Str → Option Value) (m : MM) (H : Hp) (a : Addr) : O → Prop
  | .lst ds => ∃ vs, H a = some (.lst vs) ∧ RVs K m (hid m H) ds vs
  | .dic kvs => ∃ kws, H a = some (.dK kws) ∧ kws.map (·.1) = kvs.map (·.1) ∧ RVs K m (hid m H) (kvs.map (·.2)) (kws.map (·.2))
  | .ins c fs => ∃ C dx gs, PySem.W.nsIn K mainGlobals c = some (some (.ref C)) ∧ H a = some (.ins C dx gs) ∧ gs.map (·.1) = fs.map (·.1) ∧ RVs K m (hid m H) (fs.map (·.2)) (gs.map (·.2))
theorem RO.there {K : PySem.W.Frag} {mg : Str → Option Value} {m : MM} {H : Hp} {a : Addr} : ∀ {o : O}, RO K mg m H a o → ∃ u, H a = some u
  | .lst _, ⟨_, h, _⟩ => ⟨_, h⟩
  | .dic _, ⟨_, h, _⟩ => ⟨_, h⟩
  | .ins _ _, ⟨_, _, _, _, h, _⟩ => ⟨_, h⟩
theorem RO.mono {K : PySem.W.Frag} {mg : Str → Option Value} {m m' : MM} {H H' : Hp} {a : Addr} (e : Ext m H m' H') (ha : H' a = H a) : ∀ {o : O}, RO K mg m H a o → RO K mg m' H' a o
  | .lst _, ⟨vs, h, r⟩ => ⟨vs, ha.trans h, r.mono e.pre e.same⟩
  | .dic _, ⟨kws, h, z, r⟩ => ⟨kws, ha.trans h, z, r.mono e.pre e.same⟩
  | .ins _ _, ⟨C, dx, gs, g, h, z, r⟩ => ⟨C, dx, gs, g, ha.trans h, z, r.mono e.pre e.same⟩

structure R (K : PySem.W.Frag) (mg : Str → Option Value) (m : MM) (s : Sto) (H : Hp) : Prop where
  len : m.ix.length = s.length
  nd : m.ix.Nodup
  obj : ∀ (n : Nat) (a : Addr) (o : O), m.ix[n]? = some a → s[n]? = some o → RO K mg m H a o
  ext : ∀ a ∈ m.ex, (∃ u, H a = some u) ∧ a ∉ m.ix
  ns : ∀ c C, PySem.W.nsIn K mainGlobals c = some (some (.ref C)) → mg c = some (.ref C)

section
variable {K : PySem.W.Frag} {mg : Str → Option Value} {m : MM} {s : Sto} {H : Hp}
theorem R.there (r : R K mg m s H) {a : Addr} (h : m.has a) : ∃ u, H a = some u := by
  rcases h with h | h
  · obtain ⟨n, hn⟩ := List.getElem?_of_mem h
    have h1 := (List.getElem?_eq_some_iff.mp hn).1
    rw [r.len] at h1
    exact (r.obj n a _ hn (List.getElem?_eq_getElem h1)).there
  · exact (r.ext a h).1
theorem R.fresh (r : R K mg m s H) {p : Addr} (h : H p = none) : ¬ m.has p := fun z => by
  obtain ⟨u, e⟩ := r.there z
  rw [h] at e; cases e
theorem hid_in {a : Addr} (h : m.has a) : hid m H a = none := if_pos h
theorem hid_out {a : Addr} (h : ¬ m.has a) : hid m H a = H a := if_neg h
theorem of_hid {a : Addr} {o : HO} (h : hid m H a = some o) : ¬ m.has a ∧ H a = some o := by
  unfold hid at h
  by_cases z : m.has a
  · rw [if_pos z] at h; cases h
  · rw [if_neg z] at h; exact ⟨z, h⟩
/-- a new thing that will never change -/
theorem R.newF (r : R K mg m s H) {p : Addr} {o : HO} (h : H p = none) : Ext m H m (upd H p o) ∧ R K mg m s (upd H p o) ∧ hid m (upd H p o) p = some o := by
  have hp := r.fresh h
  have nx : ∀ a ∈ m.ex, a ≠ p := fun a ha z => hp (.inr (z ▸ ha))
  have e : Ext m H m (upd H p o) := ⟨List.prefix_rfl, fun b u q => by
    obtain ⟨q1, q2⟩ := of_hid q
    rw [hid_out q1, upd_ne (ne_of_none q2 h)]; exact q2, rfl, fun a ha => upd_ne (nx a ha)⟩
  refine ⟨e, ⟨r.len, r.nd, fun n a ob h1 h2 => ?_, fun a ha => ?_, r.ns⟩, by rw [hid_out hp, upd_same]⟩
  · have ha : a ≠ p := fun z => hp (.inl (z ▸ List.mem_of_getElem? h1))
    exact (r.obj n a ob h1 h2).mono e (upd_ne ha)
  · rw [upd_ne (nx a ha)]; exact r.ext a ha
/-- the store has one thing more -/
def MM.more (m : MM) (p : Addr) : MM := ⟨m.ix ++ [p], m.ex⟩
theorem R.newS (r : R K mg m s H) {p : Addr} {ho : HO} {o : O} (h : H p = none)
    (hn : Ext m H (m.more p) (upd H p ho) → RO K mg (m.more p) (upd H p ho) p o) : Ext m H (m.more p) (upd H p ho) ∧ R K mg (m.more p) (s ++ [o]) (upd H p ho) := by
  have hp := r.fresh h
  have nx : ∀ a ∈ m.ex, a ≠ p := fun a ha z => hp (.inr (z ▸ ha))
  have e : Ext m H (m.more p) (upd H p ho) := ⟨List.prefix_append _ _, fun b u q => by
    obtain ⟨q1, q2⟩ := of_hid q
    have nb : b ≠ p := ne_of_none q2 h
    rw [hid_out (m := m.more p) (fun z => z.elim (fun z => (List.mem_append.mp z).elim (fun y => q1 (.inl y)) fun y => nb (by simpa using y)) fun z => q1 (.inr z)), upd_ne nb]; exact q2, rfl, fun a ha => upd_ne (nx a ha)⟩
  refine ⟨e, ⟨by show (m.ix ++ [p]).length = _; simp [r.len], ?_, fun n a ob h1 h2 => ?_, fun a ha => ?_, r.ns⟩⟩
  · exact List.nodup_append.mpr ⟨r.nd, by simp, fun a ha b hb => by
      have : b = p := by simpa using hb
      subst this
      exact fun z => hp (.inl (z ▸ ha))⟩
  · have h1 : (m.ix ++ [p])[n]? = some a := h1
    by_cases hl : n < m.ix.length
    · rw [List.getElem?_append_left hl] at h1
      rw [List.getElem?_append_left (by rw [← r.len]; exact hl)] at h2
      have ha : a ≠ p := fun z => hp (.inl (z ▸ List.mem_of_getElem? h1))
      exact (r.obj n a ob h1 h2).mono e (upd_ne ha)
    · have hn' : n = m.ix.length := by
        have := (List.getElem?_eq_some_iff.mp h1).1
        simp at this; omega
      subst hn'
      simp at h1
      rw [r.len] at h2
      simp at h2
      subst h1 h2
      exact hn e
  · refine ⟨by rw [upd_ne (nx a ha)]; exact (r.ext a ha).1, fun z => ?_⟩
    rcases List.mem_append.mp (show a ∈ m.ix ++ [p] from z) with z | z
    · exact (r.ext a ha).2 z
    · exact nx a ha (by simpa using z)
/-- a thing of the store changes -/
theorem R.put (r : R K mg m s H) {n : Nat} {a : Addr} {ho : HO} {o : O} (ha : m.ix[n]? = some a)
    (hn : Ext m H m (upd H a ho) → RO K mg m (upd H a ho) a o) : Ext m H m (upd H a ho) ∧ R K mg m (s.set n o) (upd H a ho) := by
  have am : a ∈ m.ix := List.mem_of_getElem? ha
  have nx : ∀ b ∈ m.ex, b ≠ a := fun b hb z => (r.ext b hb).2 (by rw [z]; exact am)
  have e : Ext m H m (upd H a ho) := ⟨List.prefix_rfl, fun b u q => by
    obtain ⟨q1, q2⟩ := of_hid q
    have nb : b ≠ a := fun z => q1 (.inl (by rw [z]; exact am))
    rw [hid_out q1, upd_ne nb]; exact q2, rfl, fun b hb => upd_ne (nx b hb)⟩
  refine ⟨e, ⟨by rw [List.length_set]; exact r.len, r.nd, fun k b ob h1 h2 => ?_, fun b hb => ?_, r.ns⟩⟩
  · by_cases hk : k = n
    · subst hk
      rw [ha] at h1; cases h1
      have hl : k < s.length := by rw [← r.len]; exact (List.getElem?_eq_some_iff.mp ha).1
      rw [List.getElem?_set_self hl] at h2
      cases h2
      exact hn e
    · rw [List.getElem?_set_ne (Ne.symm hk)] at h2
      have hb : b ≠ a := fun z => by
        subst z
        obtain ⟨x1, y1⟩ := List.getElem?_eq_some_iff.mp h1
        obtain ⟨x2, y2⟩ := List.getElem?_eq_some_iff.mp ha
        exact hk ((List.getElem_inj r.nd).mp (y1.trans y2.symm))
      exact (r.obj k b ob h1 h2).mono e (upd_ne hb)
  · rw [upd_ne (nx b hb)]; exact r.ext b hb
/-- one thing more that nobody sees -/
def MM.cover (m : MM) (p : Addr) : MM := ⟨m.ix, p :: m.ex⟩
theorem R.cover (r : R K mg m s H) {p : Addr} {ho : HO} (h : H p = none) : R K mg (m.cover p) s (upd H p ho) ∧ Same (hid m H) (hid (m.cover p) (upd H p ho)) := by
  have hp := r.fresh h
  have sm : Same (hid m H) (hid (m.cover p) (upd H p ho)) := fun b u q => by
    obtain ⟨q1, q2⟩ := of_hid q
    have nb : b ≠ p := ne_of_none q2 h
    rw [hid_out (m := m.cover p) (fun z => z.elim (fun y => q1 (.inl y)) fun y => (List.mem_cons.mp y).elim nb fun y => q1 (.inr y)), upd_ne nb]; exact q2
  refine ⟨⟨r.len, r.nd, fun n a ob h1 h2 => ?_, fun a ha => ?_, r.ns⟩, sm⟩
  · have ha : a ≠ p := fun z => hp (.inl (z ▸ List.mem_of_getElem? h1))
    have q := r.obj n a ob h1 h2
    have px : m.ix <+: (m.cover p).ix := List.prefix_rfl
    cases ob with
    | lst ds => obtain ⟨vs, z, y⟩ := q; exact ⟨vs, (upd_ne ha).trans z, y.mono px sm⟩
    | dic kvs => obtain ⟨vs, z, y, x⟩ := q; exact ⟨vs, (upd_ne ha).trans z, y, x.mono px sm⟩
    | ins c fs => obtain ⟨C, dx, gs, z, y, x, u⟩ := q; exact ⟨C, dx, gs, z, (upd_ne ha).trans y, x, u.mono px sm⟩
  · rcases List.mem_cons.mp ha with z | z
    · subst z; exact ⟨⟨_, upd_same⟩, fun y => hp (.inl y)⟩
    · have na : a ≠ p := fun y => hp (.inr (y ▸ z))
      rw [upd_ne na]; exact r.ext a z
end

/-- the names of a def -/
structure RS (K : PySem.W.Frag) (m : MM) (G : Hp) (σd : EV) (σ : SV) : Prop where
  len : σ.length = σd.length
  get : ∀ (i : Nat) (d : D), σd[i]? = some (some d) → ∃ v, σ[i]? = some (some v) ∧ RV K m G d v
theorem RS.mono {K : PySem.W.Frag} {m m' : MM} {G G' : Hp} {σd : EV} {σ : SV} (hm : m.ix <+: m'.ix) (hs : Same G G') (h : RS K m G σd σ) : RS K m' G' σd σ :=
  ⟨h.len, fun i d e => let ⟨v, h1, h2⟩ := h.get i d e; ⟨v, h1, h2.mono hm hs⟩⟩
theorem RS.put {K : PySem.W.Frag} {m : MM} {G : Hp} {σd : EV} {σ : SV} {i : Nat} {d : D} {v : V} (h : RS K m G σd σ) (r : RV K m G d v) : RS K m G (σd.set i (some d)) (σ.set i (some v)) := by
  refine ⟨by simp [h.len], fun j e hj => ?_⟩
  by_cases hi : j = i
  · subst hi
    by_cases hl : j < σd.length
    · rw [List.getElem?_set_self hl] at hj
      cases hj
      exact ⟨v, List.getElem?_set_self (by rw [h.len]; exact hl), r⟩
    · rw [List.getElem?_eq_none (by simpa using hl)] at hj; cases hj
  · rw [List.getElem?_set_ne (Ne.symm hi)] at hj
    rw [List.getElem?_set_ne (Ne.symm hi)]
    exact h.get j e hj

/-! ### what is wanted of an outcome -/
def RX (K : PySem.W.Frag) (m : MM) (G : Hp) (fs : List (Str × D)) (d : Option Addr) : Prop :=
  (fs = [] ∧ d = none) ∨ ∃ dx gs, d = some dx ∧ G dx = some (.xd gs) ∧ gs.map (·.1) = fs.map (·.1) ∧ RVs K m G (fs.map (·.2)) (gs.map (·.2))
def XC (W : WX) (K : PySem.W.Frag) (mg : Str → Option Value) (σ : SV) (m : MM) (H : Hp) (c : Str) (fs : List (Str × D)) (s' : Sto) : Prop :=
  ∀ C d m' H', Ext m H m' H' → R K mg m' s' H' → mg c = some (.ref C) → RX K m' (hid m' H') fs d → W (.ref C) d σ H'
abbrev Rel (α β : Type) := MM → Hp → α → β → Prop
def Go {α β : Type} (W : WX) (K : PySem.W.Frag) (mg : Str → Option Value) (σ : SV) (rel : Rel α β) (m : MM) (H : Hp) (r : Res α) (Q : β → Hp → Prop) : Prop :=
  match r with
  | .ok a s' => ∀ b m' H', Ext m H m' H' → R K mg m' s' H' → rel m' (hid m' H') a b → Q b H'
  | .exc c fs s' => XC W K mg σ m H c fs s'
  | .bad => False
def relB : Rel Bool Bool := fun _ _ a b => b = a

section
variable {α β γ δ : Type} {W : WX} {K : PySem.W.Frag} {mg : Str → Option Value} {σ : SV} {rel : Rel α β} {rel2 : Rel γ δ} {m m1 : MM} {H H1 : Hp}
theorem XC.ext {c : Str} {fs : List (Str × D)} {s' : Sto} (e : Ext m H m1 H1) (h : XC W K mg σ m H c fs s') : XC W K mg σ m1 H1 c fs s' :=
  fun C d m' H' e' => h C d m' H' (e.trans e')
theorem Go.ext {r : Res α} {Q : β → Hp → Prop} (e : Ext m H m1 H1) (h : Go W K mg σ rel m H r Q) : Go W K mg σ rel m1 H1 r Q := by
  cases r with
  | ok a s' => exact fun b m' H' e' => h b m' H' (e.trans e')
  | exc c fs s' => exact XC.ext e h
  | bad => exact h
theorem Go.bnd {r : Res α} {g : α → M γ} {Q : δ → Hp → Prop} (h : Go W K mg σ rel2 m H (r.bnd g) Q) :
    Go W K mg σ rel m H r (fun b H1 => ∃ m1 a s1, Ext m H m1 H1 ∧ R K mg m1 s1 H1 ∧ rel m1 (hid m1 H1) a b ∧ Go W K mg σ rel2 m1 H1 (g a s1) Q) := by
  cases r with
  | ok a s' => exact fun b m' H' e' r' v' => ⟨m', a, s', e', r', v', Go.ext e' h⟩
  | exc c fs s' => exact h
  | bad => exact h
theorem Go.imp {r : Res α} {Q Q' : β → Hp → Prop} (h : Go W K mg σ rel m H r Q) (q : ∀ b H1, Q b H1 → Q' b H1) : Go W K mg σ rel m H r Q' := by
  cases r with
  | ok a s' => exact fun b m' H' e' r' v' => q _ _ (h b m' H' e' r' v')
  | exc c fs s' => exact h
  | bad => exact h
theorem Go.ok {a : α} {s : Sto} {b : β} {Q : β → Hp → Prop} (h : Go W K mg σ rel m H (.ok a s) Q) (r : R K mg m s H) (v : rel m (hid m H) a b) : Q b H := h b m H (Ext.refl m H) r v
end

/-! ### the judgements -/
def rE (X : Cx) (W : WX) (f : EV → M D) : TE := fun σ H Q => ∃ m σd s, R X.K X.mg m s H ∧ RS X.K m (hid m H) σd σ ∧ Go W X.K X.mg σ (RV X.K) m H (f σd s) Q
def rT (X : Cx) (W : WX) (f : EV → M Bool) : TT := fun σ H Q => ∃ m σd s, R X.K X.mg m s H ∧ RS X.K m (hid m H) σd σ ∧ Go W X.K X.mg σ relB m H (f σd s) Q
def rA (X : Cx) (W : WX) (f : EV → M (List D)) : TA := fun σ H Q => ∃ m σd s, R X.K X.mg m s H ∧ RS X.K m (hid m H) σd σ ∧ Go W X.K X.mg σ (RVs X.K) m H (f σd s) Q
structure IE (X : Cx) (W : WX) (e : Expr) (f : EV → M D) : Prop where
  pe : PE X e (rE X W f)
structure IT (X : Cx) (W : WX) (e : Expr) (f : EV → M Bool) : Prop where
  pt : PT X e (rT X W f)
structure IW (X : Cx) (W : WX) (e : Expr) (f : EV → M Bool) : Prop where
  pw : PW X e (rT X W f)
structure IA (X : Cx) (W : WX) (es : List Expr) (f : EV → M (List D)) : Prop where
  pa : PA X es (rA X W f)
theorem IW.it {X : Cx} {W : WX} {e : Expr} {f : EV → M Bool} (h : IW X W e f) : IT X W e f := ⟨h.pw.pt⟩

theorem pe_mono {X : Cx} {e : Expr} {t t' : TE} (h : PE X e t) (i : ∀ σ H Q, t' σ H Q → t σ H Q) : PE X e t' := ⟨fun pins s σ H Q I q => h.run pins s σ H Q I (i σ H Q q)⟩
theorem pt_mono {X : Cx} {e : Expr} {t t' : TT} (h : PT X e t) (i : ∀ σ H Q, t' σ H Q → t σ H Q) : PT X e t' := ⟨fun pins s σ H Q I q => h.run pins s σ H Q I (i σ H Q q)⟩
theorem pw_mono {X : Cx} {e : Expr} {t t' : TT} (h : PW X e t) (i : ∀ σ H Q, t' σ H Q → t σ H Q) : PW X e t' := ⟨fun wh pins s σ H Q I q => h.run wh pins s σ H Q I (i σ H Q q)⟩
theorem pa_mono {X : Cx} {es : List Expr} {t t' : TA} (h : PA X es t) (i : ∀ σ H Q, t' σ H Q → t σ H Q) : PA X es t' := ⟨fun ps pins s σ H Q I q => h.run ps pins s σ H Q I (i σ H Q q)⟩
theorem ps_mono {X : Cx} {st : Stmt} {t t' : TS} (h : PS X st t) (i : ∀ D σ H, t' D σ H → t D σ H) : PS X st t' := ⟨fun pins s σ H D I q => h.run pins s σ H D I (i D σ H q)⟩
theorem pss_mono {X : Cx} {st : List Stmt} {t t' : TS} (h : PSs X st t) (i : ∀ D σ H, t' D σ H → t D σ H) : PSs X st t' := ⟨fun pins s σ H D I q => h.run pins s σ H D I (i D σ H q)⟩

/-! ### by values -/
abbrev W0 : WX := fun _ _ _ _ => False
def g2 (X : Cx) (h : D → D → M D) : R2 := fun v u H Q => ∃ m x y s, R X.K X.mg m s H ∧ RV X.K m (hid m H) x v ∧ RV X.K m (hid m H) y u ∧ Go W0 X.K X.mg [] (RV X.K) m H (h x y s) Q
def g1 (X : Cx) (h : D → M D) : V → Hp → VK → Prop := fun v H Q => ∃ m x s, R X.K X.mg m s H ∧ RV X.K m (hid m H) x v ∧ Go W0 X.K X.mg [] (RV X.K) m H (h x s) Q
def gn (X : Cx) (h : List D → M D) : List V → Hp → VK → Prop := fun vs H Q => ∃ m xs s, R X.K X.mg m s H ∧ RVs X.K m (hid m H) xs vs ∧ Go W0 X.K X.mg [] (RV X.K) m H (h xs s) Q
def gt (X : Cx) (h : D → M Bool) : V → Hp → (Bool → Hp → Prop) → Prop := fun v H Q => ∃ m x s, R X.K X.mg m s H ∧ RV X.K m (hid m H) x v ∧ Go W0 X.K X.mg [] relB m H (h x s) Q
def OpI (X : Cx) (f : Value → Value → Sem Value) (h : D → D → M D) : Prop := OpR X f (g2 X h)
def UnI (X : Cx) (f : Value → Sem Value) (h : D → M D) : Prop := UnR X f (g1 X h)
def CallI (X : Cx) (f : Value) (h : List D → M D) : Prop := CallR X f (gn X h)
def TruI (X : Cx) (h : D → M Bool) : Prop := TruR X (gt X h)
/-- an operation by values raises nothing: its outcome serves any wish -/
def nox {α : Type} (f : M α) : M α := fun s => match f s with | .exc _ _ _ => .bad | r => r
theorem Go.nox {α β : Type} {W : WX} {K : PySem.W.Frag} {mg : Str → Option Value} {σ : SV} {rel : Rel α β} {m : MM} {H : Hp} {f : M α} {s : Sto} {Q : β → Hp → Prop} (h : Go W K mg σ rel m H (RQ.nox f s) Q) : Go W0 K mg [] rel m H (f s) Q := by
  unfold RQ.nox at h
  cases e : f s with
  | ok a s' => rw [e] at h; exact h
  | exc c fs s' => rw [e] at h; exact h.elim
  | bad => rw [e] at h; exact h.elim
end RQ

namespace RQ
open PySem PySem.Spec PyProof.Rows L2
section
variable {X : Cx} {W : WX} {pos : Pos}

/-! ### names, constants -/
def vGet (i : Nat) : EV → M D := fun σ s => match σ[i]? with | some (some d) => .ok d s | _ => .bad
theorem ie_var {i : Nat} {x : Str} (hN : X.N[i]? = some x) (hv : Vis X.env.scope x) (hd : (x == ("__debug__" : Str)) = false := by decide) (hcd : (x == ("__classdict__" : Str)) = false := by decide) : IE X W (.Name x pos) (vGet i) := by
  refine ⟨pe_mono (pe_var (pos := pos) hN hv hd hcd) fun σ H Q ⟨m, σd, s, hR, hS, hG⟩ => ?_⟩
  unfold vGet at hG
  split at hG
  · rename_i d e
    obtain ⟨v, h1, h2⟩ := hS.get i d e
    exact ⟨v, h1, hG.ok hR h2⟩
  · exact hG.elim
def cst (d : D) : EV → M D := fun _ s => .ok d s
theorem ie_int {i : Int} {j} : IE X W (.Constant (.int i) j pos) (cst (.int i)) := ⟨pe_mono pe_int fun σ H Q ⟨m, σd, s, hR, hS, hG⟩ => hG.ok hR (.int i)⟩
theorem ie_bl {b : Bool} {j} : IE X W (.Constant (.bool b) j pos) (cst (.bl b)) := ⟨pe_mono pe_bl fun σ H Q ⟨m, σd, s, hR, hS, hG⟩ => hG.ok hR (.bl b)⟩
theorem ie_non {j} : IE X W (.Constant .none j pos) (cst .non) := ⟨pe_mono pe_non fun σ H Q ⟨m, σd, s, hR, hS, hG⟩ => hG.ok hR .non⟩
theorem ie_str {x : Str} {j} : IE X W (.Constant (.str x) j pos) (cst (.str x)) := ⟨pe_mono pe_str fun σ H Q ⟨m, σd, s, hR, hS, hG⟩ => hG.ok hR (.str x)⟩
/-- a module's constant -/
theorem ie_glob {x : Str} {d : D} {v : V} {u : Value} (hg : Gl X x) (hm : X.mg x = some u) (r : RelV v u) (h : ∀ m G, RV X.K m G d v) (hd : (x == ("__debug__" : Str)) = false := by decide) : IE X W (.Name x pos) (cst d) :=
  ⟨pe_mono (pe_glob hg hm r hd) fun σ H Q ⟨m, σd, s, hR, hS, hG⟩ => hG.ok hR (h _ _)⟩
theorem ie_ty {x : Str} {n : String} (hg : Gl X x) (hm : X.mg x = none) (hv : bootBuiltins x = some (.type n)) (hn : x ≠ "__name__" := by decide) (hd : (x == ("__debug__" : Str)) = false := by decide) : IE X W (.Name x pos) (cst (.ty n)) :=
  ⟨pe_mono (pe_bltn (v := .ty n) hg hm hv rfl hn hd) fun σ H Q ⟨m, σd, s, hR, hS, hG⟩ => hG.ok hR (.ty n)⟩

/-! ### operators -/
variable {a b c : Expr} {f g h : EV → M D}
def m2 (o : D → D → M D) (f g : EV → M D) : EV → M D := fun σ => bnd (f σ) fun x => bnd (g σ) fun y => nox (o x y)
def m1 (o : D → M D) (f : EV → M D) : EV → M D := fun σ => bnd (f σ) fun x => nox (o x)
theorem two {o : D → D → M D} (σ : SV) (H : Hp) (Q : VK) (hw : rE X W (m2 o f g) σ H Q) : tOp (g2 X o) (rE X W f) (rE X W g) σ H Q := by
  obtain ⟨m, σd, s, hR, hS, hG⟩ := hw
  refine ⟨m, σd, s, hR, hS, (Go.bnd (rel := RV X.K) hG).imp fun x H1 ⟨m1, d, s1, e1, r1, v1, g1⟩ => ?_⟩
  refine ⟨m1, σd, s1, r1, hS.mono e1.pre e1.same, (Go.bnd (rel := RV X.K) g1).imp fun y H2 ⟨m2, d2, s2, e2, r2, v2, g2⟩ => ?_⟩
  exact ⟨m2, d, d2, s2, r2, v1.mono e2.pre e2.same, v2, g2.nox⟩
theorem one {o : D → M D} (σ : SV) (H : Hp) (Q : VK) (hw : rE X W (m1 o f) σ H Q) : tUn (g1 X o) (rE X W f) σ H Q := by
  obtain ⟨m, σd, s, hR, hS, hG⟩ := hw
  refine ⟨m, σd, s, hR, hS, (Go.bnd (rel := RV X.K) hG).imp fun x H1 ⟨m1, d, s1, e1, r1, v1, g1⟩ => ?_⟩
  exact ⟨m1, d, s1, r1, v1, g1.nox⟩
theorem ie_op {op : Operator} {o : D → D → M D} (ho : OpI X (binaryOp op) o) (ha : IE X W a f) (hb : IE X W b g) : IE X W (.BinOp a op b pos) (m2 o f g) := ⟨pe_mono (pe_op ho ha.pe hb.pe) two⟩
theorem ie_un {op : UnaryOp} {o : D → M D} (ho : UnI X (unaryOp op) o) (ha : IE X W a f) : IE X W (.UnaryOp op a pos) (m1 o f) := ⟨pe_mono (pe_un ho ha.pe) one⟩
theorem ie_cmp {op : CmpOp} {o : D → D → M D} (ho : OpI X (compareOp op) o) (ha : IE X W a f) (hb : IE X W b g) (hm : behindInMarks op b = false := by first | exact nomark _ | rfl) : IE X W (.Compare a [op] [b] pos) (m2 o f g) := ⟨pe_mono (pe_cmpR ho ha.pe hb.pe hm) two⟩
def tst (f : EV → M D) : EV → M Bool := fun σ => bnd (f σ) fun x => match x with | .bl k => ret k | _ => bad
theorem tsts {t : TE} (ht : ∀ σ H Q, rE X W f σ H Q → t σ H Q) (σ : SV) (H : Hp) (Q : Bool → Hp → Prop) (hw : rT X W (tst f) σ H Q) : t σ H fun x H' => ∃ k, x = .bl k ∧ Q k H' := by
  obtain ⟨m, σd, s, hR, hS, hG⟩ := hw
  refine ht σ H _ ⟨m, σd, s, hR, hS, (Go.bnd (rel := RV X.K) hG).imp fun x H1 ⟨m1, d, s1, e1, r1, v1, g1⟩ => ?_⟩
  split at g1
  · cases v1
    exact ⟨_, rfl, Go.ok (a := _) g1 r1 rfl⟩
  · exact g1.elim
theorem it_cmp {op : CmpOp} {o : D → D → M D} (ho : OpI X (compareOp op) o) (ha : IE X W a f) (hb : IE X W b g) (hm : behindInMarks op b = false := by first | exact nomark _ | rfl) : IT X W (.Compare a [op] [b] pos) (tst (m2 o f g)) :=
  ⟨pt_mono (pt_cmpR ho ha.pe hb.pe hm) (tsts two)⟩
/-- a bool as a test -/
theorem it_val {e : Expr} (he : IE X W e f) (hp : ∀ whole, isTrue e X.env whole = (do let v ← whole; standAt e.pos; holding [v] (truthy v)) := by intro _; rfl) : IT X W e (tst f) :=
  ⟨pt_mono (pt_val he.pe hp) (tsts fun _ _ _ q => q)⟩
/-- any value as a test -/
def tru (o : D → M Bool) (f : EV → M D) : EV → M Bool := fun σ => bnd (f σ) fun x => o x
def chn (o o' : D → D → M D) (f g h : EV → M D) : EV → M D := fun σ => bnd (f σ) fun x => bnd (g σ) fun y => bnd (nox (o x y)) fun z =>
  match z with | .bl true => bnd (h σ) fun w => nox (o' y w) | .bl false => ret (.bl false) | _ => bad
theorem chain {o o' : D → D → M D} (σ : SV) (H : Hp) (Q : VK) (hw : rE X W (chn o o' f g h) σ H Q) : tChain (g2 X o) (g2 X o') (rE X W f) (rE X W g) (rE X W h) σ H Q := by
  obtain ⟨m, σd, s, hR, hS, hG⟩ := hw
  refine ⟨m, σd, s, hR, hS, (Go.bnd (rel := RV X.K) hG).imp fun x H1 ⟨m1, d, s1, e1, r1, v1, g1⟩ => ?_⟩
  refine ⟨m1, σd, s1, r1, hS.mono e1.pre e1.same, (Go.bnd (rel := RV X.K) g1).imp fun y H2 ⟨m2, d2, s2, e2, r2, v2, g2⟩ => ?_⟩
  refine ⟨m2, d, d2, s2, r2, v1.mono e2.pre e2.same, v2, (Go.nox (Go.bnd (rel := RV X.K) g2)).imp fun z H3 ⟨m3, d3, s3, e3, r3, v3, g3⟩ => ?_⟩
  split at g3
  · cases v3
    refine ⟨true, rfl, ?_⟩
    rw [if_pos rfl]
    refine ⟨m3, σd, s3, r3, hS.mono (e1.pre.trans (e2.pre.trans e3.pre)) (e1.same.trans (e2.same.trans e3.same)), (Go.bnd (rel := RV X.K) g3).imp fun u H4 ⟨m4, d4, s4, e4, r4, v4, g4⟩ => ?_⟩
    exact ⟨m4, d2, d4, s4, r4, v2.mono (e3.pre.trans e4.pre) (e3.same.trans e4.same), v4, g4.nox⟩
  · cases v3
    refine ⟨false, rfl, ?_⟩
    rw [if_neg Bool.false_ne_true]
    exact Go.ok (a := D.bl false) g3 r3 (.bl false)
  · exact g3.elim
end
end RQ

namespace RQ
open PySem PySem.Spec PyProof.Rows L2
section
variable {X : Cx} {W : WX} {pos : Pos} {a b c : Expr} {f g h : EV → M D} {rest : List Expr} {p q : EV → M Bool}
theorem ie_chain {op op' : CmpOp} {o o' : D → D → M D} (ho : OpI X (compareOp op) o) (ho' : OpI X (compareOp op') o') (ha : IE X W a f) (hb : IE X W b g) (hc : IE X W c h)
    (hm : lastMarks [op, op'] [b, c] = false := by with_unfolding_all rfl) : IE X W (.Compare a [op, op'] [b, c] pos) (chn o o' f g h) := ⟨pe_mono (pe_chain ho ho' ha.pe hb.pe hc.pe hm) chain⟩
theorem it_chain {op op' : CmpOp} {o o' : D → D → M D} (ho : OpI X (compareOp op) o) (ho' : OpI X (compareOp op') o') (ha : IE X W a f) (hb : IE X W b g) (hc : IE X W c h)
    (hm : lastMarks [op, op'] [b, c] = false := by with_unfolding_all rfl) : IT X W (.Compare a [op, op'] [b, c] pos) (tst (chn o o' f g h)) := ⟨pt_mono (pt_chain ho ho' ha.pe hb.pe hc.pe hm) (tsts chain)⟩

/-! ### and, or, not -/
def mAnd (p q : EV → M Bool) : EV → M Bool := fun σ => bnd (p σ) fun k => if k = true then q σ else ret false
def mOr (p q : EV → M Bool) : EV → M Bool := fun σ => bnd (p σ) fun k => if k = true then ret true else q σ
def mNot (p : EV → M Bool) : EV → M Bool := fun σ => bnd (p σ) fun k => ret (!k)
theorem iw_and1 (ha : IT X W a p) : IW X W (.BoolOp .And [a] pos) p := ⟨pw_and1 ha.pt⟩
theorem iw_or1 (ha : IT X W a p) : IW X W (.BoolOp .Or [a] pos) p := ⟨pw_or1 ha.pt⟩
theorem iw_and (ha : IT X W a p) (hb : IW X W (.BoolOp .And (b :: rest) pos) q) : IW X W (.BoolOp .And (a :: b :: rest) pos) (mAnd p q) := by
  refine ⟨pw_mono (pw_and ha.pt hb.pw) fun σ H Q ⟨m, σd, s, hR, hS, hG⟩ => ?_⟩
  refine ⟨m, σd, s, hR, hS, (Go.bnd (rel := relB) hG).imp fun k H1 ⟨m1, d, s1, e1, r1, v1, g1⟩ => ?_⟩
  cases (show k = d from v1)
  cases k with
  | true => exact ⟨m1, σd, s1, r1, hS.mono e1.pre e1.same, g1⟩
  | false => exact Go.ok (a := false) g1 r1 rfl
theorem iw_or (ha : IT X W a p) (hb : IW X W (.BoolOp .Or (b :: rest) pos) q) : IW X W (.BoolOp .Or (a :: b :: rest) pos) (mOr p q) := by
  refine ⟨pw_mono (pw_or ha.pt hb.pw) fun σ H Q ⟨m, σd, s, hR, hS, hG⟩ => ?_⟩
  refine ⟨m, σd, s, hR, hS, (Go.bnd (rel := relB) hG).imp fun k H1 ⟨m1, d, s1, e1, r1, v1, g1⟩ => ?_⟩
  cases (show k = d from v1)
  cases k with
  | true => exact Go.ok (a := true) g1 r1 rfl
  | false => exact ⟨m1, σd, s1, r1, hS.mono e1.pre e1.same, g1⟩
theorem it_not (ha : IT X W a p) : IT X W (.UnaryOp .Not a pos) (mNot p) := by
  refine ⟨pt_mono (pt_not ha.pt) fun σ H Q ⟨m, σd, s, hR, hS, hG⟩ => ?_⟩
  refine ⟨m, σd, s, hR, hS, (Go.bnd (rel := relB) hG).imp fun k H1 ⟨m1, d, s1, e1, r1, v1, g1⟩ => ?_⟩
  cases (show k = d from v1)
  exact Go.ok (a := !k) g1 r1 rfl
/-- .. as values, all but the last bools -/
def vAnd (f g : EV → M D) : EV → M D := fun σ => bnd (f σ) fun x => match x with | .bl true => g σ | .bl false => ret (.bl false) | _ => bad
def vOr (f g : EV → M D) : EV → M D := fun σ => bnd (f σ) fun x => match x with | .bl true => ret (.bl true) | .bl false => g σ | _ => bad
def vNot (f : EV → M D) : EV → M D := fun σ => bnd (f σ) fun x => match x with | .bl k => ret (.bl (!k)) | _ => bad
theorem ie_one {op} (ha : IE X W a f) : IE X W (.BoolOp op [a] pos) f := ⟨pe_one ha.pe⟩
theorem ie_and (ha : IE X W a f) (hb : IE X W (.BoolOp .And (b :: rest) pos) g) : IE X W (.BoolOp .And (a :: b :: rest) pos) (vAnd f g) := by
  refine ⟨pe_mono (pe_and ha.pe hb.pe) fun σ H Q ⟨m, σd, s, hR, hS, hG⟩ => ?_⟩
  refine ⟨m, σd, s, hR, hS, (Go.bnd (rel := RV X.K) hG).imp fun x H1 ⟨m1, d, s1, e1, r1, v1, g1⟩ => ?_⟩
  split at g1
  · cases v1; exact ⟨true, rfl, m1, σd, s1, r1, hS.mono e1.pre e1.same, g1⟩
  · cases v1; exact ⟨false, rfl, Go.ok (a := D.bl false) g1 r1 (.bl _)⟩
  · exact g1.elim
theorem ie_or (ha : IE X W a f) (hb : IE X W (.BoolOp .Or (b :: rest) pos) g) : IE X W (.BoolOp .Or (a :: b :: rest) pos) (vOr f g) := by
  refine ⟨pe_mono (pe_or ha.pe hb.pe) fun σ H Q ⟨m, σd, s, hR, hS, hG⟩ => ?_⟩
  refine ⟨m, σd, s, hR, hS, (Go.bnd (rel := RV X.K) hG).imp fun x H1 ⟨m1, d, s1, e1, r1, v1, g1⟩ => ?_⟩
  split at g1
  · cases v1; exact ⟨true, rfl, Go.ok (a := D.bl true) g1 r1 (.bl _)⟩
  · cases v1; exact ⟨false, rfl, m1, σd, s1, r1, hS.mono e1.pre e1.same, g1⟩
  · exact g1.elim
theorem ie_not (ha : IE X W a f) : IE X W (.UnaryOp .Not a pos) (vNot f) := by
  refine ⟨pe_mono (pe_not ha.pe) fun σ H Q ⟨m, σd, s, hR, hS, hG⟩ => ?_⟩
  refine ⟨m, σd, s, hR, hS, (Go.bnd (rel := RV X.K) hG).imp fun x H1 ⟨m1, d, s1, e1, r1, v1, g1⟩ => ?_⟩
  split at g1
  · cases v1; exact ⟨_, rfl, Go.ok (a := D.bl _) g1 r1 (.bl _)⟩
  · exact g1.elim
def mIf (p : EV → M Bool) (f g : EV → M D) : EV → M D := fun σ => bnd (p σ) fun k => if k = true then f σ else g σ
theorem ie_if (hc : IT X W c p) (ha : IE X W a f) (hb : IE X W b g) : IE X W (.IfExp c a b pos) (mIf p f g) := by
  refine ⟨pe_mono (pe_ifExp hc.pt ha.pe hb.pe) fun σ H Q ⟨m, σd, s, hR, hS, hG⟩ => ?_⟩
  refine ⟨m, σd, s, hR, hS, (Go.bnd (rel := relB) hG).imp fun k H1 ⟨m1, d, s1, e1, r1, v1, g1⟩ => ?_⟩
  cases (show k = d from v1)
  cases k with
  | true => exact ⟨m1, σd, s1, r1, hS.mono e1.pre e1.same, g1⟩
  | false => exact ⟨m1, σd, s1, r1, hS.mono e1.pre e1.same, g1⟩

/-! ### argument lists, displays -/
variable {es : List Expr} {fs gs : EV → M (List D)}
def aNil : EV → M (List D) := fun _ s => .ok [] s
def aCons (f : EV → M D) (fs : EV → M (List D)) : EV → M (List D) := fun σ => bnd (f σ) fun x => bnd (fs σ) fun xs => ret (x :: xs)
theorem ia_nil : IA X W [] aNil := ⟨pa_mono pa_nil fun σ H Q ⟨m, σd, s, hR, hS, hG⟩ => Go.ok (a := []) hG hR .nil⟩
theorem ia_cons (ha : IE X W a f) (hr : IA X W es fs) (hs : starEach (a :: es) X.env = (false, eval a X.env) :: starEach es X.env := by rfl) : IA X W (a :: es) (aCons f fs) := by
  refine ⟨pa_mono (pa_cons ha.pe hr.pa hs) fun σ H Q ⟨m, σd, s, hR, hS, hG⟩ => ?_⟩
  refine ⟨m, σd, s, hR, hS, (Go.bnd (rel := RV X.K) hG).imp fun x H1 ⟨m1, d, s1, e1, r1, v1, g1⟩ => ?_⟩
  refine ⟨m1, σd, s1, r1, hS.mono e1.pre e1.same, (Go.bnd (rel := RVs X.K) g1).imp fun y H2 ⟨m2, d2, s2, e2, r2, v2, g2⟩ => ?_⟩
  exact Go.ok (a := d :: d2) g2 r2 (.cons (v1.mono e2.pre e2.same) v2)
/-- the largest length that is reckoned with -/
def lim : Nat := 1000000
theorem lim_le {n : Nat} (h : n ≤ lim) : n ≤ sizeLine := Nat.le_trans h (by decide)
theorem lim_lt {n : Nat} (h : n ≤ lim) : n < sizeLine := Nat.lt_of_le_of_lt h (by decide)
def kLst (xs : List D) : M D := fun s => if xs.length ≤ lim then .ok (.lst xs) s else .bad
def kTup (xs : List D) : M D := fun s => if xs.length ≤ lim then .ok (.tup xs) s else .bad
def kNew (o : O) : M D := fun s => .ok (.ref s.length) (s ++ [o])
def kLstS (xs : List D) : M D := fun s => if xs.length ≤ lim then kNew (.lst xs) s else .bad
section
variable {σ : SV} {m : MM} {H : Hp} {s : Sto} {Q : VK} {W' : WX} {K : PySem.W.Frag} {mg : Str → Option Value}
theorem Go.newL {ds : List D} {vs : List V} {p : Addr} (hR : R K mg m s H) (hv : RVs K m (hid m H) ds vs) (hp : H p = none) (hG : Go W' K mg σ (RV K) m H (.ok (.lst ds) s) Q) : Q (.ref p) (upd H p (.lst vs)) := by
  obtain ⟨e, r, hh⟩ := hR.newF (o := .lst vs) hp
  exact hG _ m _ e r (.lst hh (hv.mono e.pre e.same))
theorem Go.newT {ds : List D} {vs : List V} {p : Addr} (hR : R K mg m s H) (hv : RVs K m (hid m H) ds vs) (hp : H p = none) (hG : Go W' K mg σ (RV K) m H (.ok (.tup ds) s) Q) : Q (.ref p) (upd H p (.tup vs)) := by
  obtain ⟨e, r, hh⟩ := hR.newF (o := .tup vs) hp
  exact hG _ m _ e r (.tup (.inl (.inl hh)) (hv.mono e.pre e.same))
theorem Go.newLS {ds : List D} {vs : List V} {p : Addr} (hR : R K mg m s H) (hv : RVs K m (hid m H) ds vs) (hp : H p = none) (hG : Go W' K mg σ (RV K) m H (kNew (.lst ds) s) Q) : Q (.ref p) (upd H p (.lst vs)) := by
  obtain ⟨e, r⟩ := hR.newS (ho := .lst vs) (o := .lst ds) hp fun e => ⟨vs, upd_same, hv.mono e.pre e.same⟩
  exact hG _ _ _ e r (.ref (by rw [← hR.len]; show (m.ix ++ [p])[m.ix.length]? = _; simp))
end
theorem ie_lst (h : IA X W es fs) : IE X W (.List es pos) (fun σ => bnd (fs σ) kLst) := by
  refine ⟨pe_mono (pe_lst h.pa) fun σ H Q ⟨m, σd, s, hR, hS, hG⟩ => ?_⟩
  refine ⟨m, σd, s, hR, hS, (Go.bnd (rel := RVs X.K) hG).imp fun vs H1 ⟨m1, ds, s1, e1, r1, v1, g1⟩ => ?_⟩
  unfold kLst at g1
  split at g1
  · rename_i hl
    exact ⟨by rw [v1.length]; exact lim_le hl, fun p hp => Go.newL r1 v1 hp g1⟩
  · exact g1.elim
theorem ie_lstS (h : IA X W es fs) : IE X W (.List es pos) (fun σ => bnd (fs σ) kLstS) := by
  refine ⟨pe_mono (pe_lst h.pa) fun σ H Q ⟨m, σd, s, hR, hS, hG⟩ => ?_⟩
  refine ⟨m, σd, s, hR, hS, (Go.bnd (rel := RVs X.K) hG).imp fun vs H1 ⟨m1, ds, s1, e1, r1, v1, g1⟩ => ?_⟩
  unfold kLstS at g1
  split at g1
  · rename_i hl
    exact ⟨by rw [v1.length]; exact lim_le hl, fun p hp => Go.newLS r1 v1 hp g1⟩
  · exact g1.elim
theorem ie_tup {x1} (h : IA X W es fs) : IE X W (.Tuple es x1 pos) (fun σ => bnd (fs σ) kTup) := by
  refine ⟨pe_mono (pe_tup h.pa) fun σ H Q ⟨m, σd, s, hR, hS, hG⟩ => ?_⟩
  refine ⟨m, σd, s, hR, hS, (Go.bnd (rel := RVs X.K) hG).imp fun vs H1 ⟨m1, ds, s1, e1, r1, v1, g1⟩ => ?_⟩
  unfold kTup at g1
  split at g1
  · rename_i hl
    exact ⟨by rw [v1.length]; exact lim_le hl, fun p hp => Go.newT r1 v1 hp g1⟩
  · exact g1.elim

/-! ### calls by values -/
def mC (k : List D → M D) (fs : EV → M (List D)) : EV → M D := fun σ => bnd (fs σ) fun xs => nox (k xs)
theorem callBy {k : List D → M D} (σ : SV) (H : Hp) (Q : VK) (hw : rE X W (mC k fs) σ H Q) : tCB (gn X k) (rA X W fs) σ H Q := by
  obtain ⟨m, σd, s, hR, hS, hG⟩ := hw
  refine ⟨m, σd, s, hR, hS, (Go.bnd (rel := RVs X.K) hG).imp fun x H1 ⟨m1, d, s1, e1, r1, v1, g1⟩ => ?_⟩
  exact ⟨m1, d, s1, r1, v1, g1.nox⟩
variable {x : Str} {id T : String} {pp : Pos}
theorem ie_callB {k : List D → M D} (hc : CallI X (.builtin id) k) (hg : Gl X x) (hm : X.mg x = none) (hv : bootBuiltins x = some (.builtin id)) (ha : IA X W (a :: es) fs) (hn : x ≠ "__name__" := by decide) (hdb : (x == ("__debug__" : Str)) = false := by decide)
    (he : starEach (a :: es) X.env = (false, eval a X.env) :: starEach es X.env := by rfl) (hpl : (backTo pos (starEach es X.env)).any (·.1) = false := by rfl) : IE X W (.Call (.Name x pp) (a :: es) [] pos) (mC k fs) :=
  ⟨pe_mono (pe_callB hc hg hm hv ha.pa hn hdb he hpl) callBy⟩
theorem ie_callTy {k : List D → M D} (hc : CallI X (.type T) k) (hg : Gl X x) (hm : X.mg x = none) (hv : bootBuiltins x = some (.type T)) (ha : IA X W (a :: es) fs) (hn : x ≠ "__name__" := by decide) (hdb : (x == ("__debug__" : Str)) = false := by decide)
    (he : starEach (a :: es) X.env = (false, eval a X.env) :: starEach es X.env := by rfl) (hpl : (backTo pos (starEach es X.env)).any (·.1) = false := by rfl) : IE X W (.Call (.Name x pp) (a :: es) [] pos) (mC k fs) :=
  ⟨pe_mono (pe_callTy hc hg hm hv ha.pa hn hdb he hpl) callBy⟩
/-! ### subscripts -/
def IxI (X : Cx) (o : D → D → M D) : Prop := IxR X (g2 X o)
theorem ie_ix {o : D → D → M D} (ho : IxI X o) (ha : IE X W a f) (hb : IE X W b g) (hs : PlainIx b := by intro _ _; rfl) : IE X W (.Subscript a b pos) (m2 o f g) := ⟨pe_mono (pe_ix ho ha.pe hb.pe hs) two⟩
/-! slices -/
def gs3 (X : Cx) (o : D → Option Int → Option Int → M D) : V → Option Int → Option Int → Hp → VK → Prop := fun v lo hi H Q => ∃ m x s, R X.K X.mg m s H ∧ RV X.K m (hid m H) x v ∧ Go W0 X.K X.mg [] (RV X.K) m H (o x lo hi s) Q
def SlI (X : Cx) (o : D → Option Int → Option Int → M D) : Prop := SlR X (gs3 X o)
abbrev relI : Rel (Option Int) (Option Int) := fun _ _ a b => b = a
structure IO (X : Cx) (W : WX) (e : Option Expr) (f : EV → M (Option Int)) : Prop where
  po : PO X e (fun σ H Q => ∃ m σd s, R X.K X.mg m s H ∧ RS X.K m (hid m H) σd σ ∧ Go W X.K X.mg σ relI m H (f σd s) Q)
def oNo : EV → M (Option Int) := fun _ s => .ok none s
def oSo (f : EV → M D) : EV → M (Option Int) := fun σ => bnd (f σ) fun x => match x with | .int i => ret (some i) | _ => bad
theorem io_none : IO X W none oNo := ⟨⟨fun pins s σ H Q I ⟨m, σd, s', hR, hS, hG⟩ => po_none.run pins s σ H Q I (Go.ok (a := none) hG hR rfl)⟩⟩
theorem io_some (h : IE X W a f) : IO X W (some a) (oSo f) := by
  refine ⟨⟨fun pins s σ H Q I ⟨m, σd, s', hR, hS, hG⟩ => (po_some h.pe).run pins s σ H Q I ?_⟩⟩
  refine ⟨m, σd, s', hR, hS, (Go.bnd (rel := RV X.K) hG).imp fun x H1 ⟨m1, d, s1, e1, r1, v1, g1⟩ => ?_⟩
  split at g1
  · cases v1; exact ⟨_, rfl, Go.ok (a := some _) g1 r1 rfl⟩
  · exact g1.elim
def mSl (o : D → Option Int → Option Int → M D) (f : EV → M D) (u v : EV → M (Option Int)) : EV → M D := fun σ => bnd (f σ) fun x => bnd (u σ) fun i => bnd (v σ) fun j => nox (o x i j)
theorem ie_slice {lo hi : Option Expr} {p2 : Pos} {o : D → Option Int → Option Int → M D} {u v : EV → M (Option Int)} (ho : SlI X o) (he : IE X W a f) (hl : IO X W lo u) (hh : IO X W hi v) : IE X W (.Subscript a (.Slice lo hi none p2) pos) (mSl o f u v) := by
  refine ⟨pe_mono (pe_slice ho he.pe hl.po hh.po) fun σ H Q ⟨m, σd, s, hR, hS, hG⟩ => ?_⟩
  refine ⟨m, σd, s, hR, hS, (Go.bnd (rel := RV X.K) hG).imp fun x H1 ⟨m1, d, s1, e1, r1, v1, g1⟩ => ?_⟩
  refine ⟨m1, σd, s1, r1, hS.mono e1.pre e1.same, (Go.bnd (rel := relI) g1).imp fun i H2 ⟨m2, i2, s2, e2, r2, v2, g2⟩ => ?_⟩
  cases (show i = i2 from v2)
  refine ⟨m2, σd, s2, r2, hS.mono (e1.pre.trans e2.pre) (e1.same.trans e2.same), (Go.bnd (rel := relI) g2).imp fun j H3 ⟨m3, j2, s3, e3, r3, v3, g3⟩ => ?_⟩
  cases (show j = j2 from v3)
  exact ⟨m3, d, s3, r3, v1.mono (e2.pre.trans e3.pre) (e2.same.trans e3.same), g3.nox⟩
/-! ### methods of built-in types -/
def gm (X : Cx) (T : String) (k : D → List D → M D) : V → List V → Hp → VK → Prop := fun v vs H Q => ∃ m x xs s, R X.K X.mg m s H ∧ RV X.K m (hid m H) x v ∧ RVs X.K m (hid m H) xs vs ∧ Go W0 X.K X.mg [] (RV X.K) m H (k x xs s) Q
def MtI (X : Cx) (id : String) (k : D → List D → M D) : Prop := MtR X id (gm X id k)
/-- what is of a built-in type -/
def isT (T : String) (x : D) (s : Sto) : Bool := match x with
  | .str _ => T == "str"
  | .int _ => T == "int"
  | .lst _ => T == "list"
  | .sls _ => T == "list"
  | .ref n => match s[n]? with | some (.lst _) => T == "list" | some (.dic _) => T == "dict" | _ => false
  | _ => false
theorem hid_sub (m : MM) (H : Hp) : Same (hid m H) H := fun _ _ q => (of_hid q).2
theorem isT_ty {T : String} {x : D} {v : V} {m : MM} {s : Sto} {H : Hp} (hR : R X.K X.mg m s H) (r : RV X.K m (hid m H) x v) (h : isT T x s = true) : tyV X.K T v H := by
  unfold isT at h
  split at h
  · cases r; exact eq_of_beq h
  · cases r; exact eq_of_beq h
  · cases r with | lst q _ => exact .inl ⟨eq_of_beq h, _, .inl (.inl (hid_sub _ _ _ _ q))⟩
  · cases r with | sls q _ => exact .inl ⟨eq_of_beq h, _, sql_mono (hid_sub _ _) q⟩
  · cases r with
    | @ref n a q =>
      split at h
      · rename_i xs e
        obtain ⟨vs, h1, _⟩ := hR.obj _ a _ q e
        exact .inl ⟨eq_of_beq h, _, .inl (.inl h1)⟩
      · rename_i kvs e
        obtain ⟨kws, h1, _⟩ := hR.obj _ a _ q e
        exact .inr (.inr (.inl ⟨eq_of_beq h, .inl ⟨_, h1⟩⟩))
      · cases h
  · cases h
def mM (T : String) (k : D → List D → M D) (f : EV → M D) (fs : EV → M (List D)) : EV → M D := fun σ => bnd (f σ) fun x s => if isT T x s = true then bnd (fs σ) (fun xs => nox (k x xs)) s else .bad
variable {name : Str} {apos cpos : Pos}
theorem ie_bm {k : D → List D → M D} (pa : PlainAttrs T) (slot : Slot T name id) (hty : typeOf (.builtin id) = pure (.type "method_descriptor")) (hm : MtI X id k) (ho : IE X W a f) (ha : IA X W (b :: es) fs)
    (hbase : attributeBase a name X.env (eval a X.env) = eval a X.env := by rfl)
    (hfew : ((backTo cpos (starEach (b :: es) X.env)).all (fun x => !x.1) && (backToKw cpos (keywordEach [] X.env)).all (fun x => x.1.isSome)
      && decide ((b :: es).length + ([] : List Keyword).length + (if ([] : List Keyword).isEmpty then 0 else 1) < 30)) = true := by rfl)
    (hline : (apos.endLine == cpos.line) = true := by rfl) (hs : starEach (b :: es) X.env = (false, eval b X.env) :: starEach es X.env := by rfl) (hplain : (backTo cpos (starEach es X.env)).any (·.1) = false := by rfl) :
    IE X W (.Call (.Attribute a name apos) (b :: es) [] cpos) (mM T k f fs) := by
  refine ⟨pe_mono (pe_bm pa slot hty hm ho.pe ha.pa hbase hfew hline hs hplain) fun σ H Q ⟨m, σd, s, hR, hS, hG⟩ => ?_⟩
  refine ⟨m, σd, s, hR, hS, (Go.bnd (rel := RV X.K) hG).imp fun x H1 ⟨m1, d, s1, e1, r1, v1, g1⟩ => ?_⟩
  split at g1
  · rename_i ht
    refine ⟨isT_ty r1 v1 ht, m1, σd, s1, r1, hS.mono e1.pre e1.same, (Go.bnd (rel := RVs X.K) g1).imp fun y H2 ⟨m2, d2, s2, e2, r2, v2, g2⟩ => ?_⟩
    exact ⟨m2, d, d2, s2, r2, v1.mono e2.pre e2.same, v2, g2.nox⟩
  · exact g1.elim
theorem ie_bm0 {k : D → List D → M D} (pa : PlainAttrs T) (slot : Slot T name id) (hty : typeOf (.builtin id) = pure (.type "method_descriptor")) (hm : MtI X id k) (ho : IE X W a f)
    (hbase : attributeBase a name X.env (eval a X.env) = eval a X.env := by rfl) (hline : (apos.endLine == cpos.line) = true := by rfl) : IE X W (.Call (.Attribute a name apos) [] [] cpos) (mM T k f aNil) := by
  refine ⟨pe_mono (pe_bm0 pa slot hty hm ho.pe hbase hline) fun σ H Q ⟨m, σd, s, hR, hS, hG⟩ => ?_⟩
  refine ⟨m, σd, s, hR, hS, (Go.bnd (rel := RV X.K) hG).imp fun x H1 ⟨m1, d, s1, e1, r1, v1, g1⟩ => ?_⟩
  split at g1
  · rename_i ht
    exact ⟨isT_ty r1 v1 ht, m1, d, [], s1, r1, v1, .nil, Go.nox g1⟩
  · exact g1.elim
end
end RQ

namespace RQ
open PySem PySem.Spec PyProof.Rows L2

/-! ### what is wanted behind a statement -/
def endOf (K : PySem.W.Frag) (E : Ends) (m : MM) (σ : SV) (H : Hp) : Fl → Prop
  | .nx => E.nx σ H
  | .bk => E.bk σ H
  | .ct => E.ct σ H
  | .rt d => ∀ v, RV K m (hid m H) d v → E.rt v H
def GoS (W : WX) (K : PySem.W.Frag) (mg : Str → Option Value) (m : MM) (H : Hp) (r : SRes) (E : Ends) : Prop :=
  match r with
  | .go fl σd s => ∀ σ m' H', Ext m H m' H' → R K mg m' s H' → RS K m' (hid m' H') σd σ → endOf K E m' σ H' fl
  | .exc c fs σd s => ∀ C d σ m' H', Ext m H m' H' → R K mg m' s H' → RS K m' (hid m' H') σd σ → mg c = some (.ref C) → RX K m' (hid m' H') fs d → W (.ref C) d σ H'
  | .bad => False
def lft {α : Type} (r : Res α) (σ : EV) (k : α → Sto → SRes) (_ : Tie k := Tie.mk) : SRes :=
  match r with
  | .ok a s => k a s
  | .exc c fs s => .exc c fs σ s
  | .bad => .bad
def rS (X : Cx) (W : WX) (F : SM) : TS := fun E σ H => ∃ m σd s, R X.K X.mg m s H ∧ RS X.K m (hid m H) σd σ ∧ GoS W X.K X.mg m H (F σd s) E
structure IS (X : Cx) (W : WX) (st : Stmt) (F : SM) : Prop where
  ps : PS X st (rS X W F)
structure ISs (X : Cx) (W : WX) (st : List Stmt) (F : SM) : Prop where
  ps : PSs X st (rS X W F)
section
variable {W : WX} {K : PySem.W.Frag} {mg : Str → Option Value} {m m1 : MM} {H H1 : Hp}
theorem GoS.ext {r : SRes} {E : Ends} (e : Ext m H m1 H1) (h : GoS W K mg m H r E) : GoS W K mg m1 H1 r E := by
  cases r with
  | go fl σd s => exact fun σ m' H' e' => h σ m' H' (e.trans e')
  | exc c fs σd s => exact fun C d σ m' H' e' => h C d σ m' H' (e.trans e')
  | bad => exact h
theorem GoS.lft {α β : Type} {rel : Rel α β} {r : Res α} {σd : EV} {σ : SV} {k : α → Sto → SRes} {E : Ends} (hS : RS K m (hid m H) σd σ) (h : GoS W K mg m H (lft r σd k) E) :
    Go W K mg σ rel m H r (fun b H1 => ∃ m1 a s1, Ext m H m1 H1 ∧ R K mg m1 s1 H1 ∧ rel m1 (hid m1 H1) a b ∧ GoS W K mg m1 H1 (k a s1) E) := by
  cases r with
  | ok a s => exact fun b m' H' e' r' v' => ⟨m', a, s, e', r', v', GoS.ext e' h⟩
  | exc c fs s => exact fun C d m' H' e' r' hc hx => h C d σ m' H' e' r' (hS.mono e'.pre e'.same) hc hx
  | bad => exact h
theorem GoS.at {fl : Fl} {σd : EV} {s : Sto} {σ : SV} {E : Ends} (h : GoS W K mg m H (.go fl σd s) E) (r : R K mg m s H) (hS : RS K m (hid m H) σd σ) : endOf K E m σ H fl := h σ m H (Ext.refl _ _) r hS
end
section
variable {X : Cx} {W : WX} {pos : Pos} {st : Stmt} {rest : List Stmt} {F G : SM} {e a b : Expr} {f g : EV → M D}
def sNx : SM := fun σ s => .go .nx σ s
def sSeq (F G : SM) : SM := fun σ s => match F σ s with
  | .go .nx σ' s' => G σ' s'
  | r => r
theorem iss_nil : ISs X W [] sNx := ⟨pss_mono pss_nil fun E σ H ⟨m, σd, s, hR, hS, hG⟩ => GoS.at (fl := .nx) hG hR hS⟩
theorem iss_one (h : IS X W st F) : ISs X W [st] F := ⟨pss_one h.ps⟩
theorem iss_cons (h : IS X W st F) (h2 : ISs X W rest G) : ISs X W (st :: rest) (sSeq F G) := by
  refine ⟨pss_mono (pss_cons h.ps h2.ps) fun E σ H ⟨m, σd, s, hR, hS, hG⟩ => ?_⟩
  refine ⟨m, σd, s, hR, hS, ?_⟩
  unfold sSeq at hG
  split at hG
  · rename_i σ' s' e
    rw [e]
    exact fun σ1 m1 H1 e1 r1 q1 => ⟨m1, σ', s', r1, q1, hG.ext e1⟩
  · rename_i r hr
    cases q : F σd s with
    | go fl σ1 s1 =>
      rw [q] at hG
      cases fl with
      | nx => exact absurd q (hr _ _)
      | rt d => exact hG
      | bk => exact hG
      | ct => exact hG
    | exc c fs σ1 s1 => rw [q] at hG; exact hG
    | bad => rw [q] at hG; exact hG
def sEx (f : EV → M D) : SM := fun σ s => lft (f σ s) σ fun _ s' => .go .nx σ s'
def sRt (f : EV → M D) : SM := fun σ s => lft (f σ s) σ fun d s' => .go (.rt d) σ s'
def sRtN : SM := fun σ s => .go (.rt .non) σ s
def sSet (i : Nat) (f : EV → M D) : SM := fun σ s => lft (f σ s) σ fun d s' => .go .nx (σ.set i (some d)) s'
def sIf (p : EV → M Bool) (F G : SM) : SM := fun σ s => lft (p σ s) σ fun k s' => if k = true then F σ s' else G σ s'
def sBk : SM := fun σ s => .go .bk σ s
def sCt : SM := fun σ s => .go .ct σ s
theorem is_pass : IS X W (.Pass pos) sNx := ⟨ps_mono ps_pass fun E σ H ⟨m, σd, s, hR, hS, hG⟩ => GoS.at (fl := .nx) hG hR hS⟩
theorem is_break : IS X W (.Break pos) sBk := ⟨ps_mono ps_break fun E σ H ⟨m, σd, s, hR, hS, hG⟩ => GoS.at (fl := .bk) hG hR hS⟩
theorem is_continue : IS X W (.Continue pos) sCt := ⟨ps_mono ps_continue fun E σ H ⟨m, σd, s, hR, hS, hG⟩ => GoS.at (fl := .ct) hG hR hS⟩
theorem is_expr (he : IE X W e f) (hs : swapsWith e none pos.line X.env = pure false := by rfl) : IS X W (.Expr e pos) (sEx f) := by
  refine ⟨ps_mono (ps_expr he.pe hs) fun E σ H ⟨m, σd, s, hR, hS, hG⟩ => ?_⟩
  refine ⟨m, σd, s, hR, hS, (GoS.lft (rel := RV X.K) hS hG).imp fun x H1 ⟨m1, d, s1, e1, r1, v1, g1⟩ => ?_⟩
  exact GoS.at (fl := .nx) g1 r1 (hS.mono e1.pre e1.same)
theorem is_ret (he : IE X W e f) : IS X W (.Return (some e) pos) (sRt f) := by
  refine ⟨ps_mono (ps_ret he.pe) fun E σ H ⟨m, σd, s, hR, hS, hG⟩ => ?_⟩
  refine ⟨m, σd, s, hR, hS, (GoS.lft (rel := RV X.K) hS hG).imp fun x H1 ⟨m1, d, s1, e1, r1, v1, g1⟩ => ?_⟩
  exact GoS.at (fl := .rt d) g1 r1 (hS.mono e1.pre e1.same) x v1
theorem is_retN : IS X W (.Return none pos) sRtN := ⟨ps_mono ps_retN fun E σ H ⟨m, σd, s, hR, hS, hG⟩ => GoS.at (fl := .rt .non) hG hR hS .non .non⟩
theorem is_set {i : Nat} {x : Str} {pos' : Pos} (hN : X.N.Nodup) (hi : X.N[i]? = some x) (hx : Loc X.env.scope x) (he : IE X W e f) (hs : swapsWith e (some (.Name x pos')) pos.line X.env = pure false := by rfl) (hf : X.fn x = true ∨ X.env.scope.names.lookup x = some .local := by first | exact .inl rfl | exact .inr rfl) :
    IS X W (.Assign [.Name x pos'] e pos) (sSet i f) := by
  refine ⟨ps_mono (ps_set hN hi hx he.pe hs hf) fun E σ H ⟨m, σd, s, hR, hS, hG⟩ => ?_⟩
  refine ⟨m, σd, s, hR, hS, (GoS.lft (rel := RV X.K) hS hG).imp fun x H1 ⟨m1, d, s1, e1, r1, v1, g1⟩ => ?_⟩
  exact GoS.at (fl := .nx) g1 r1 ((hS.mono e1.pre e1.same).put v1)
theorem is_if {c : Expr} {A B : List Stmt} {p : EV → M Bool} (hc : IT X W c p) (ha : ISs X W A F) (hb : ISs X W B G) : IS X W (.If c A B pos) (sIf p F G) := by
  refine ⟨ps_mono (ps_if hc.pt ha.ps hb.ps) fun E σ H ⟨m, σd, s, hR, hS, hG⟩ => ?_⟩
  refine ⟨m, σd, s, hR, hS, (GoS.lft (rel := relB) hS hG).imp fun k H1 ⟨m1, d, s1, e1, r1, v1, g1⟩ => ?_⟩
  cases (show k = d from v1)
  cases k with
  | true => exact ⟨m1, σd, s1, r1, hS.mono e1.pre e1.same, g1⟩
  | false => exact ⟨m1, σd, s1, r1, hS.mono e1.pre e1.same, g1⟩
/-- a, b = x, y -/
def sPar (i j : Nat) (f g : EV → M D) : SM := fun σ s => lft (bnd (f σ) (fun x => bnd (g σ) fun y => ret (x, y)) s) σ fun d s' => .go .nx ((σ.set i (some d.1)).set j (some d.2)) s'
theorem is_par {i j : Nat} {x y : Str} {px py pt : Pos} {kt k2 pt2} (hc : X.calm = true) (hN : X.N.Nodup) (hi : X.N[i]? = some x) (hj : X.N[j]? = some y) (hij : i ≠ j)
    (hx : X.env.scope.names.lookup x = some .local) (hy : X.env.scope.names.lookup y = some .local) (ha : IE X W a f) (hb : IE X W b g)
    (hw : swappedStores [.Tuple [.Name x px, .Name y py] kt pt] (.Tuple [a, b] k2 pt2) X.env = pure (some [x, y]) := by rfl)
    (hs : swapsWithSole [.Tuple [.Name x px, .Name y py] kt pt] (.Tuple [a, b] k2 pt2) pos.line X.env = pure false := by rfl)
    (h1 : starEach (a :: [b]) X.env = (false, eval a X.env) :: starEach [b] X.env := by rfl) (h2 : starEach (b :: []) X.env = (false, eval b X.env) :: starEach [] X.env := by rfl) :
    IS X W (.Assign [.Tuple [.Name x px, .Name y py] kt pt] (.Tuple [a, b] k2 pt2) pos) (sPar i j f g) := by
  refine ⟨ps_mono (ps_par hc hN hi hj hij hx hy (pa_cons ha.pe (pa_cons hb.pe pa_nil h2) h1) hw hs) fun E σ H ⟨m, σd, s, hR, hS, hG⟩ => ?_⟩
  have hG2 := Go.bnd (rel := RV X.K) (GoS.lft (rel := fun m G (d : D × D) (v : V × V) => RV X.K m G d.1 v.1 ∧ RV X.K m G d.2 v.2) hS hG)
  refine ⟨m, σd, s, hR, hS, hG2.imp fun v H1 ⟨m1, d, s1, e1, r1, v1, g1⟩ => ?_⟩
  refine ⟨m1, σd, s1, r1, hS.mono e1.pre e1.same, (Go.bnd (rel := RV X.K) g1).imp fun u H2 ⟨m2, d2, s2, e2, r2, v2, g2⟩ => ?_⟩
  obtain ⟨m3, dd, s3, e3, r3, ⟨w1, w2⟩, g3⟩ := Go.ok (a := (d, d2)) (b := (v, u)) g2 r2 ⟨v1.mono e2.pre e2.same, v2⟩
  have h := GoS.at (fl := .nx) g3 r3 (((hS.mono e3.pre e3.same).put w1).put w2)
  exact ⟨v, u, rfl, h⟩
end

/-! ### targets -/
def wipeD (σ : EV) : List Nat → EV
  | [] => σ
  | v :: vs => (wipeD σ vs).set v none
theorem wipe_get {α : Type} {σ : List (Option α)} {v i : Nat} {x : α} (h : (σ.set v none)[i]? = some (some x)) : i ≠ v ∧ σ[i]? = some (some x) := by
  by_cases hi : v = i
  · subst hi
    by_cases hv : v < σ.length
    · rw [List.getElem?_set_self hv] at h; cases h
    · rw [List.getElem?_eq_none (by simpa using hv)] at h; cases h
  · rw [List.getElem?_set_ne hi] at h; exact ⟨fun z => hi z.symm, h⟩
theorem RS.wipe {K : PySem.W.Frag} {m : MM} {G : Hp} {σd : EV} {σ : SV} (h : RS K m G σd σ) : ∀ vs : List Nat, RS K m G (wipeD σd vs) (L2.wipe σ vs)
  | [] => h
  | v :: vs => by
    have ih := RS.wipe h vs
    refine ⟨by show ((L2.wipe σ vs).set v none).length = ((wipeD σd vs).set v none).length; simp [ih.len], fun i d e => ?_⟩
    obtain ⟨h1, h2⟩ := wipe_get (show ((wipeD σd vs).set v none)[i]? = _ from e)
    obtain ⟨x, h3, h4⟩ := ih.get i d h2
    refine ⟨x, ?_, h4⟩
    show ((L2.wipe σ vs).set v none)[i]? = _
    rw [List.getElem?_set_ne (Ne.symm h1)]; exact h3
theorem wipe_set {σ : SV} {i : Nat} {x : Option V} : ∀ {vs : List Nat}, i ∈ vs → L2.wipe (σ.set i x) vs = L2.wipe σ vs
  | v :: vs, h => by
    show (L2.wipe (σ.set i x) vs).set v none = (L2.wipe σ vs).set v none
    by_cases hv : i ∈ vs
    · rw [wipe_set hv]
    · have e : i = v := by
        rcases List.mem_cons.mp h with z | z
        · exact z
        · exact absurd z hv
      subst e
      have : ∀ (ws : List Nat), i ∉ ws → L2.wipe (σ.set i x) ws = (L2.wipe σ ws).set i x := by
        intro ws
        induction ws with
        | nil => intro _; rfl
        | cons w ws ih =>
          intro hw
          have h1 : i ≠ w := fun z => hw (by simp [z])
          have h2 : i ∉ ws := fun z => hw (by simp [z])
          show (L2.wipe (σ.set i x) ws).set w none = ((L2.wipe σ ws).set w none).set i x
          rw [ih h2, List.set_comm _ _ h1]
      rw [this vs hv, List.set_set]
theorem wipe_wipe (σ : SV) : ∀ (vs us : List Nat), (∀ v ∈ us, v ∈ vs) → L2.wipe (L2.wipe σ us) vs = L2.wipe σ vs
  | vs, [], _ => rfl
  | vs, u :: us, h => by
    show L2.wipe ((L2.wipe σ us).set u none) vs = _
    rw [wipe_set (h u (by simp)), wipe_wipe σ vs us fun v hv => h v (by simp [hv])]
abbrev TF := D → EV → Option EV
abbrev TFs := List D → EV → Option EV
def rG (X : Cx) (vs : List Nat) (g : TF) : TG := fun v σ H Q => ∃ m d σd s σd', R X.K X.mg m s H ∧ RV X.K m (hid m H) d v ∧ RS X.K m (hid m H) σd σ ∧ g d σd = some σd' ∧
  ∀ σ', RS X.K m (hid m H) σd' σ' → L2.wipe σ' vs = L2.wipe σ vs → Q σ' H
def rGs (X : Cx) (vs : List Nat) (g : TFs) : TGs := fun us σ H Q => ∃ m ds σd s σd', R X.K X.mg m s H ∧ RVs X.K m (hid m H) ds us ∧ RS X.K m (hid m H) σd σ ∧ g ds σd = some σd' ∧
  ∀ σ', RS X.K m (hid m H) σd' σ' → L2.wipe σ' vs = L2.wipe σ vs → Q σ' H
structure IG (X : Cx) (vs : List Nat) (tg : Expr) (g : TF) : Prop where
  pg : PG X tg (rG X vs g)
structure IGs (X : Cx) (vs : List Nat) (tgs : List Expr) (n : Nat) (g : TFs) : Prop where
  pg : PGs X tgs (rGs X vs g)
  len : ∀ ds σ σ', g ds σ = some σ' → ds.length = n
theorem pg_mono {X : Cx} {tg : Expr} {t t' : TG} (h : PG X tg t) (i : ∀ v σ H Q, t' v σ H Q → t v σ H Q) : PG X tg t' := ⟨fun pins s σ H v u Q I r q => h.run pins s σ H v u Q I r (i v σ H Q q)⟩
theorem pgs_mono {X : Cx} {tg : List Expr} {t t' : TGs} (h : PGs X tg t) (i : ∀ v σ H Q, t' v σ H Q → t v σ H Q) : PGs X tg t' := ⟨fun pins s σ H v u Q I r q => h.run pins s σ H v u Q I r (i v σ H Q q)⟩
section
variable {X : Cx} {pos : Pos} {vs : List Nat}
def tNm (i : Nat) : TF := fun d σ => some (σ.set i (some d))
def tNil : TFs := fun ds σ => match ds with | [] => some σ | _ => none
def tCns (g : TF) (gs : TFs) : TFs := fun ds σ => match ds with | d :: r => (match g d σ with | some σ' => gs r σ' | none => none) | [] => none
def tTup (gs : TFs) : TF := fun d σ => match d with | .tup ds => gs ds σ | _ => none
theorem ig_name {i : Nat} {x : Str} (hN : X.N.Nodup) (hi : X.N[i]? = some x) (hx : Loc X.env.scope x) (hv : i ∈ vs := by decide) (hf : X.fn x = true ∨ X.env.scope.names.lookup x = some .local := by first | exact .inl rfl | exact .inr rfl) : IG X vs (.Name x pos) (tNm i) := by
  refine ⟨pg_mono (pg_name hN hi hx hf) fun v σ H Q ⟨m, d, σd, s, σd', hR, hv', hS, hg, hQ⟩ => ?_⟩
  cases hg
  exact hQ _ (hS.put hv') (wipe_set hv)
theorem igs_nil : IGs X vs [] 0 tNil := by
  refine ⟨pgs_mono pgs_nil fun us σ H Q ⟨m, ds, σd, s, σd', hR, hv, hS, hg, hQ⟩ => ?_, fun ds σ σ' h => ?_⟩
  · cases hv with
    | nil => cases hg; exact ⟨rfl, hQ _ hS rfl⟩
    | cons _ _ => cases hg
  · cases ds with
    | nil => rfl
    | cons _ _ => cases h
theorem igs_cons {e : Expr} {es : List Expr} {n : Nat} {g : TF} {gs : TFs} (h1 : IG X vs e g) (h2 : IGs X vs es n gs)
    (hs : (assignEach (e :: es) X.env).map (·.2) = assign e X.env :: (assignEach es X.env).map (·.2) := by rfl) : IGs X vs (e :: es) (n + 1) (tCns g gs) := by
  refine ⟨pgs_mono (pgs_cons h1.pg h2.pg hs) fun us σ H Q ⟨m, ds, σd, s, σd', hR, hv, hS, hg, hQ⟩ => ?_, fun ds σ σ' h => ?_⟩
  · cases hv with
    | nil => cases hg
    | @cons d v dr vr q qr =>
      unfold tCns at hg
      simp only at hg
      split at hg
      · rename_i σ1 e1
        exact ⟨v, vr, rfl, m, d, σd, s, σ1, hR, q, hS, e1, fun σ2 hS2 w2 => ⟨m, dr, σ1, s, σd', hR, qr, hS2, hg, fun σ3 hS3 w3 => hQ σ3 hS3 (w3.trans w2)⟩⟩
      · cases hg
  · unfold tCns at h
    split at h
    · split at h
      · rename_i d r σ1 e1
        rw [List.length_cons, h2.len _ _ _ h]
      · cases h
    · cases h
theorem ig_tup {es : List Expr} {k n : Nat} {gs : TFs} (hc : X.calm = true) (h : IGs X vs es n gs) (hn : (assignEach es X.env).length = n := by rfl) (hst : (assignEach es X.env).findIdx? (·.1) = none := by rfl) : IG X vs (.Tuple es k pos) (tTup gs) := by
  refine ⟨pg_mono (pg_tup hc h.pg hn hst) fun v σ H Q ⟨m, d, σd, s, σd', hR, hv, hS, hg, hQ⟩ => ?_⟩
  unfold tTup at hg
  split at hg
  · cases hv with
    | tup q qs => exact ⟨_, _, rfl, sqt_mono (hid_sub _ _) q, by rw [qs.length]; exact h.len _ _ _ hg, m, _, σd, s, σd', hR, qs, hS, hg, hQ⟩
  · cases hg
def sAsg (g : TF) (f : EV → M D) : SM := fun σ s => lft (f σ s) σ fun d s' => match g d σ with | some σ' => .go .nx σ' s' | none => .bad
theorem is_asg {W : WX} {tg e : Expr} {g : TF} {f : EV → M D} (he : IE X W e f) (hg : IG X vs tg g) (hs : swapsWithSole [tg] e pos.line X.env = pure false := by rfl) (hw : swappedStores [tg] e X.env = pure none := by rfl)
    (h1 : (assignEach [tg] X.env).map (·.2) = [assign tg X.env] := by rfl) : IS X W (.Assign [tg] e pos) (sAsg g f) := by
  refine ⟨ps_mono (ps_asg he.pe hg.pg hs hw h1) fun E σ H ⟨m, σd, s, hR, hS, hG⟩ => ?_⟩
  refine ⟨m, σd, s, hR, hS, (GoS.lft (rel := RV X.K) hS hG).imp fun x H1 ⟨m1, d, s1, e1, r1, v1, g1⟩ => ?_⟩
  split at g1
  · rename_i σ' eg
    exact ⟨m1, d, σd, s1, σ', r1, v1, hS.mono e1.pre e1.same, eg, fun σ2 hS2 _ => GoS.at (fl := .nx) g1 r1 hS2⟩
  · exact g1.elim
end
end RQ

namespace RQ
open PySem PySem.Spec PyProof.Rows L2

/-! ### what is walked -/
structure Src where
  item : Sto → Nat → Option (Option D)
  n : Nat
def fix (ds : List D) : Src := ⟨fun _ i => some ds[i]?, ds.length⟩
def Wk (K : PySem.W.Frag) (mg : Str → Option Value) : Rel Src It := fun m G J I => ∀ (m' : MM) (s' : Sto) (H' : Hp), m.ix <+: m'.ix → Same G (hid m' H') → R K mg m' s' H' → ∀ i,
  match J.item s' i with
  | some (some d) => I.go i H' ∧ ∀ x H2, I.yld i H' x H2 → ∃ m2, Ext m' H' m2 H2 ∧ R K mg m2 s' H2 ∧ RV K m2 (hid m2 H2) d x
  | some none => I.stop i H'
  | none => True
def rI (X : Cx) (W : WX) (f : EV → M Src) : TI := fun σ H Rk => ∃ m σd s, R X.K X.mg m s H ∧ RS X.K m (hid m H) σd σ ∧ Go W X.K X.mg σ (Wk X.K X.mg) m H (f σd s) Rk
structure II (X : Cx) (W : WX) (tg iter : Expr) (f : EV → M Src) : Prop where
  pi : PI X tg iter (rI X W f)
theorem pi_mono {X : Cx} {tg it : Expr} {t t' : TI} (h : PI X tg it t) (i : ∀ σ H Q, t' σ H Q → t σ H Q) : PI X tg it t' := ⟨fun pins s σ H Q I q => h.run pins s σ H Q I (i σ H Q q)⟩
theorem Wk.fixed {K : PySem.W.Frag} {mg : Str → Option Value} {m : MM} {G : Hp} {ds : List D} {I : It}
    (hs : ∀ (m' : MM) (s' : Sto) (H' : Hp), m.ix <+: m'.ix → Same G (hid m' H') → R K mg m' s' H' → ∀ i, (∀ d, ds[i]? = some d → I.go i H' ∧ ∀ x H2, I.yld i H' x H2 → ∃ m2, Ext m' H' m2 H2 ∧ R K mg m2 s' H2 ∧ RV K m2 (hid m2 H2) d x) ∧ (ds.length ≤ i → I.stop i H')) :
    Wk K mg m G (fix ds) I := fun m' s' H' hp sm r i => by
  obtain ⟨h1, h2⟩ := hs m' s' H' hp sm r i
  show match some ds[i]? with | some (some d) => _ | some none => _ | none => _
  cases e : ds[i]? with
  | none => exact h2 (List.getElem?_eq_none_iff.mp e)
  | some d => exact h1 d e

/-! ### for -/
def forS (J : Src) (body : D → SM) : Nat → Nat → SM
  | 0, _ => fun _ _ => .bad
  | n + 1, i => fun σ s => match J.item s i with
    | none => .bad
    | some none => .go .nx σ s
    | some (some d) => match body d σ s with
      | .go .nx σ' s' => forS J body n (i + 1) σ' s'
      | .go .ct σ' s' => forS J body n (i + 1) σ' s'
      | .go .bk σ' s' => .go .nx σ' s'
      | r => r
def bdy (g : TF) (F : SM) : D → SM := fun d σ s => match g d σ with | some σ' => F σ' s | none => .bad
def sFor (f : EV → M Src) (g : TF) (F : SM) : SM := fun σ s => lft (f σ s) σ fun J s' => forS J (bdy g F) (J.n + 1) 0 σ s'
section
variable {X : Cx} {W : WX} {pos : Pos} {tg iter : Expr} {body : List Stmt} {f : EV → M Src} {g : TF} {F : SM} {vs : List Nat}
theorem is_for (hp : PassesOwn (model X.prog X.w) X.A X.env X.xe) (hc : X.calm = true) (hi : II X W tg iter f) (hg : IG X vs tg g) (hb : ISs X W body F)
    (hs : ∀ x, foldedSetIterable iter X.env x = pure x := by intro _; rfl) : IS X W (.For tg iter body [] pos) (sFor f g F) := by
  refine ⟨ps_mono (ps_for hp hc hi.pi hg.pg hb.ps hs) fun E σ H ⟨m, σd, s, hR, hS, hG⟩ => ?_⟩
  refine ⟨m, σd, s, hR, hS, (GoS.lft (rel := Wk X.K X.mg) hS hG).imp fun I H1 ⟨m1, J, s1, e1, r1, v1, g1⟩ => ?_⟩
  refine ⟨fun i k σ' H' => ∃ m' σd' s', Ext m1 H1 m' H' ∧ R X.K X.mg m' s' H' ∧ RS X.K m' (hid m' H') σd' σ' ∧ GoS W X.K X.mg m' H' (forS J (bdy g F) k i σd' s') E, ⟨J.n + 1, m1, σd, s1, Ext.refl _ _, r1, hS.mono e1.pre e1.same, g1⟩, fun i k σ' H' hW => ?_⟩
  obtain ⟨m', σd', s', e', r', q', g'⟩ := hW
  cases k with
  | zero => exact g'.elim
  | succ k =>
    have hw := v1 m' s' H' e'.pre e'.same r' i
    unfold forS at g'
    cases hj : J.item s' i with
    | none => rw [hj] at g'; exact g'.elim
    | some o =>
      cases o with
      | none =>
        rw [hj] at g' hw
        exact .inl ⟨hw, GoS.at (fl := .nx) g' r' q'⟩
      | some d =>
        rw [hj] at g' hw
        obtain ⟨hgo, hy⟩ := hw
        refine .inr ⟨hgo, fun σ2 H2 => ∃ m' σd' s', Ext m1 H1 m' H2 ∧ R X.K X.mg m' s' H2 ∧ RS X.K m' (hid m' H2) σd' σ2 ∧ GoS W X.K X.mg m' H2 (forS J (bdy g F) k (i + 1) σd' s') E, fun σ2 H2 z => ⟨k, Nat.lt_succ_self k, z⟩, fun x H2 hx => ?_⟩
        obtain ⟨m2, e2, r2, v2⟩ := hy x H2 hx
        have q2 := q'.mono e2.pre e2.same
        have g2 := g'.ext e2
        unfold bdy at g2
        simp only at g2
        cases hgd : g d σd' with
        | none => rw [hgd] at g2; exact g2.elim
        | some σ3 =>
          rw [hgd] at g2
          simp only at g2
          refine ⟨m2, d, σd', s', σ3, r2, v2, q2, hgd, fun σ4 q4 _ => ⟨m2, σ3, s', r2, q4, ?_⟩⟩
          cases hF : F σ3 s' with
          | go fl σ5 s5 =>
            rw [hF] at g2
            cases fl with
            | nx => exact fun σ6 m6 H6 e6 r6 q6 => ⟨m6, σ5, s5, e'.trans (e2.trans e6), r6, q6, GoS.ext e6 g2⟩
            | ct => exact fun σ6 m6 H6 e6 r6 q6 => ⟨m6, σ5, s5, e'.trans (e2.trans e6), r6, q6, GoS.ext e6 g2⟩
            | bk => exact g2
            | rt dd => exact g2
          | exc c fs σ5 s5 => rw [hF] at g2; exact g2
          | bad => rw [hF] at g2; exact g2
/-! ### while -/
def whlS (p : EV → M Bool) (F : SM) : Nat → SM
  | 0 => fun _ _ => .bad
  | n + 1 => fun σ s => lft (p σ s) σ fun k s1 => if k = true then
      (match F σ s1 with
      | .go .nx σ' s' => whlS p F n σ' s'
      | .go .ct σ' s' => whlS p F n σ' s'
      | .go .bk σ' s' => .go .nx σ' s'
      | r => r)
    else .go .nx σ s1
theorem is_while {c : Expr} {p : EV → M Bool} (n : Nat) (hp : PassesOwn (model X.prog X.w) X.A X.env X.xe) (hc : IT X W c p) (hb : ISs X W body F) : IS X W (.While c body [] pos) (whlS p F n) := by
  refine ⟨ps_mono (ps_while hp hc.pt hb.ps) fun E σ H ⟨m, σd, s, hR, hS, hG⟩ => ?_⟩
  refine ⟨fun k σ' H' => ∃ m' σd' s', R X.K X.mg m' s' H' ∧ RS X.K m' (hid m' H') σd' σ' ∧ GoS W X.K X.mg m' H' (whlS p F k σd' s') E, ⟨n, m, σd, s, hR, hS, hG⟩, fun k σ' H' hW => ?_⟩
  obtain ⟨m', σd', s', r', q', g'⟩ := hW
  cases k with
  | zero => exact g'.elim
  | succ k =>
    unfold whlS at g'
    refine ⟨m', σd', s', r', q', (GoS.lft (rel := relB) q' g').imp fun b H1 ⟨m1, d, s1, e1, r1, v1, g1⟩ => ?_⟩
    cases (show b = d from v1)
    have q1 := q'.mono e1.pre e1.same
    cases b with
    | false => exact GoS.at (fl := .nx) g1 r1 q1
    | true =>
      refine ⟨fun σ2 H2 => ∃ m' σd' s', R X.K X.mg m' s' H2 ∧ RS X.K m' (hid m' H2) σd' σ2 ∧ GoS W X.K X.mg m' H2 (whlS p F k σd' s') E, fun σ2 H2 z => ⟨k, Nat.lt_succ_self k, z⟩, m1, σd', s1, r1, q1, ?_⟩
      rw [if_pos rfl] at g1
      cases hF : F σd' s1 with
      | go fl σ5 s5 =>
        rw [hF] at g1
        cases fl with
        | nx => exact fun σ6 m6 H6 e6 r6 q6 => ⟨m6, σ5, s5, r6, q6, GoS.ext e6 g1⟩
        | ct => exact fun σ6 m6 H6 e6 r6 q6 => ⟨m6, σ5, s5, r6, q6, GoS.ext e6 g1⟩
        | bk => exact g1
        | rt dd => exact g1
      | exc c fs σ5 s5 => rw [hF] at g1; exact g1
      | bad => rw [hF] at g1; exact g1
end

/-! ### comprehensions -/
def cmp (J : Src) (g : TF) (t : EV → M Bool) (e : EV → M D) (σ : EV) : Nat → Nat → List D → M (List D)
  | 0, _, _ => fun _ => .bad
  | n + 1, i, acc => fun s => match J.item s i with
    | none => .bad
    | some none => .ok acc s
    | some (some d) => match g d σ with
      | none => .bad
      | some σ2 => match t σ2 s with
        | .ok false s1 => cmp J g t e σ n (i + 1) acc s1
        | .ok true s1 => (match e σ2 s1 with
          | .ok y s2 => if acc.length < lim then cmp J g t e σ n (i + 1) (acc ++ [y]) s2 else .bad
          | _ => .bad)
        | _ => .bad
def mLc (own : List Nat) (f : EV → M Src) (g : TF) (t : EV → M Bool) (e : EV → M D) (k : List D → M D) : EV → M D := fun σ => bnd (f σ) fun J => bnd (nox (cmp J g t e (wipeD σ own) (J.n + 1) 0 [])) k
def kF (xs : List D) : M D := ret (.lst xs)
def kS (xs : List D) : M D := kNew (.lst xs)
section
variable {K : PySem.W.Frag} {mg : Str → Option Value} {m : MM} {s : Sto} {H : Hp}
theorem R.exput (r : R K mg m s H) {p : Addr} {ho : HO} (hp : p ∈ m.ex) : R K mg m s (upd H p ho) ∧ Same (hid m H) (hid m (upd H p ho)) := by
  have sm : Same (hid m H) (hid m (upd H p ho)) := fun b u q => by
    obtain ⟨q1, q2⟩ := of_hid q
    have nb : b ≠ p := fun z => q1 (.inr (by rw [z]; exact hp))
    rw [hid_out q1, upd_ne nb]; exact q2
  have px : m.ix <+: m.ix := List.prefix_rfl
  refine ⟨⟨r.len, r.nd, fun n a ob h1 h2 => ?_, fun a ha => ?_, r.ns⟩, sm⟩
  · have ha : a ≠ p := fun z => (r.ext p hp).2 (z ▸ List.mem_of_getElem? h1)
    have q := r.obj n a ob h1 h2
    cases ob with
    | lst ds => obtain ⟨vs, z, y⟩ := q; exact ⟨vs, (upd_ne ha).trans z, y.mono px sm⟩
    | dic kvs => obtain ⟨vs, z, y, x⟩ := q; exact ⟨vs, (upd_ne ha).trans z, y, x.mono px sm⟩
    | ins c fs => obtain ⟨C, dx, gs, z, y, x, u⟩ := q; exact ⟨C, dx, gs, z, (upd_ne ha).trans y, x, u.mono px sm⟩
  · by_cases z : a = p
    · subst z; exact ⟨⟨_, upd_same⟩, (r.ext a ha).2⟩
    · rw [upd_ne z]; exact r.ext a ha
/-- what was covered is seen -/
theorem R.uncover {ix ex : List Addr} {p : Addr} {o : HO} (r : R K mg ⟨ix, p :: ex⟩ s H) (hp : H p = some o) (hn : p ∉ ex) :
    R K mg ⟨ix, ex⟩ s H ∧ Same (hid ⟨ix, p :: ex⟩ H) (hid ⟨ix, ex⟩ H) ∧ hid ⟨ix, ex⟩ H p = some o := by
  have sm : Same (hid ⟨ix, p :: ex⟩ H) (hid ⟨ix, ex⟩ H) := fun b u q => by
    obtain ⟨q1, q2⟩ := of_hid q
    rw [hid_out (m := ⟨ix, ex⟩) (fun z => q1 (z.elim .inl fun y => .inr (List.mem_cons_of_mem _ y)))]; exact q2
  have px : (⟨ix, p :: ex⟩ : MM).ix <+: (⟨ix, ex⟩ : MM).ix := List.prefix_rfl
  refine ⟨⟨r.len, r.nd, fun n a ob h1 h2 => ?_, fun a ha => r.ext a (List.mem_cons_of_mem _ ha), r.ns⟩, sm, ?_⟩
  · have q := r.obj n a ob h1 h2
    cases ob with
    | lst ds => obtain ⟨vs, z, y⟩ := q; exact ⟨vs, z, y.mono px sm⟩
    | dic kvs => obtain ⟨vs, z, y, x⟩ := q; exact ⟨vs, z, y, x.mono px sm⟩
    | ins c fs => obtain ⟨C, dx, gs, z, y, x, u⟩ := q; exact ⟨C, dx, gs, z, y, x, u.mono px sm⟩
  · have h1 := (r.ext p (List.mem_cons_self)).2
    rw [hid_out (m := ⟨ix, ex⟩) (fun z => z.elim h1 hn)]; exact hp
/-- a thing of one's own becomes a thing of the store -/
theorem R.adopt {p : Addr} {o : O} (r : R K mg m s H) (hp : ¬ m.has p) (ho : ∃ u, H p = some u) (hn : ∀ G', (∀ b u, b ≠ p → hid m H b = some u → G' b = some u) → G' = hid (m.more p) H → RO K mg (m.more p) H p o)
    (hfree : ∀ (n : Nat) (a : Addr) (ob : O), m.ix[n]? = some a → s[n]? = some ob → RO K mg (m.more p) H a ob) : R K mg (m.more p) (s ++ [o]) H := by
  refine ⟨by show (m.ix ++ [p]).length = _; simp [r.len], ?_, fun n a ob h1 h2 => ?_, fun a ha => ⟨(r.ext a ha).1, fun z => ?_⟩, r.ns⟩
  · exact List.nodup_append.mpr ⟨r.nd, by simp, fun a ha b hb => by
      have : b = p := by simpa using hb
      subst this
      exact fun z => hp (.inl (z ▸ ha))⟩
  · have h1 : (m.ix ++ [p])[n]? = some a := h1
    by_cases hl : n < m.ix.length
    · rw [List.getElem?_append_left hl] at h1
      rw [List.getElem?_append_left (by rw [← r.len]; exact hl)] at h2
      exact hfree n a ob h1 h2
    · have hn' : n = m.ix.length := by
        have := (List.getElem?_eq_some_iff.mp h1).1
        simp at this; omega
      subst hn'
      simp at h1
      rw [r.len] at h2
      simp at h2
      subst h1 h2
      refine hn _ (fun b u nb q => ?_) rfl
      obtain ⟨q1, q2⟩ := of_hid q
      rw [hid_out (m := m.more p) (fun z => z.elim (fun z => (List.mem_append.mp z).elim (fun y => q1 (.inl y)) fun y => nb (by simpa using y)) fun z => q1 (.inr z))]; exact q2
  · rcases List.mem_append.mp (show a ∈ m.ix ++ [p] from z) with z | z
    · exact (r.ext a ha).2 z
    · exact hp (.inr (by have : a = p := by simpa using z
                         rw [← this]; exact ha))
end
/-- how the list that was made is handed on -/
def LcK (K : PySem.W.Frag) (mg : Str → Option Value) (k : List D → M D) : Prop :=
  ∀ (W : WX) (σ : SV) (Q : VK) (m1 : MM) (H1 H : Hp) (ix : List Addr) (p : Addr) (ds : List D) (vs : List V) (s : Sto), H1 p = none → R K mg m1 [] H1 ∨ True → m1.ix <+: ix → Same (hid m1 H1) (hid ⟨ix, p :: m1.ex⟩ H) →
    (∀ a ∈ m1.ex, H a = H1 a) → p ∉ m1.ex → R K mg ⟨ix, p :: m1.ex⟩ s H → H p = some (.lst vs) → RVs K ⟨ix, p :: m1.ex⟩ (hid ⟨ix, p :: m1.ex⟩ H) ds vs → Go W K mg σ (RV K) m1 H1 (k ds s) Q → Q (.ref p) H
theorem lck_F {K : PySem.W.Frag} {mg : Str → Option Value} : LcK K mg kF := by
  intro W σ Q m1 H1 H ix p ds vs s hp _ pre sm kx hx r hv rv hG
  obtain ⟨r2, sm2, h2⟩ := r.uncover hv hx
  have e : Ext m1 H1 ⟨ix, m1.ex⟩ H := ⟨pre, sm.trans sm2, rfl, kx⟩
  have px : (⟨ix, p :: m1.ex⟩ : MM).ix <+: (⟨ix, m1.ex⟩ : MM).ix := List.prefix_rfl
  exact hG _ ⟨ix, m1.ex⟩ H e r2 (.lst h2 (rv.mono px sm2))
theorem lck_S {K : PySem.W.Frag} {mg : Str → Option Value} : LcK K mg kS := by
  intro W σ Q m1 H1 H ix p ds vs s hp _ pre sm kx hx r hv rv hG
  obtain ⟨r2, sm2, h2⟩ := r.uncover hv hx
  have hni : p ∉ ix := (r.ext p List.mem_cons_self).2
  have sm3 : Same (hid ⟨ix, p :: m1.ex⟩ H) (hid ((⟨ix, m1.ex⟩ : MM).more p) H) := fun b u q => by
    obtain ⟨q1, q2⟩ := of_hid q
    have nh : ¬ ((⟨ix, m1.ex⟩ : MM).more p).has b := fun z => q1 (by
      rcases z with z | z
      · rcases List.mem_append.mp z with y | y
        · exact .inl y
        · have e : b = p := by simpa using y
          exact .inr (by rw [e]; exact List.mem_cons_self)
      · exact .inr (List.mem_cons_of_mem _ z))
    rw [hid_out nh]; exact q2
  have px : (⟨ix, p :: m1.ex⟩ : MM).ix <+: ((⟨ix, m1.ex⟩ : MM).more p).ix := List.prefix_append _ _
  have r3 : R K mg ((⟨ix, m1.ex⟩ : MM).more p) (s ++ [.lst ds]) H := by
    refine r2.adopt (fun z => z.elim hni hx) ⟨_, hv⟩ (fun _ _ _ => ⟨vs, hv, rv.mono px sm3⟩) fun n a ob h1 h2 => ?_
    have q := r.obj n a ob h1 h2
    cases ob with
    | lst ds => obtain ⟨vs, z, y⟩ := q; exact ⟨vs, z, y.mono px sm3⟩
    | dic kvs => obtain ⟨vs, z, y, x⟩ := q; exact ⟨vs, z, y, x.mono px sm3⟩
    | ins c fs => obtain ⟨C, dx, gs, z, y, x, u⟩ := q; exact ⟨C, dx, gs, z, y, x, u.mono px sm3⟩
  have e : Ext m1 H1 ((⟨ix, m1.ex⟩ : MM).more p) H := ⟨pre.trans (List.prefix_append _ _), sm.trans sm3, rfl, kx⟩
  exact hG _ _ H e r3 (.ref (by rw [← r2.len]; show (ix ++ [p])[ix.length]? = _; simp))
structure ITs (X : Cx) (W : WX) (ifs : List Expr) (t : EV → M Bool) : Prop where
  pt : PTs X ifs (rT X W t)
theorem pts_mono {X : Cx} {ifs : List Expr} {t t' : TT} (h : PTs X ifs t) (i : ∀ σ H Q, t' σ H Q → t σ H Q) : PTs X ifs t' := ⟨fun pins s σ H Q I q => h.run pins s σ H Q I (i σ H Q q)⟩
def yes : EV → M Bool := fun _ s => .ok true s
theorem its_nil {X : Cx} {W : WX} : ITs X W [] yes := ⟨pts_mono pts_nil fun σ H Q ⟨m, σd, s, hR, hS, hG⟩ => Go.ok (a := true) hG hR rfl⟩
theorem its_one {X : Cx} {W : WX} {c : Expr} {t : EV → M Bool} (h : IT X W c t) : ITs X W [c] t := ⟨pts_one h.pt⟩
section
variable {X : Cx} {W : WX}
theorem lcs {own : List Nat} {f : EV → M Src} {g : TF} {t : EV → M Bool} {e : EV → M D} {k : List D → M D} (hk : LcK X.K X.mg k) {σ : SV} {H : Hp} {Q : VK} (hw : rE X W (mLc own f g t e k) σ H Q) : tLc (rI X W f) (rG X own g) (rT X W0 t) (rE X W0 e) own σ H Q := by
  obtain ⟨m, σd, s, hR, hS, hG⟩ := hw
  refine ⟨m, σd, s, hR, hS, (Go.bnd (rel := Wk X.K X.mg) hG).imp fun I H1 ⟨m1, J, s1, e1, r1, v1, g1⟩ => ?_⟩
  intro p hp
  have hS1 := hS.mono e1.pre e1.same
  generalize hr0 : nox (cmp J g t e (wipeD σd own) (J.n + 1) 0 []) s1 = r0 at g1
  have g1 : Go W X.K X.mg σ (RV X.K) m1 H1 (r0.bnd k) Q := by
    have : bnd (nox (cmp J g t e (wipeD σd own) (J.n + 1) 0 [])) k s1 = r0.bnd k := by unfold bnd; rw [hr0]
    rw [← this]; exact g1
  have hpx : p ∉ m1.ex := fun z => r1.fresh hp (.inr z)
  obtain ⟨rc, smc⟩ := r1.cover (ho := .lst []) hp
  -- the invariant
  refine ⟨fun i k' H' => ∃ ix s' acc vs, m1.ix <+: ix ∧ Same (hid m1 H1) (hid ⟨ix, p :: m1.ex⟩ H') ∧ (∀ a ∈ m1.ex, H' a = H1 a) ∧ R X.K X.mg ⟨ix, p :: m1.ex⟩ s' H' ∧ H' p = some (.lst vs) ∧ RVs X.K ⟨ix, p :: m1.ex⟩ (hid ⟨ix, p :: m1.ex⟩ H') acc vs ∧ nox (cmp J g t e (wipeD σd own) k' i acc) s' = r0,
    ⟨J.n + 1, m1.ix, s1, [], [], List.prefix_rfl, smc, fun a ha => upd_ne fun z => hpx (z ▸ ha), rc, upd_same, .nil, hr0⟩, fun i k' H' hW => ?_⟩
  obtain ⟨ix, s', acc, vs, px, sm, kx, r', hv, rv, hc⟩ := hW
  cases k' with
  | zero =>
    have : r0 = .bad := hc.symm
    rw [this] at g1; exact g1.elim
  | succ k' =>
    have hwk := v1 ⟨ix, p :: m1.ex⟩ s' H' px sm r' i
    unfold cmp at hc
    cases hj : J.item s' i with
    | none =>
      have : r0 = .bad := by rw [← hc]; unfold RQ.nox; simp only [hj]
      rw [this] at g1; exact g1.elim
    | some o =>
      cases o with
      | none =>
        rw [hj] at hwk
        have : r0 = .ok acc s' := by rw [← hc]; unfold RQ.nox; simp only [hj]
        rw [this] at g1
        exact .inl ⟨hwk, hk W σ Q m1 H1 H' ix p acc vs s' hp (.inr True.intro) px sm kx hpx r' hv rv g1⟩
      | some d =>
        rw [hj] at hwk
        obtain ⟨hgo, hy⟩ := hwk
        refine .inr ⟨hgo, fun H2 => ∃ ix s' acc vs, m1.ix <+: ix ∧ Same (hid m1 H1) (hid ⟨ix, p :: m1.ex⟩ H2) ∧ (∀ a ∈ m1.ex, H2 a = H1 a) ∧ R X.K X.mg ⟨ix, p :: m1.ex⟩ s' H2 ∧ H2 p = some (.lst vs) ∧ RVs X.K ⟨ix, p :: m1.ex⟩ (hid ⟨ix, p :: m1.ex⟩ H2) acc vs ∧ nox (cmp J g t e (wipeD σd own) k' (i + 1) acc) s' = r0, fun H2 z => ⟨k', Nat.lt_succ_self _, z⟩, fun x H2 hx => ?_⟩
        -- heaps that grow, with what is covered as it was
        have step : ∀ {m2 : MM} {H2 : Hp}, Ext ⟨ix, p :: m1.ex⟩ H' m2 H2 → m2 = ⟨m2.ix, p :: m1.ex⟩ ∧ m1.ix <+: m2.ix ∧ Same (hid m1 H1) (hid m2 H2) ∧ (∀ a ∈ m1.ex, H2 a = H1 a) ∧ H2 p = some (.lst vs) := fun {m2 H2} e2 => by
          obtain ⟨ix2, ex2⟩ := m2
          have hex : ex2 = p :: m1.ex := e2.exq
          subst hex
          exact ⟨rfl, px.trans e2.pre, sm.trans e2.same, fun a ha => (e2.keep a (List.mem_cons_of_mem _ ha)).trans (kx a ha), (e2.keep p List.mem_cons_self).trans hv⟩
        obtain ⟨m2, e2, r2, v2⟩ := hy x H2 hx
        have hS2 : RS X.K m2 (hid m2 H2) (wipeD σd own) (L2.wipe σ own) := ((hS1.mono (step e2).2.1 (step e2).2.2.1).wipe own)
        cases hgd : g d (wipeD σd own) with
        | none =>
          have : r0 = .bad := by rw [← hc]; unfold RQ.nox; simp only [hj, hgd]
          rw [this] at g1; exact g1.elim
        | some σ2 =>
          refine ⟨m2, d, _, s', σ2, r2, v2, hS2, hgd, fun σ3 q3 w3 => ⟨w3.trans (wipe_wipe σ own own fun _ h => h), m2, σ2, s', r2, q3, ?_⟩⟩
          cases ht : t σ2 s' with
          | bad =>
            have : r0 = .bad := by rw [← hc]; unfold RQ.nox; simp only [hj, hgd, ht]
            rw [this] at g1; exact g1.elim
          | exc c fs s3 =>
            have : r0 = .bad := by rw [← hc]; unfold RQ.nox; simp only [hj, hgd, ht]
            rw [this] at g1; exact g1.elim
          | ok b s3 =>
            intro b' m3 H3 e3 r3 hb
            have hb : b' = b := hb
            subst hb
            cases b' with
            | false =>
              have hc' : nox (cmp J g t e (wipeD σd own) k' (i + 1) acc) s3 = r0 := by rw [← hc]; unfold RQ.nox; simp only [hj, hgd, ht]
              obtain ⟨z1, z2, z3, z4, z5⟩ := step (e2.trans e3)
              rw [if_neg Bool.false_ne_true]
              rw [z1] at r3 z3 e3
              refine ⟨m3.ix, s3, acc, vs, z2, z3, z4, r3, z5, ?_, hc'⟩
              exact rv.mono (m' := ⟨m3.ix, p :: m1.ex⟩) (e2.pre.trans e3.pre) (e2.same.trans e3.same)
            | true =>
              rw [if_pos rfl]
              refine ⟨m3, σ2, s3, r3, q3.mono e3.pre e3.same, ?_⟩
              cases hel : e σ2 s3 with
              | bad =>
                have : r0 = .bad := by rw [← hc]; unfold RQ.nox; simp only [hj, hgd, ht, hel]
                rw [this] at g1; exact g1.elim
              | exc c fs s4 =>
                have : r0 = .bad := by rw [← hc]; unfold RQ.nox; simp only [hj, hgd, ht, hel]
                rw [this] at g1; exact g1.elim
              | ok y s4 =>
                intro yv m4 H4 e4 r4 vy
                by_cases hl : acc.length < lim
                · have hc' : nox (cmp J g t e (wipeD σd own) k' (i + 1) (acc ++ [y])) s4 = r0 := by
                    rw [← hc]; unfold RQ.nox; simp only [hj, hgd, ht, hel, if_pos hl]
                  obtain ⟨z1, z2, z3, z4, z5⟩ := step (e2.trans (e3.trans e4))
                  rw [z1] at r4 z3 e4 vy
                  have hpm : p ∈ (⟨m4.ix, p :: m1.ex⟩ : MM).ex := List.mem_cons_self
                  have npx : ∀ a ∈ m1.ex, a ≠ p := fun a ha z => hpx (z ▸ ha)
                  obtain ⟨r5, sm5⟩ := r4.exput (ho := .lst (vs ++ [yv])) hpm
                  have rv4 := rv.mono (m' := ⟨m4.ix, p :: m1.ex⟩) (e2.pre.trans (e3.pre.trans e4.pre)) (e2.same.trans (e3.same.trans e4.same))
                  refine ⟨vs, z5, by rw [rv.length]; exact Nat.lt_of_lt_of_le hl (lim_le (Nat.le_refl _)), m4.ix, s4, acc ++ [y], vs ++ [yv], z2, z3.trans sm5, fun a ha => (upd_ne (npx a ha)).trans (z4 a ha), r5, upd_same, ?_, hc'⟩
                  exact (rv4.append (.cons vy .nil)).mono List.prefix_rfl sm5
                · have : r0 = .bad := by rw [← hc]; unfold RQ.nox; simp only [hj, hgd, ht, hel, if_neg hl]
                  rw [this] at g1; exact g1.elim
theorem ie_lc {elt tg iter : Expr} {ifs : List Expr} {scope : Scope} {own : List (Str × Nat)} {pos : Pos} {f : EV → M Src} {g : TF} {t : EV → M Bool} {e : EV → M D} {k : List D → M D} (hk : LcK X.K X.mg k) (hc : X.calm = true) (hN : X.N.Nodup) (hi : II X W tg iter f) (ok : BlkOk X.N X.env.scope scope own)
    (hg : ∀ (s : Shared) (H : Hp) (C : Addr) (cl : List (Str × Addr)) (fp : List Addr), IG (X.blk s H scope (compEnvC scope cl C X.env) fp) (own.map (·.2)) tg g) (ht : ∀ (s : Shared) (H : Hp) (C : Addr) (cl : List (Str × Addr)) (fp : List Addr), ITs (X.blk s H scope (compEnvC scope cl C X.env) fp) W0 ifs t)
    (he : ∀ (s : Shared) (H : Hp) (C : Addr) (cl : List (Str × Addr)) (fp : List Addr), IE (X.blk s H scope (compEnvC scope cl C X.env) fp) W0 elt e) (hs : ∀ x, foldedSetIterable iter X.env x = pure x := by intro _; rfl) :
    IE X W (.ListComp elt [⟨tg, iter, ifs, 0⟩] scope pos) (mLc (own.map (·.2)) f g t e k) :=
  ⟨pe_mono (pe_lc (wi := rI X W f) (g := rG X (List.map (fun x => Prod.snd x) own) g) (tt := rT X W0 t) (te := rE X W0 e) hc hN hi.pi ok (fun s H C cl fp => (hg s H C cl fp).pg) (fun s H C cl fp => (ht s H C cl fp).pt) (fun s H C cl fp => (he s H C cl fp).pe) hs) fun σ H Q hw => lcs hk hw⟩
/-- name = [..] -/
theorem is_setLc {i : Nat} {y : Str} {py : Pos} {elt tg iter : Expr} {ifs : List Expr} {scope : Scope} {own : List (Str × Nat)} {pos spos : Pos} {f : EV → M Src} {g : TF} {t : EV → M Bool} {e : EV → M D} {k : List D → M D} (hk : LcK X.K X.mg k) (hc : X.calm = true) (hN : X.N.Nodup) (hy : X.N[i]? = some y) (hyl : X.env.scope.names.lookup y = some .local)
    (hsw : swapsWith (.ListComp elt [⟨tg, iter, ifs, 0⟩] scope pos) (some (.Name y py)) spos.line X.env = pure true) (hi : II X W tg iter f) (ok : BlkOk X.N X.env.scope scope own)
    (hg : ∀ (s : Shared) (H : Hp) (C : Addr) (cl : List (Str × Addr)) (fp : List Addr), IG (X.blk s H scope (compEnvC scope cl C X.env) fp) (own.map (·.2)) tg g) (ht : ∀ (s : Shared) (H : Hp) (C : Addr) (cl : List (Str × Addr)) (fp : List Addr), ITs (X.blk s H scope (compEnvC scope cl C X.env) fp) W0 ifs t)
    (he : ∀ (s : Shared) (H : Hp) (C : Addr) (cl : List (Str × Addr)) (fp : List Addr), IE (X.blk s H scope (compEnvC scope cl C X.env) fp) W0 elt e) (hs : ∀ x, foldedSetIterable iter X.env x = pure x := by intro _; rfl) :
    IS X W (.Assign [.Name y py] (.ListComp elt [⟨tg, iter, ifs, 0⟩] scope pos) spos) (sSet i (mLc (own.map (·.2)) f g t e k)) := by
  refine ⟨ps_mono (ps_setLc (wi := rI X W f) (g := rG X (List.map (fun x => Prod.snd x) own) g) (tt := rT X W0 t) (te := rE X W0 e) hc hN hy hyl hsw hi.pi ok (fun s H C cl fp => (hg s H C cl fp).pg) (fun s H C cl fp => (ht s H C cl fp).pt) (fun s H C cl fp => (he s H C cl fp).pe) hs) fun E σ H ⟨m, σd, s, hR, hS, hG⟩ => ?_⟩
  refine lcs hk ⟨m, σd, s, hR, hS, (GoS.lft (rel := RV X.K) hS hG).imp fun x H1 ⟨m1, d, s1, e1, r1, v1, g1⟩ => ?_⟩
  exact GoS.at (fl := .nx) g1 r1 ((hS.mono e1.pre e1.same).put v1)
end
end RQ

namespace RQ
open PySem PySem.Spec PyProof.Rows L2

/-! ### defs -/
abbrev WE (E : XK) : WX := fun c d _ H => E c d H
structure FnI (P : Program) (w : World) (K : PySem.W.Frag) (mg : Str → Option Value) (base : Heap) (k : Nat) (f : Addr) (fd : FuncData) (ps : List Str) (F : List D → M D) : Prop where
  run : ∀ (A : Around) (outer : List Env) (s : Shared) (H : Hp) (args : Args) (us : List Value) (vs : List V) (ds : List D) (m : MM) (t : Sto) (Q : VK) (E : XK),
    Room k A → A.guards = some [] → Env0 P w K mg base A outer s H → BindsTo s fd args (ps.zip us) → Vals vs us → vs.length = ps.length →
    R K mg m t H → RVs K m (hid m H) ds vs → Go (WE E) K mg [] (RV K) m H (F ds t) Q →
    codeAny (model P w) A (.call (.ref f) args) (CR (L2.CX P w) outer P w H s Q E) s
theorem FnI.mono {P : Program} {w : World} {K : PySem.W.Frag} {mg : Str → Option Value} {base : Heap} {j k : Nat} {f : Addr} {fd : FuncData} {ps : List Str} {F : List D → M D} (h : FnI P w K mg base j f fd ps F) (hj : j ≤ k) : FnI P w K mg base k f fd ps F :=
  ⟨fun A outer s H args us vs ds m t Q E hr => h.run A outer s H args us vs ds m t Q E (hr.mono hj)⟩
/-- the def of the text at f -/
structure Fn (K : PySem.W.Frag) (x qual : Str) (st : Stmt) (f : Addr) (fd : FuncData) : Prop where
  at' : ∃ (oc : Value) (od : Option Addr) (dV kV doc pm : Value) (an : Option Addr) (cdv ct : Value) (osl : Array (Option Value)),
    fd = PySem.W.fnOf x qual (defArgs st) (defBody st) (defScope st) dV kV doc pm an cdv ct ∧ K.lookup f = some ⟨oc, od, .func fd, osl⟩ ∧ PySem.W.codeIn K cdv qual = true
  kp : PySem.W.keepIn K (.ref f) = true
def runB (n : Nat) (B : SM) : List D → M D := fun ds s => match B (ds.map some ++ List.replicate (n - ds.length) none) s with
  | .go .nx _ s' => .ok .non s'
  | .go (.rt d) _ s' => .ok d s'
  | .exc c fs _ s' => .exc c fs s'
  | _ => .bad
theorem rs_start {K : PySem.W.Frag} {m : MM} {G : Hp} {N : List Str} {ds : List D} {vs : List V} (h : RVs K m G ds vs) : RS K m G (ds.map some ++ List.replicate (N.length - ds.length) none) (start N vs) := by
  have hl := h.length
  refine ⟨by unfold L2.start; simp [hl], fun i d e => ?_⟩
  by_cases hi : i < ds.length
  · rw [List.getElem?_append_left (by simpa using hi), List.getElem?_map] at e
    cases q : ds[i]? with
    | none => rw [q] at e; cases e
    | some y =>
      rw [q] at e
      cases e
      obtain ⟨v, h1, h2⟩ := h.get q
      refine ⟨v, ?_, h2⟩
      unfold L2.start
      rw [List.getElem?_append_left (by simpa [hl] using hi), List.getElem?_map, h1]; rfl
  · rw [List.getElem?_append_right (by simpa using hi), List.getElem?_replicate] at e
    split at e <;> cases e
theorem fn_i {P : Program} {w : World} {K : PySem.W.Frag} {mg : Str → Option Value} {base : Heap} {k : Nat} {x qual : Str} {st : Stmt} {f : Addr} {fd : FuncData} {N ps : List Str} {B : SM} {n : Nat} (hn : N.length = n) (F : Fn K x qual st f fd) (S : FnScope N ps (defScope st))
    (hB : ∀ (cdv : Value) (A : Around) (outer : List Env) (s : Shared) (H : Hp) (E : XK), Room k (A.deeper (envOfC qual (defScope st) s.heap.objs.size f cdv)) → A.guards = some [] →
      ISs (cxOf (L2.CX P w) P w K mg base N qual (defScope st) f cdv A outer s H E) (WE E) (defBody st) B) : FnI P w K mg base (k + 1) f fd ps (runB n B) := by
  subst hn
  obtain ⟨oc, od, dV, kV, doc, pm, an, cdv, ct, osl, rfl, lk, hcd⟩ := F.at'
  refine ⟨fun A outer s H args us vs ds m t Q E hr hgd e0 bd rv hlen hR hV hG => ?_⟩
  have KX : K.In s.heap := e0.mod.kin.keeps fun b o q => (e0.bs b o q).1
  have lim0 : s.heap.NoLimit := e0.mod.nolimit.keeps fun b o q => (e0.bs b o q).1
  refine codeAny_call_function hr.depth (KX _ _ lk) rfl S.co S.gen rfl (PySem.W.codeRec_of KX hcd) (bd _ _ _ _ (wpAny_newFunctionEnv_cells S.kind (fun ⟨n, v⟩ hy => ?kd) fun env he s1 ic => ?_))
  case kd =>
    rcases S.par n (List.of_mem_zip hy).1 with q | q
    · exact .inl q
    · exact .inr ⟨q, PySem.W.cellsFrom_some _ _ _ (.inl q)⟩
  subst he
  refine ⟨lim0.keeps ic.toInCall.keep, codeAny_func ?_⟩
  have hb := hB cdv A outer s H E (hr.deeper _) hgd
  have I : Inv (cxOf (L2.CX P w) P w K mg base N qual (defScope st) f cdv A outer s H E) [] (start N vs) H s1 := inv_start S hr.hd e0 hlen rv ic
  have hq : rS (cxOf (L2.CX P w) P w K mg base N qual (defScope st) f cdv A outer s H E) (WE E) B { nx := fun _ H' => Q .non H', rt := Q } (start N vs) H := by
    refine ⟨m, _, t, hR, rs_start hV, ?_⟩
    unfold runB at hG
    cases e : B (ds.map some ++ List.replicate (N.length - ds.length) none) t with
    | go fl σ' s' =>
      rw [e] at hG
      cases fl with
      | nx => exact fun σ2 m2 H2 e2 r2 _ => hG _ m2 H2 e2 r2 .non
      | rt d => exact fun σ2 m2 H2 e2 r2 _ v hv => hG v m2 H2 e2 r2 hv
      | bk => exact hG.elim
      | ct => exact hG.elim
    | exc c fs σ' s' =>
      rw [e] at hG
      exact fun C d σ2 m2 H2 e2 r2 _ hc hx => hG C d m2 H2 e2 r2 hc hx
    | bad => rw [e] at hG; exact hG.elim
  refine wpAny_mono (hb.ps.run [] s1 (start N vs) H _ I hq) (fun fl s' hs => ?_) fun _ _ z => z
  cases fl with
  | ret u => obtain ⟨v, σ', H', J, ru, q⟩ := hs; exact ⟨v, H', J.os, J.bare, J.base, J.hok, ru, q⟩
  | next => obtain ⟨σ', H', J, q⟩ := hs; exact ⟨.non, H', J.os, J.bare, J.base, J.hok, rfl, q⟩
  | brk => obtain ⟨_, _, _, q⟩ := hs; exact q.elim
  | cont => obtain ⟨_, _, _, q⟩ := hs; exact q.elim
theorem ISs.cast {X : Cx} {W : WX} {st : List Stmt} {F G : SM} (h : ISs X W st F) (e : F = G) : ISs X W st G := by subst e; exact h
/-! ### calls of defs -/
section
variable {X : Cx} {W : WX} {k : Nat} {f : Addr} {fd : FuncData} {ps : List Str} {F : List D → M D} {x : Str} {p pos : Pos} {a : Expr} {es : List Expr} {fs : EV → M (List D)} {dvs : List D} {dV : List V} {ds : List Value}
def mCall (n : Nat) (F : List D → M D) (fs : EV → M (List D)) : EV → M D := fun σ => bnd (fs σ) fun xs s => if xs.length = n then F xs s else .bad
theorem run_i {pins : List (Addr × Obj)} {σ : SV} {H : Hp} {s : Shared} {Q : VK} {us : List Value} {vs : List V} {xs : List D} {m : MM} {t : Sto} {args : Args} {ws : List Value} (G : FnI X.prog X.w X.K X.mg X.base k f fd ps F) (hr : Room k X.A) (hgd : X.A.guards = some []) (tk : Takes X W)
    (hb : BindsTo s fd args (ps.zip ws)) (I : Inv X pins σ H s) (rv : Vals vs ws) (hl : vs.length = ps.length) (hR : R X.K X.mg m t H) (hV : RVs X.K m (hid m H) xs vs) (hG : Go W X.K X.mg σ (RV X.K) m H (F xs t) Q) :
    codeAny (model X.prog X.w) X.A (.call (.ref f) args) (fun r s' => match r with | .ok (.ret u) => EP X pins σ Q u s' | .ok _ => False | .error e => X.xe e s') s := by
  have hG' : Go (WE fun c d H => W c d σ H) X.K X.mg [] (RV X.K) m H (F xs t) Q := by
    cases e : F xs t with
    | ok d s' => rw [e] at hG; exact hG
    | exc c fs s' => rw [e] at hG; exact hG
    | bad => rw [e] at hG; exact hG
  refine codeAny_mono (G.run X.A X.stack s H args ws vs xs m t Q (fun c d H => W c d σ H) hr hgd I.env0 hb rv hl hR hV hG') fun r s' hq => ?_
  cases r with
  | error e => exact tk e s' (XE.of_call I (fun _ _ _ z => z) hq)
  | ok fl =>
    cases fl with
    | ret u => exact I.after hq
    | next => exact hq.elim
    | brk => exact hq.elim
    | cont => exact hq.elim
theorem call_i {pins : List (Addr × Obj)} {σ : SV} {H : Hp} {s : Shared} {Q : VK} {us : List Value} {vs : List V} {xs : List D} {m : MM} {t : Sto} (G : FnI X.prog X.w X.K X.mg X.base k f fd ps F) (hr : Room k X.A) (hgd : X.A.guards = some []) (tk : Takes X W)
    (hb : Binds X.K fd ps ds) (hd : Vals dV ds) (hD : ∀ m G, RVs X.K m G dvs dV) (I : Inv X pins σ H s) (rv : Vals vs us) (hR : R X.K X.mg m t H) (hV : RVs X.K m (hid m H) xs vs) (hl : (xs ++ dvs).length = ps.length) (hG : Go W X.K X.mg σ (RV X.K) m H (F (xs ++ dvs) t) Q) :
    wpAny (model X.prog X.w) X.A (call (.ref f) us) (EP X pins σ Q) X.xe s := by
  have r2 : Vals (vs ++ dV) (us ++ ds) := rv.append hd
  have v2 : RVs X.K m (hid m H) (xs ++ dvs) (vs ++ dV) := hV.append (hD _ _)
  have l2 : (vs ++ dV).length = ps.length := v2.length.trans hl
  refine wpAny_call (codeAny_mono (run_i (us := us) (args := ⟨us, []⟩) G hr hgd tk (hb s us I.kIn (r2.length ▸ l2)) I r2 l2 hR v2 hG) fun r s' hq => ?_)
  cases r with
  | error e => exact hq
  | ok fl =>
    cases fl with
    | ret u => exact hq
    | next => exact hq.elim
    | brk => exact hq.elim
    | cont => exact hq.elim
theorem ie_call (G : FnI X.prog X.w X.K X.mg X.base k f fd ps F) (hr : Room k X.A) (hgd : X.A.guards = some []) (tk : Takes X W) (hg : Gl X x) (hm : X.mg x = some (.ref f)) (hk : PySem.W.keepIn X.K (.ref f) = true) (hb : Binds X.K fd ps ds) (hd : Vals dV ds) (hD : ∀ m G, RVs X.K m G dvs dV)
    (ha : IA X W (a :: es) fs) (hz : dvs.length ≤ ps.length := by decide) (hdb : (x == ("__debug__" : Str)) = false := by decide) (he : starEach (a :: es) X.env = (false, eval a X.env) :: starEach es X.env := by rfl) (hpl : (backTo pos (starEach es X.env)).any (·.1) = false := by rfl) :
    IE X W (.Call (.Name x p) (a :: es) [] pos) (mCall (ps.length - dvs.length) (fun xs => F (xs ++ dvs)) fs) := by
  refine ⟨⟨fun pins s σ H Q I ⟨m, σd, t, hR, hS, hG⟩ => ?_⟩⟩
  refine wpAny_Call_Name_kw (ld_glob I hg hm (PySem.W.callWith_K (h₀ := X.base) I.ok.mod.kin hk (thn (ha.pa.run pos pins s σ H _ I ⟨m, σd, t, hR, hS, Go.bnd (rel := RVs X.K) hG⟩) fun us s1 ⟨vs, H1, I1, rv, m1, xs, s2, e1, r1, v1, g1⟩ => ⟨I1.kIn, ?_⟩) he hpl) hdb)
  split at g1
  · rename_i hl
    exact call_i G hr hgd tk hb hd hD I1 rv r1 v1 (by rw [List.length_append]; omega) g1
  · exact g1.elim
theorem ie_callN {n : Nat} (G : FnI X.prog X.w X.K X.mg X.base k f fd ps F) (hr : Room k X.A) (hgd : X.A.guards = some []) (tk : Takes X W) (hg : Gl X x) (hm : X.mg x = some (.ref f)) (hk : PySem.W.keepIn X.K (.ref f) = true) (hb : Binds X.K fd ps [])
    (ha : IA X W (a :: es) fs) (hn : ps.length = n := by rfl) (hdb : (x == ("__debug__" : Str)) = false := by decide) (he : starEach (a :: es) X.env = (false, eval a X.env) :: starEach es X.env := by rfl) (hpl : (backTo pos (starEach es X.env)).any (·.1) = false := by rfl) :
    IE X W (.Call (.Name x p) (a :: es) [] pos) (mCall n F fs) := by
  refine ⟨⟨fun pins s σ H Q I ⟨m, σd, t, hR, hS, hG⟩ => ?_⟩⟩
  refine wpAny_Call_Name_kw (ld_glob I hg hm (PySem.W.callWith_K (h₀ := X.base) I.ok.mod.kin hk (thn (ha.pa.run pos pins s σ H _ I ⟨m, σd, t, hR, hS, Go.bnd (rel := RVs X.K) hG⟩) fun us s1 ⟨vs, H1, I1, rv, m1, xs, s2, e1, r1, v1, g1⟩ => ⟨I1.kIn, ?_⟩) he hpl) hdb)
  split at g1
  · rename_i hl
    exact call_i (dvs := []) (dV := []) G hr hgd tk hb .nil (fun _ _ => .nil) I1 rv r1 v1 (by rw [List.append_nil]; omega) (by rw [List.append_nil]; exact g1)
  · exact g1.elim
theorem ie_call0 (G : FnI X.prog X.w X.K X.mg X.base k f fd ps F) (hr : Room k X.A) (hgd : X.A.guards = some []) (tk : Takes X W) (hg : Gl X x) (hm : X.mg x = some (.ref f)) (hk : PySem.W.keepIn X.K (.ref f) = true) (hb : Binds X.K fd ps ds) (hd : Vals dV ds) (hD : ∀ m G, RVs X.K m G dvs dV)
    (hl : dvs.length = ps.length) (hdb : (x == ("__debug__" : Str)) = false := by decide) : IE X W (.Call (.Name x p) [] [] pos) (fun _ => F dvs) := by
  refine ⟨⟨fun pins s σ H Q I ⟨m, σd, t, hR, hS, hG⟩ => ?_⟩⟩
  exact wpAny_Call_Name_kw (ld_glob I hg hm (PySem.W.callWith_K0 I.kIn hk (call_i (us := []) (xs := []) G hr hgd tk hb hd hD I .nil hR .nil hl hG)) hdb)
end
end RQ

namespace RQ
open PySem PySem.Spec PyProof.Rows L2

theorem op_mono {X : Cx} {F : Value → Value → Sem Value} {r r' : R2} (h : OpR X F r) (i : ∀ x y H Q, r' x y H Q → r x y H Q) : OpR X F r' :=
  fun pins s σ H x y v u Q I rx ry q => h pins s σ H x y v u Q I rx ry (i x y H Q q)
theorem un_mono {X : Cx} {F : Value → Sem Value} {r r' : V → Hp → VK → Prop} (h : UnR X F r) (i : ∀ x H Q, r' x H Q → r x H Q) : UnR X F r' :=
  fun pins s σ H x v Q I rx q => h pins s σ H x v Q I rx (i x H Q q)
theorem call_mono {X : Cx} {F : Value} {r r' : List V → Hp → VK → Prop} (h : CallR X F r) (i : ∀ xs H Q, r' xs H Q → r xs H Q) : CallR X F r' :=
  fun pins s σ H xs us Q I rs q => h pins s σ H xs us Q I rs (i xs H Q q)
theorem ix_mono {X : Cx} {r r' : R2} (h : IxR X r) (i : ∀ x y H Q, r' x y H Q → r x y H Q) : IxR X r' :=
  fun value slice pins s σ H x y v u Q I rx ry q hs => h value slice pins s σ H x y v u Q I rx ry (i x y H Q q) hs
theorem sl_mono {X : Cx} {r r' : V → Option Int → Option Int → Hp → VK → Prop} (h : SlR X r) (i : ∀ x a b H Q, r' x a b H Q → r x a b H Q) : SlR X r' :=
  fun pins s σ H x v vl vu lo hi sl Q I rx hs pl pu q => h pins s σ H x v vl vu lo hi sl Q I rx hs pl pu (i x lo hi H Q q)
theorem mt_mono {X : Cx} {id : String} {r r' : V → List V → Hp → VK → Prop} (h : MtR X id r) (i : ∀ x xs H Q, r' x xs H Q → r x xs H Q) : MtR X id r' :=
  fun pins s σ H x xs v us Q I rx rs q => h pins s σ H x xs v us Q I rx rs (i x xs H Q q)

/-! ### what lies where -/
/-- the items of a list that is tracked -/
def asL (s : Sto) : D → Option (List D)
  | .lst xs => some xs
  | .ref n => match s[n]? with | some (.lst xs) => some xs | _ => none
  | _ => none
/-- the items of any list -/
def asLL (s : Sto) : D → Option (List D)
  | .sls xs => some xs
  | d => asL s d
section
variable {K : PySem.W.Frag} {mg : Str → Option Value} {m : MM} {s : Sto} {H : Hp} {x : D} {v : V} {xs : List D}
theorem asL_at (hR : R K mg m s H) (r : RV K m (hid m H) x v) (h : asL s x = some xs) : ∃ a vs, v = .ref a ∧ H a = some (.lst vs) ∧ RVs K m (hid m H) xs vs := by
  unfold asL at h
  split at h
  · cases h
    cases r with | lst q qs => exact ⟨_, _, rfl, hid_sub _ _ _ _ q, qs⟩
  · cases r with
    | ref q =>
      split at h
      · rename_i e
        cases h
        obtain ⟨vs, h1, h2⟩ := hR.obj _ _ _ q e
        exact ⟨_, vs, rfl, h1, h2⟩
      · cases h
  · cases h
theorem asLL_at (hR : R K mg m s H) (r : RV K m (hid m H) x v) (h : asLL s x = some xs) : ∃ a vs, v = .ref a ∧ SqL K H a vs ∧ RVs K m (hid m H) xs vs := by
  unfold asLL at h
  split at h
  · cases h
    cases r with | sls q qs => exact ⟨_, _, rfl, sql_mono (hid_sub _ _) q, qs⟩
  · obtain ⟨a, vs, e, h1, h2⟩ := asL_at hR r h
    exact ⟨a, vs, e, .inl (.inl h1), h2⟩
theorem tup_at (r : RV K m (hid m H) (.tup xs) v) : ∃ a vs, v = .ref a ∧ SqT K H a vs ∧ RVs K m (hid m H) xs vs := by
  cases r with | tup q qs => exact ⟨_, _, rfl, sqt_mono (hid_sub _ _) q, qs⟩
theorem RVs.ints : ∀ {ds : List D} {vs : List V} {ns : List Int}, RVs K m (hid m H) ds vs → ds = ns.map D.int → vs = ns.map V.int
  | _, _, [], .nil, _ => rfl
  | _, _, n :: ns, .cons h r, e => by
    rw [List.map_cons] at e
    cases e
    cases h
    rw [List.map_cons, RVs.ints r rfl]
theorem RVs.strs : ∀ {ds : List D} {vs : List V} {ns : List Str}, RVs K m (hid m H) ds vs → ds = ns.map D.str → vs = ns.map V.str
  | _, _, [], .nil, _ => rfl
  | _, _, n :: ns, .cons h r, e => by
    rw [List.map_cons] at e
    cases e
    cases h
    rw [List.map_cons, RVs.strs r rfl]
theorem RVs.bls : ∀ {ds : List D} {vs : List V} {ns : List Bool}, RVs K m (hid m H) ds vs → ds = ns.map D.bl → vs = ns.map V.bl
  | _, _, [], .nil, _ => rfl
  | _, _, n :: ns, .cons h r, e => by
    rw [List.map_cons] at e
    cases e
    cases h
    rw [List.map_cons, RVs.bls r rfl]
theorem RVs.map_int (ns : List Int) {G : Hp} : RVs K m G (ns.map D.int) (ns.map V.int) := by
  induction ns with
  | nil => exact .nil
  | cons n ns ih => exact .cons (.int n) ih
theorem RVs.map_str (ns : List Str) {G : Hp} : RVs K m G (ns.map D.str) (ns.map V.str) := by
  induction ns with
  | nil => exact .nil
  | cons n ns ih => exact .cons (.str n) ih
end
def allM {α β : Type} (f : α → Option β) : List α → Option (List β)
  | [] => some []
  | x :: xs => match f x, allM f xs with | some a, some b => some (a :: b) | _, _ => none
def unI : D → Option Int | .int i => some i | _ => none
def unS : D → Option Str | .str i => some i | _ => none
def unB : D → Option Bool | .bl i => some i | _ => none
theorem allM_int : ∀ {ds : List D} {ns : List Int}, allM unI ds = some ns → ds = ns.map D.int
  | [], _, h => by cases h; rfl
  | d :: ds, ns, h => by
    unfold allM at h
    split at h
    · rename_i a b e1 e2
      cases h
      cases d <;> cases e1
      rw [List.map_cons, allM_int e2]
    · cases h
theorem allM_str : ∀ {ds : List D} {ns : List Str}, allM unS ds = some ns → ds = ns.map D.str
  | [], _, h => by cases h; rfl
  | d :: ds, ns, h => by
    unfold allM at h
    split at h
    · rename_i a b e1 e2
      cases h
      cases d <;> cases e1
      rw [List.map_cons, allM_str e2]
    · cases h
theorem allM_bl : ∀ {ds : List D} {ns : List Bool}, allM unB ds = some ns → ds = ns.map D.bl
  | [], _, h => by cases h; rfl
  | d :: ds, ns, h => by
    unfold allM at h
    split at h
    · rename_i a b e1 e2
      cases h
      cases d <;> cases e1
      rw [List.map_cons, allM_bl e2]
    · cases h
theorem allM_map_int (ns : List Int) : allM unI (ns.map D.int) = some ns := by
  induction ns with
  | nil => rfl
  | cons n ns ih => simp [allM, unI, ih]
theorem allM_map_str (ns : List Str) : allM unS (ns.map D.str) = some ns := by
  induction ns with
  | nil => rfl
  | cons n ns ih => simp [allM, unS, ih]
theorem allM_map_bl (ns : List Bool) : allM unB (ns.map D.bl) = some ns := by
  induction ns with
  | nil => rfl
  | cons n ns ih => simp [allM, unB, ih]

/-! ### arithmetic -/
def dAdd (x y : D) : M D := fun s => match x, y with
  | .int i, .int j => .ok (.int (i + j)) s
  | .str a, .str b => if a.length + b.length ≤ lim then .ok (.str (a ++ b)) s else .bad
  | x, y => match asL s x, asL s y with
    | some a, some b => if a.length + b.length ≤ lim then .ok (.lst (a ++ b)) s else .bad
    | _, _ => .bad
def dSub (x y : D) : M D := fun s => match x, y with
  | .int i, .int j => .ok (.int (i - j)) s
  | _, _ => .bad
def rep (k : Nat) (a : Str) : Str := ⟨(List.replicate k a.cps.toList).flatten.toArray⟩
def mulOk (i j : Int) : Prop := i.natAbs.log2 + j.natAbs.log2 < 1000000
instance (i j : Int) : Decidable (mulOk i j) := inferInstanceAs (Decidable (_ < _))
def dMul (x y : D) : M D := fun s => match x, y with
  | .int i, .int j => if mulOk i j then .ok (.int (i * j)) s else .bad
  | .str a, .int k => if 0 ≤ k ∧ a.length * k.toNat ≤ lim ∧ k ≤ lim then .ok (.str (rep k.toNat a)) s else .bad
  | x, .int k => match asL s x with
    | some a => if 0 ≤ k ∧ a.length * k.toNat ≤ lim ∧ k ≤ lim then .ok (.lst (List.replicate k.toNat a).flatten) s else .bad
    | none => .bad
  | _, _ => .bad
def dDiv (x y : D) : M D := fun s => match x, y with
  | .int i, .int j => if 0 < j ∧ j.natAbs.log2 < 9000 then .ok (.int (i / j)) s else .bad
  | _, _ => .bad
def dMod (x y : D) : M D := fun s => match x, y with
  | .int i, .int j => if 0 < j then .ok (.int (i % j)) s else .bad
  | _, _ => .bad
def dPow (x y : D) : M D := fun s => match x, y with
  | .int i, .int j => if 0 ≤ j ∧ j ≤ 1000000 ∧ i.natAbs < 2 ^ 64 then .ok (.int (i ^ j.toNat)) s else .bad
  | _, _ => .bad
def dNeg (x : D) : M D := fun s => match x with
  | .int i => .ok (.int (-i)) s
  | _ => .bad
section
variable {X : Cx}
theorem oi_add : OpI X (binaryOp .Add) dAdd := by
  refine op_mono (op_add.or (op_add_str.or op_cat)) fun v u H Q ⟨m, x, y, s, hR, hx, hy, hg⟩ => ?_
  unfold dAdd at hg
  split at hg
  · cases hx; cases hy; exact .inl ⟨_, _, rfl, rfl, hg.ok hR (.int _)⟩
  · cases hx; cases hy
    split at hg
    · rename_i h
      exact .inr (.inl ⟨_, _, rfl, rfl, lim_le h, hg.ok hR (.str _)⟩)
    · exact hg.elim
  · split at hg
    · rename_i a b e1 e2
      split at hg
      · rename_i h
        obtain ⟨p, vs, rfl, h1, r1⟩ := asL_at hR hx e1
        obtain ⟨q, us, rfl, h2, r2⟩ := asL_at hR hy e2
        exact .inr (.inr ⟨p, q, vs, us, rfl, rfl, h1, h2, by rw [r1.length, r2.length]; exact lim_le h, fun l hl => Go.newL hR (r1.append r2) hl hg⟩)
      · exact hg.elim
    · exact hg.elim
theorem oi_sub : OpI X (binaryOp .Sub) dSub := by
  refine op_mono op_sub fun v u H Q ⟨m, x, y, s, hR, hx, hy, hg⟩ => ?_
  unfold dSub at hg
  split at hg
  · cases hx; cases hy; exact ⟨_, _, rfl, rfl, hg.ok hR (.int _)⟩
  · exact hg.elim
theorem oi_div : OpI X (binaryOp .FloorDiv) dDiv := by
  refine op_mono op_fdivW fun v u H Q ⟨m, x, y, s, hR, hx, hy, hg⟩ => ?_
  unfold dDiv at hg
  split at hg
  · cases hx; cases hy
    split at hg
    · rename_i h
      exact ⟨_, _, rfl, rfl, h, hg.ok hR (.int _)⟩
    · exact hg.elim
  · exact hg.elim
theorem oi_mod : OpI X (binaryOp .Mod) dMod := by
  refine op_mono op_mod fun v u H Q ⟨m, x, y, s, hR, hx, hy, hg⟩ => ?_
  unfold dMod at hg
  split at hg
  · cases hx; cases hy
    split at hg
    · rename_i h
      exact ⟨_, _, rfl, rfl, h, hg.ok hR (.int _)⟩
    · exact hg.elim
  · exact hg.elim
theorem oi_pow : OpI X (binaryOp .Pow) dPow := by
  refine op_mono op_pow fun v u H Q ⟨m, x, y, s, hR, hx, hy, hg⟩ => ?_
  unfold dPow at hg
  split at hg
  · cases hx; cases hy
    split at hg
    · rename_i h
      exact ⟨_, _, rfl, rfl, h, hg.ok hR (.int _)⟩
    · exact hg.elim
  · exact hg.elim
theorem ui_neg : UnI X (unaryOp .USub) dNeg := by
  refine un_mono un_neg fun v H Q ⟨m, x, s, hR, hx, hg⟩ => ?_
  unfold dNeg at hg
  split at hg
  · cases hx; exact ⟨_, rfl, hg.ok hR (.int _)⟩
  · exact hg.elim
theorem foldl_app (x : Array Nat) : ∀ (n : Nat) (acc : Array Nat), (List.replicate n x).foldl (· ++ ·) acc = acc ++ (List.replicate n x.toList).flatten.toArray
  | 0, acc => by simp
  | n + 1, acc => by
    rw [List.replicate_succ, List.foldl_cons, foldl_app x n (acc ++ x), List.replicate_succ, List.flatten_cons, Array.append_assoc]
    congr 1
    apply Array.ext'
    simp
theorem op_mulS : OpR X (binaryOp .Mult) (fun x y H Q => ∃ (a : Str) (k : Int), x = .str a ∧ y = .int k ∧ 0 ≤ k ∧ a.length * k.toNat ≤ lim ∧ k ≤ lim ∧ Q (.str (rep k.toNat a)) H) := by
  intro pins s σ H x y v u Q I rx ry h
  obtain ⟨a, k, rfl, rfl, h0, hl, hk, q⟩ := h
  obtain ⟨t, rfl⟩ := rx
  obtain ⟨t', rfl⟩ := ry
  have hk2 : k ≤ 1000000 := hk
  have hl2 : a.length * k.toNat ≤ 1000000 := hl
  refine PySem.P.mul_str (by rw [decide_eq_false (by omega), decide_eq_false (by omega)]; rfl) (fun h1 _ => ?_) (fun h1 _ => ?_) ?_
  · intro z
    have hpos : 1 ≤ k.toNat := by omega
    have : a.length ≤ a.length * k.toNat := Nat.le_mul_of_pos_right _ hpos
    have h3 : (2 ^ 63 - 1 : Int) / k ≥ 1000000 := by
      refine Int.le_ediv_of_mul_le (by omega) ?_
      have : (1000000 : Int) * k ≤ 1000000 * 1000000 := by omega
      omega
    omega
  · unfold Builtin.Str.tooLong
    apply decide_eq_false
    have : sizeLine = 16777216 := sizeLine_eq
    omega
  · by_cases h1 : k < 1
    · rw [if_pos h1]
      have e : k = 0 := by omega
      subst e
      exact ⟨by decide, ⟨.str _, H, I.tok _, ⟨_, rfl⟩, q⟩⟩
    · rw [if_neg h1]
      by_cases h2 : (k == 1 || a.length == 0) = true
      · rw [if_pos h2]
        have e : rep k.toNat a = a := by
          rcases Bool.or_eq_true _ _ ▸ h2 with z | z
          · have e : k = 1 := eq_of_beq z
            subst e
            unfold rep
            simp
          · have e : a.cps = #[] := by
              have z2 : a.cps.size = 0 := eq_of_beq z
              exact Array.eq_empty_of_size_eq_zero z2
            unfold rep
            cases a with
            | mk c =>
              simp only at e
              subst e
              simp
        rw [e] at q
        exact ⟨.str a, H, I, ⟨_, rfl⟩, q⟩
      · rw [if_neg h2]
        have e : (⟨(List.replicate k.toNat a.cps).foldl (· ++ ·) #[]⟩ : Str) = rep k.toNat a := by
          unfold rep
          rw [foldl_app]
          simp
        refine ⟨?_, ?_⟩
        · show Str.length _ ≤ _
          rw [e]
          unfold rep Str.length
          simp
          have : sizeLine = 16777216 := sizeLine_eq
          have h5 : a.cps.size * k.toNat ≤ 1000000 := hl2
          rw [Nat.mul_comm]; omega
        · rw [e]; exact ⟨.str _, H, I.tok _, ⟨_, rfl⟩, q⟩
theorem oi_mul : OpI X (binaryOp .Mult) dMul := by
  refine op_mono (op_mulW.or (op_mulS.or op_rep)) fun v u H Q ⟨m, x, y, s, hR, hx, hy, hg⟩ => ?_
  unfold dMul at hg
  split at hg
  · cases hx; cases hy
    split at hg
    · rename_i h
      exact .inl ⟨_, _, rfl, rfl, h, hg.ok hR (.int _)⟩
    · exact hg.elim
  · cases hx; cases hy
    split at hg
    · rename_i h
      exact .inr (.inl ⟨_, _, rfl, rfl, h.1, h.2.1, h.2.2, hg.ok hR (.str _)⟩)
    · exact hg.elim
  · cases hy
    split at hg
    · rename_i a e
      split at hg
      · rename_i h
        obtain ⟨p, vs, rfl, h1, r1⟩ := asL_at hR hx e
        have hk2 : _ ≤ (1000000 : Int) := h.2.2
        refine .inr (.inr ⟨p, _, vs, rfl, rfl, h1, by omega, by omega, by rw [r1.length]; exact lim_le h.2.1, fun l hl => Go.newL hR ?_ hl hg⟩)
        clear hg hk2 h
        generalize Int.toNat _ = n
        induction n with
        | zero => exact .nil
        | succ n ih => rw [List.replicate_succ, List.flatten_cons, List.replicate_succ, List.flatten_cons]; exact r1.append ih
      · exact hg.elim
    · exact hg.elim
  · exact hg.elim
end
end RQ

namespace RQ
open PySem PySem.Spec PyProof.Rows L2

/-! ### data as a whole -/
def toP : Nat → Sto → D → Option PyData
  | 0, _, _ => none
  | n + 1, s, d => match d with
    | .non => some .none
    | .bl b => some (.bool b)
    | .int i => some (.int i)
    | .str x => some (.str x)
    | .tup ds => (allM (toP n s) ds).map .tuple
    | .lst ds => (allM (toP n s) ds).map .list
    | .sls ds => (allM (toP n s) ds).map .list
    | .ref k => match s[k]? with
      | some (.lst ds) => (allM (toP n s) ds).map .list
      | _ => none
    | _ => none
theorem allM_len {α β : Type} {f : α → Option β} : ∀ {xs : List α} {ys : List β}, allM f xs = some ys → ys.length = xs.length
  | [], _, h => by cases h; rfl
  | x :: xs, ys, h => by
    unfold allM at h
    split at h
    · rename_i e; cases h; rw [List.length_cons, List.length_cons, allM_len e]
    · cases h
theorem dp_of {K : PySem.W.Frag} {mg : Str → Option Value} {m : MM} {s : Sto} {H : Hp} (hR : R K mg m s H) : ∀ (n : Nat) (d : D) (v : V) (p : PyData), RV K m (hid m H) d v → toP n s d = some p → Dp K H v p ∧ p.depth ≤ n
  | 0, _, _, _, _, h => by cases h
  | n + 1, d, v, p, r, h => by
    have all : ∀ (ds : List D) (vs : List V) (ps : List PyData), RVs K m (hid m H) ds vs → allM (toP n s) ds = some ps → DpAll K H vs ps ∧ PyData.depthAll ps ≤ n := by
      intro ds
      induction ds with
      | nil => intro vs ps r e; cases r; cases e; exact ⟨.nil, by simp [PyData.depthAll]⟩
      | cons d ds ih =>
        intro vs ps r e
        cases r with
        | cons r1 r2 =>
          unfold allM at e
          split at e
          · rename_i a b e1 e2
            cases e
            obtain ⟨h1, h2⟩ := dp_of hR n d _ _ r1 e1
            obtain ⟨h3, h4⟩ := ih _ _ r2 e2
            exact ⟨.cons h1 h3, by simp only [PyData.depthAll]; omega⟩
          · cases e
    unfold toP at h
    split at h
    · cases h; cases r; exact ⟨.non, by simp [PyData.depth]⟩
    · cases h; cases r; exact ⟨.bl _, by simp [PyData.depth]⟩
    · cases h; cases r; exact ⟨.int _, by simp [PyData.depth]⟩
    · cases h; cases r; exact ⟨.str _, by simp [PyData.depth]⟩
    · rename_i ds
      cases e : allM (toP n s) ds with
      | none => rw [e] at h; cases h
      | some ps =>
        rw [e] at h; cases h
        obtain ⟨a, vs, rfl, h1, h2⟩ := tup_at r
        obtain ⟨h3, h4⟩ := all _ _ _ h2 e
        exact ⟨.tup h1 h3, by simp only [PyData.depth]; omega⟩
    · rename_i ds
      cases e : allM (toP n s) ds with
      | none => rw [e] at h; cases h
      | some ps =>
        rw [e] at h; cases h
        obtain ⟨a, vs, rfl, h1, h2⟩ := asLL_at hR r (show asLL s (.lst ds) = some ds from rfl)
        obtain ⟨h3, h4⟩ := all _ _ _ h2 e
        exact ⟨.lst h1 h3, by simp only [PyData.depth]; omega⟩
    · rename_i ds
      cases e : allM (toP n s) ds with
      | none => rw [e] at h; cases h
      | some ps =>
        rw [e] at h; cases h
        obtain ⟨a, vs, rfl, h1, h2⟩ := asLL_at hR r (show asLL s (.sls ds) = some ds from rfl)
        obtain ⟨h3, h4⟩ := all _ _ _ h2 e
        exact ⟨.lst h1 h3, by simp only [PyData.depth]; omega⟩
    · rename_i k
      split at h
      · rename_i ds hk
        cases e : allM (toP n s) ds with
        | none => rw [e] at h; cases h
        | some ps =>
          rw [e] at h; cases h
          obtain ⟨a, vs, rfl, h1, h2⟩ := asLL_at hR r (show asLL s (.ref k) = some ds by unfold asLL asL; simp only [hk])
          obtain ⟨h3, h4⟩ := all _ _ _ h2 e
          exact ⟨.lst h1 h3, by simp only [PyData.depth]; omega⟩
      · cases h
    · cases h

/-! ### comparisons -/
def dat (s : Sto) (d : D) : Option PyData := toP 12 s d
/-- two scalars of one kind -/
def sEq : D → D → Option Bool
  | .int i, .int j => some (i == j)
  | .str a, .str b => some (a == b)
  | .bl a, .bl b => some (a == b)
  | _, _ => none
def dEqB (s : Sto) (x y : D) : Option Bool := match sEq x y with
  | some b => some b
  | none => match dat s x, dat s y with
    | some p, some q => if p.canLay0 = true ∧ q.canLay0 = true then some (PyData.eqv p q) else none
    | _, _ => none
def dEq (x y : D) : M D := fun s => match dEqB s x y with | some b => .ok (.bl b) s | none => .bad
def dNe (x y : D) : M D := fun s => match dEqB s x y with | some b => .ok (.bl (!b)) s | none => .bad
def cmpI (f : Int → Int → Bool) (x y : D) : M D := fun s => match x, y with
  | .int i, .int j => .ok (.bl (f i j)) s
  | _, _ => .bad
abbrev dLt := cmpI fun i j => decide (i < j)
abbrev dLe := cmpI fun i j => decide (i ≤ j)
abbrev dGt := cmpI fun i j => decide (j < i)
abbrev dGe := cmpI fun i j => decide (j ≤ i)
section
variable {X : Cx}
theorem eqs {K : PySem.W.Frag} {mg : Str → Option Value} {m : MM} {s : Sto} {H : Hp} {x y : D} {v u : V} {b : Bool} (hR : R K mg m s H) (hx : RV K m (hid m H) x v) (hy : RV K m (hid m H) y u) (h : dEqB s x y = some b) :
    (scal v u = true ∧ decide (v = u) = b) ∨ ∃ d e, Dp K H v d ∧ Dp K H u e ∧ SeqAt.shaped d = true ∧ SeqAt.shaped e = true ∧ PyData.eqv d e = b := by
  unfold dEqB at h
  split at h
  · rename_i b' e
    cases h
    unfold sEq at e
    split at e
    · cases e; cases hx; cases hy; exact .inl ⟨rfl, dec_int⟩
    · cases e; cases hx; cases hy; exact .inl ⟨rfl, dec_str⟩
    · cases e; cases hx; cases hy; exact .inl ⟨rfl, dec_bl⟩
    · cases e
  · split at h
    · rename_i p q e1 e2
      split at h
      · rename_i hc
        cases h
        obtain ⟨h1, h2⟩ := dp_of hR 12 x v p hx e1
        obtain ⟨h3, h4⟩ := dp_of hR 12 y u q hy e2
        refine .inr ⟨p, q, h1, h3, ?_, ?_, rfl⟩
        · unfold SeqAt.shaped; rw [hc.1, Bool.true_and]; exact decide_eq_true (by omega)
        · unfold SeqAt.shaped; rw [hc.2, Bool.true_and]; exact decide_eq_true (by omega)
      · cases h
    · cases h
theorem oi_eq (hu : X.A.units + 64 < cLine) : OpI X (compareOp .Eq) dEq := by
  refine op_mono (op_eq.or (op_eqD hu)) fun v u H Q ⟨m, x, y, s, hR, hx, hy, hg⟩ => ?_
  unfold dEq at hg
  split at hg
  · rename_i b e
    rcases eqs hR hx hy e with ⟨h1, rfl⟩ | ⟨d, e', h1, h2, h3, h4, rfl⟩
    · exact .inl ⟨h1, hg.ok hR (.bl _)⟩
    · exact .inr ⟨d, e', h1, h2, h3, h4, hg.ok hR (.bl _)⟩
  · exact hg.elim
theorem oi_ne (hu : X.A.units + 64 < cLine) : OpI X (compareOp .NotEq) dNe := by
  refine op_mono (op_ne.or (op_neD hu)) fun v u H Q ⟨m, x, y, s, hR, hx, hy, hg⟩ => ?_
  unfold dNe at hg
  split at hg
  · rename_i b e
    rcases eqs hR hx hy e with ⟨h1, rfl⟩ | ⟨d, e', h1, h2, h3, h4, rfl⟩
    · exact .inl ⟨h1, hg.ok hR (.bl _)⟩
    · exact .inr ⟨d, e', h1, h2, h3, h4, hg.ok hR (.bl _)⟩
  · exact hg.elim
theorem oi_lt : OpI X (compareOp .Lt) dLt := by
  refine op_mono op_lt fun v u H Q ⟨m, x, y, s, hR, hx, hy, hg⟩ => ?_
  unfold dLt cmpI at hg
  split at hg
  · cases hx; cases hy; exact ⟨_, _, rfl, rfl, hg.ok hR (.bl _)⟩
  · exact hg.elim
theorem oi_le : OpI X (compareOp .LtE) dLe := by
  refine op_mono op_le fun v u H Q ⟨m, x, y, s, hR, hx, hy, hg⟩ => ?_
  unfold dLe cmpI at hg
  split at hg
  · cases hx; cases hy; exact ⟨_, _, rfl, rfl, hg.ok hR (.bl _)⟩
  · exact hg.elim
theorem oi_gt : OpI X (compareOp .Gt) dGt := by
  refine op_mono op_gt fun v u H Q ⟨m, x, y, s, hR, hx, hy, hg⟩ => ?_
  unfold dGt cmpI at hg
  split at hg
  · cases hx; cases hy; exact ⟨_, _, rfl, rfl, hg.ok hR (.bl _)⟩
  · exact hg.elim
theorem oi_ge : OpI X (compareOp .GtE) dGe := by
  refine op_mono op_ge fun v u H Q ⟨m, x, y, s, hR, hx, hy, hg⟩ => ?_
  unfold dGe cmpI at hg
  split at hg
  · cases hx; cases hy; exact ⟨_, _, rfl, rfl, hg.ok hR (.bl _)⟩
  · exact hg.elim
/-- in, not in: a sign in a text; a scalar in a list or tuple of scalars -/
def isIn (s : Sto) (x y : D) : Option Bool := match y with
  | .str z => match x with
    | .str a => match a.cps.toList with | [c] => some (decide (c ∈ z.cps.toList)) | _ => none
    | _ => none
  | .tup ys => match x, allM unS ys with
    | .str a, some zs => some (decide (a ∈ zs))
    | _, _ => none
  | y => match asLL s y with
    | some ys => match x, allM unS ys, allM unI ys with
      | .str a, some zs, _ => some (decide (a ∈ zs))
      | .int i, _, some zs => some (decide (i ∈ zs))
      | _, _, _ => none
    | none => none
def dIn (x y : D) : M D := fun s => match isIn s x y with | some b => .ok (.bl b) s | none => .bad
def dNotIn (x y : D) : M D := fun s => match isIn s x y with | some b => .ok (.bl (!b)) s | none => .bad
theorem inV_str (a : Str) : ∀ zs : List Str, inV (.str a) (zs.map V.str) = decide (a ∈ zs)
  | [] => rfl
  | z :: zs => by
    have ih := inV_str a zs
    unfold inV at ih ⊢
    rw [List.map_cons, List.any_cons, ih]
    have : eqV (.str z) (.str a) = decide (a = z) := by
      show (z == a) = _
      by_cases e : a = z
      · subst e; simp
      · rw [decide_eq_false e]; exact beq_eq_false_iff_ne.mpr (Ne.symm e)
    rw [this]
    simp [Bool.decide_or]
theorem inV_int (a : Int) : ∀ zs : List Int, inV (.int a) (zs.map V.int) = decide (a ∈ zs)
  | [] => rfl
  | z :: zs => by
    have ih := inV_int a zs
    unfold inV at ih ⊢
    rw [List.map_cons, List.any_cons, ih]
    have : eqV (.int z) (.int a) = decide (a = z) := by
      show (z == a) = _
      by_cases e : a = z
      · subst e; simp
      · rw [decide_eq_false e]; exact beq_eq_false_iff_ne.mpr (Ne.symm e)
    rw [this]
    simp [Bool.decide_or]
theorem flat_strs (zs : List Str) : (zs.map V.str).all flatV = true := by
  rw [List.all_map]; exact List.all_eq_true.mpr fun _ _ => rfl
theorem flat_ints (zs : List Int) : (zs.map V.int).all flatV = true := by
  rw [List.all_map]; exact List.all_eq_true.mpr fun _ _ => rfl
theorem ins {K : PySem.W.Frag} {mg : Str → Option Value} {m : MM} {s : Sto} {H : Hp} {x y : D} {v u : V} {b : Bool} (hR : R K mg m s H) (hx : RV K m (hid m H) x v) (hy : RV K m (hid m H) y u) (h : isIn s x y = some b) :
    (∃ (c : Nat) (z : Str), v = .str ⟨#[c]⟩ ∧ u = .str z ∧ b = decide (c ∈ z.cps.toList)) ∨ ∃ p xs, u = .ref p ∧ (SqL K H p xs ∨ SqT K H p xs) ∧ flatV v = true ∧ xs.all flatV = true ∧ b = inV v xs := by
  unfold isIn at h
  split at h
  · split at h
    · split at h
      · rename_i a _ c e
        cases h; cases hx; cases hy
        have ea : a = ⟨#[c]⟩ := by
          cases a with
          | mk q =>
            have : q = #[c] := by apply Array.ext'; simpa using e
            rw [this]
        exact .inl ⟨c, _, by rw [ea], rfl, rfl⟩
      · cases h
    · cases h
  · split at h
    · rename_i ys _ _ a zs e
      cases h; cases hx
      obtain ⟨p, vs, rfl, h1, h2⟩ := tup_at hy
      have e2 := h2.strs (allM_str e)
      subst e2
      exact .inr ⟨p, _, rfl, .inr h1, rfl, flat_strs _, (inV_str _ _).symm⟩
    · cases h
  · split at h
    · rename_i ys e
      obtain ⟨p, vs, rfl, h1, h2⟩ := asLL_at hR hy e
      split at h
      · rename_i zs e'
        cases h; cases hx
        have e2 := h2.strs (allM_str e')
        subst e2
        exact .inr ⟨p, _, rfl, .inl h1, rfl, flat_strs _, (inV_str _ _).symm⟩
      · rename_i zs _ e'
        cases h; cases hx
        have e2 := h2.ints (allM_int e')
        subst e2
        exact .inr ⟨p, _, rfl, .inl h1, rfl, flat_ints _, (inV_int _ _).symm⟩
      · cases h
    · cases h
theorem oi_in : OpI X (compareOp .In) dIn := by
  refine op_mono (op_in_sign.or op_in_seq) fun v u H Q ⟨m, x, y, s, hR, hx, hy, hg⟩ => ?_
  unfold dIn at hg
  split at hg
  · rename_i b e
    rcases ins hR hx hy e with ⟨c, z, rfl, rfl, rfl⟩ | ⟨p, xs, rfl, h1, h2, h3, rfl⟩
    · exact .inl ⟨c, z, rfl, rfl, hg.ok hR (.bl _)⟩
    · exact .inr ⟨p, xs, rfl, h1, h2, h3, hg.ok hR (.bl _)⟩
  · exact hg.elim
theorem oi_notIn : OpI X (compareOp .NotIn) dNotIn := by
  refine op_mono (op_notIn_sign.or op_notIn_seq) fun v u H Q ⟨m, x, y, s, hR, hx, hy, hg⟩ => ?_
  unfold dNotIn at hg
  split at hg
  · rename_i b e
    rcases ins hR hx hy e with ⟨c, z, rfl, rfl, rfl⟩ | ⟨p, xs, rfl, h1, h2, h3, rfl⟩
    · exact .inl ⟨c, z, rfl, rfl, hg.ok hR (.bl _)⟩
    · exact .inr ⟨p, xs, rfl, h1, h2, h3, hg.ok hR (.bl _)⟩
  · exact hg.elim
def isNn : D → Bool | .non => true | _ => false
def dIsN (x y : D) : M D := fun s => match y with | .non => .ok (.bl (isNn x)) s | _ => .bad
def dNotN (x y : D) : M D := fun s => match y with | .non => .ok (.bl (!isNn x)) s | _ => .bad
theorem isNn_iff {K : PySem.W.Frag} {m : MM} {G : Hp} {x : D} {v : V} (h : RV K m G x v) : decide (v = V.non) = isNn x := by
  cases h <;> rfl
theorem oi_is : OpI X (compareOp .Is) dIsN := by
  refine op_mono op_isN fun v u H Q ⟨m, x, y, s, hR, hx, hy, hg⟩ => ?_
  unfold dIsN at hg
  split at hg
  · cases hy; exact ⟨rfl, by rw [isNn_iff hx]; exact hg.ok hR (.bl _)⟩
  · exact hg.elim
theorem oi_isNot : OpI X (compareOp .IsNot) dNotN := by
  refine op_mono op_notN fun v u H Q ⟨m, x, y, s, hR, hx, hy, hg⟩ => ?_
  unfold dNotN at hg
  split at hg
  · cases hy; exact ⟨rfl, by rw [isNn_iff hx]; exact hg.ok hR (.bl _)⟩
  · exact hg.elim

/-! ### subscripts, slices -/
def cutD (xs : List D) (lo hi : Option Int) : List D := (xs.drop (HT.sIx xs.length 0 lo)).take (HT.sIx xs.length xs.length hi - HT.sIx xs.length 0 lo)
theorem RVs.cut {K : PySem.W.Frag} {m : MM} {G : Hp} {ds : List D} {vs : List V} (h : RVs K m G ds vs) (lo hi : Option Int) : RVs K m G (cutD ds lo hi) (cutV vs lo hi) := by
  unfold cutD cutV
  rw [h.length]
  exact (h.drop _).take _
def dIx (x y : D) : M D := fun s => match y with
  | .int i => match x with
    | .str z => if z.length ≤ lim then (match atI z.cps.toList i with | some c => .ok (.str ⟨#[c]⟩) s | none => .bad) else .bad
    | .tup xs => (match atI xs i with | some d => .ok d s | none => .bad)
    | x => match asLL s x with
      | some xs => (match atI xs i with | some d => .ok d s | none => .bad)
      | none => .bad
  | _ => .bad
theorem atI_of {K : PySem.W.Frag} {m : MM} {G : Hp} {ds : List D} {vs : List V} {i : Int} {d : D} (h : RVs K m G ds vs) (e : atI ds i = some d) : ∃ v, atI vs i = some v ∧ RV K m G d v := by
  unfold atI at e ⊢
  rw [h.length]
  cases q : ixN ds.length i with
  | none => rw [q] at e; cases e
  | some j => rw [q] at e; exact h.get e
theorem xi_ix : IxI X dIx := by
  refine ix_mono ix_seq fun v u H Q ⟨m, x, y, s, hR, hx, hy, hg⟩ => ?_
  unfold dIx at hg
  split at hg
  · cases hy
    split at hg
    · cases hx
      split at hg
      · rename_i hl
        split at hg
        · rename_i c e
          exact .inr (.inr ⟨_, _, c, rfl, rfl, lim_le hl, e, hg.ok hR (.str _)⟩)
        · exact hg.elim
      · exact hg.elim
    · split at hg
      · rename_i d e
        obtain ⟨a, vs, rfl, h1, h2⟩ := tup_at hx
        obtain ⟨w, h3, h4⟩ := atI_of h2 e
        exact .inr (.inl ⟨a, vs, _, w, rfl, rfl, h1, h3, hg.ok hR h4⟩)
      · exact hg.elim
    · split at hg
      · rename_i xs el
        split at hg
        · rename_i d e
          obtain ⟨a, vs, rfl, h1, h2⟩ := asLL_at hR hx el
          obtain ⟨w, h3, h4⟩ := atI_of h2 e
          exact .inl ⟨a, vs, _, w, rfl, rfl, h1, h3, hg.ok hR h4⟩
        · exact hg.elim
      · exact hg.elim
  · exact hg.elim
def dSl (x : D) (lo hi : Option Int) : M D := fun s => match x with
  | .str z => if z.length ≤ lim then .ok (.str (cutS z lo hi)) s else .bad
  | x => match asLL s x with
    | some xs => .ok (.lst (cutD xs lo hi)) s
    | none => .bad
theorem si_sl : SlI X dSl := by
  refine sl_mono (sl_str.or sl_list) fun v lo hi H Q ⟨m, x, s, hR, hx, hg⟩ => ?_
  unfold dSl at hg
  split at hg
  · cases hx
    split at hg
    · rename_i hl
      exact .inl ⟨_, rfl, lim_le hl, hg.ok hR (.str _)⟩
    · exact hg.elim
  · split at hg
    · rename_i xs e
      obtain ⟨a, vs, rfl, h1, h2⟩ := asLL_at hR hx e
      exact .inr ⟨a, vs, rfl, h1, fun p hp => Go.newL hR (h2.cut lo hi) hp hg⟩
    · exact hg.elim
end
end RQ

namespace RQ
open PySem PySem.Spec PyProof.Rows L2
section
variable {X : Cx}
/-! ### built-in calls -/
def cLen (xs : List D) : M D := fun s => match xs with
  | [.str z] => if z.length ≤ lim then .ok (.int z.length) s else .bad
  | [.tup ys] => .ok (.int ys.length) s
  | [x] => (match asLL s x with | some ys => .ok (.int ys.length) s | none => .bad)
  | _ => .bad
theorem rv1 {K : PySem.W.Frag} {m : MM} {G : Hp} {x : D} {vs : List V} (h : RVs K m G [x] vs) : ∃ v, vs = [v] ∧ RV K m G x v := by
  cases h with | cons a b => cases b; exact ⟨_, rfl, a⟩
theorem rv2 {K : PySem.W.Frag} {m : MM} {G : Hp} {x y : D} {vs : List V} (h : RVs K m G [x, y] vs) : ∃ v u, vs = [v, u] ∧ RV K m G x v ∧ RV K m G y u := by
  cases h with | cons a b => obtain ⟨u, rfl, q⟩ := rv1 b; exact ⟨_, u, rfl, a, q⟩
theorem ci_len : CallI X (.builtin "len") cLen := by
  refine call_mono (call_len_str.or call_len_seq) fun vs H Q ⟨m, xs, s, hR, hx, hg⟩ => ?_
  unfold cLen at hg
  split at hg
  · split at hg
    · rename_i hl
      obtain ⟨v, rfl, q⟩ := rv1 hx
      cases q
      exact .inl ⟨_, rfl, lim_le hl, hg.ok hR (.int _)⟩
    · exact hg.elim
  · obtain ⟨v, rfl, q⟩ := rv1 hx
    obtain ⟨a, us, rfl, h1, h2⟩ := tup_at q
    exact .inr ⟨a, us, rfl, .inr h1, by rw [h2.length]; exact hg.ok hR (.int _)⟩
  · split at hg
    · rename_i e
      obtain ⟨v, rfl, q⟩ := rv1 hx
      obtain ⟨a, us, rfl, h1, h2⟩ := asLL_at hR q e
      exact .inr ⟨a, us, rfl, .inl h1, by rw [h2.length]; exact hg.ok hR (.int _)⟩
    · exact hg.elim
  · exact hg.elim
def cAbs (xs : List D) : M D := fun s => match xs with | [.int i] => .ok (.int (if i < 0 then -i else i)) s | _ => .bad
theorem ci_abs : CallI X (.builtin "abs") cAbs := by
  refine call_mono call_abs fun vs H Q ⟨m, xs, s, hR, hx, hg⟩ => ?_
  unfold cAbs at hg
  split at hg
  · obtain ⟨v, rfl, q⟩ := rv1 hx
    cases q
    exact ⟨_, rfl, hg.ok hR (.int _)⟩
  · exact hg.elim
def cMax (xs : List D) : M D := fun s => match xs with | [.int i, .int j] => .ok (.int (if j > i then j else i)) s | _ => .bad
def cMin (xs : List D) : M D := fun s => match xs with | [.int i, .int j] => .ok (.int (if j < i then j else i)) s | _ => .bad
theorem ci_max (hc : X.calm = true) : CallI X (.builtin "max") cMax := by
  refine call_mono (call_max2 hc) fun vs H Q ⟨m, xs, s, hR, hx, hg⟩ => ?_
  unfold cMax at hg
  split at hg
  · obtain ⟨v, u, rfl, q, q'⟩ := rv2 hx
    cases q; cases q'
    exact ⟨_, _, rfl, hg.ok hR (.int _)⟩
  · exact hg.elim
theorem ci_min (hc : X.calm = true) : CallI X (.builtin "min") cMin := by
  refine call_mono (call_min2 hc) fun vs H Q ⟨m, xs, s, hR, hx, hg⟩ => ?_
  unfold cMin at hg
  split at hg
  · obtain ⟨v, u, rfl, q, q'⟩ := rv2 hx
    cases q; cases q'
    exact ⟨_, _, rfl, hg.ok hR (.int _)⟩
  · exact hg.elim
def cAll (xs : List D) : M D := fun s => match xs with
  | [x] => (match asLL s x with | some ys => (match allM unB ys with | some bs => .ok (.bl (bs.all id)) s | none => .bad) | none => .bad)
  | _ => .bad
def cAny (xs : List D) : M D := fun s => match xs with
  | [x] => (match asLL s x with | some ys => (match allM unB ys with | some bs => .ok (.bl (bs.any id)) s | none => .bad) | none => .bad)
  | _ => .bad
def cSum (xs : List D) : M D := fun s => match xs with
  | [x] => (match asLL s x with | some ys => (match allM unI ys with | some bs => .ok (.int bs.sum) s | none => .bad) | none => .bad)
  | _ => .bad
theorem ci_all (hc : X.calm = true) : CallI X (.builtin "all") cAll := by
  refine call_mono (cr_all hc) fun vs H Q ⟨m, xs, s, hR, hx, hg⟩ => ?_
  unfold cAll at hg
  split at hg
  · split at hg
    · rename_i e
      split at hg
      · rename_i bs e2
        obtain ⟨v, rfl, q⟩ := rv1 hx
        obtain ⟨a, us, rfl, h1, h2⟩ := asLL_at hR q e
        have e3 := h2.bls (allM_bl e2)
        subst e3
        exact ⟨a, bs, rfl, h1, hg.ok hR (.bl _)⟩
      · exact hg.elim
    · exact hg.elim
  · exact hg.elim
theorem ci_any (hc : X.calm = true) : CallI X (.builtin "any") cAny := by
  refine call_mono (cr_any hc) fun vs H Q ⟨m, xs, s, hR, hx, hg⟩ => ?_
  unfold cAny at hg
  split at hg
  · split at hg
    · rename_i e
      split at hg
      · rename_i bs e2
        obtain ⟨v, rfl, q⟩ := rv1 hx
        obtain ⟨a, us, rfl, h1, h2⟩ := asLL_at hR q e
        have e3 := h2.bls (allM_bl e2)
        subst e3
        exact ⟨a, bs, rfl, h1, hg.ok hR (.bl _)⟩
      · exact hg.elim
    · exact hg.elim
  · exact hg.elim
theorem ci_sum (hc : X.calm = true) : CallI X (.builtin "sum") cSum := by
  refine call_mono (cr_sum hc) fun vs H Q ⟨m, xs, s, hR, hx, hg⟩ => ?_
  unfold cSum at hg
  split at hg
  · split at hg
    · rename_i e
      split at hg
      · rename_i bs e2
        obtain ⟨v, rfl, q⟩ := rv1 hx
        obtain ⟨a, us, rfl, h1, h2⟩ := asLL_at hR q e
        have e3 := h2.ints (allM_int e2)
        subst e3
        exact ⟨a, bs, rfl, h1, hg.ok hR (.int _)⟩
      · exact hg.elim
    · exact hg.elim
  · exact hg.elim
/-- list(xs): a new list, one that never changes, or one of the store -/
def cList (k : List D → M D) (xs : List D) : M D := fun s => match xs with
  | [.tup ys] => k ys s
  | [x] => (match asLL s x with | some ys => k ys s | none => .bad)
  | _ => .bad
theorem ci_listF : CallI X (.type "list") (cList kF) := by
  refine call_mono call_list_of fun vs H Q ⟨m, xs, s, hR, hx, hg⟩ => ?_
  unfold cList at hg
  split at hg
  · obtain ⟨v, rfl, q⟩ := rv1 hx
    obtain ⟨a, us, rfl, h1, h2⟩ := tup_at q
    exact ⟨a, us, rfl, .inr h1, fun l hl => Go.newL hR h2 hl hg⟩
  · split at hg
    · rename_i e
      obtain ⟨v, rfl, q⟩ := rv1 hx
      obtain ⟨a, us, rfl, h1, h2⟩ := asLL_at hR q e
      exact ⟨a, us, rfl, .inl h1, fun l hl => Go.newL hR h2 hl hg⟩
    · exact hg.elim
  · exact hg.elim
theorem ci_listS : CallI X (.type "list") (cList kS) := by
  refine call_mono call_list_of fun vs H Q ⟨m, xs, s, hR, hx, hg⟩ => ?_
  unfold cList at hg
  split at hg
  · obtain ⟨v, rfl, q⟩ := rv1 hx
    obtain ⟨a, us, rfl, h1, h2⟩ := tup_at q
    exact ⟨a, us, rfl, .inr h1, fun l hl => Go.newLS hR h2 hl hg⟩
  · split at hg
    · rename_i e
      obtain ⟨v, rfl, q⟩ := rv1 hx
      obtain ⟨a, us, rfl, h1, h2⟩ := asLL_at hR q e
      exact ⟨a, us, rfl, .inl h1, fun l hl => Go.newLS hR h2 hl hg⟩
    · exact hg.elim
  · exact hg.elim
def cTuple (xs : List D) : M D := fun s => match xs with
  | [.tup ys] => .ok (.tup ys) s
  | [x] => (match asLL s x with | some ys => .ok (.tup ys) s | none => .bad)
  | _ => .bad
theorem ci_tuple : CallI X (.type "tuple") cTuple := by
  refine call_mono call_tuple_of fun vs H Q ⟨m, xs, s, hR, hx, hg⟩ => ?_
  unfold cTuple at hg
  split at hg
  · obtain ⟨v, rfl, q⟩ := rv1 hx
    obtain ⟨a, us, rfl, h1, h2⟩ := tup_at q
    exact ⟨a, us, rfl, .inr ⟨h1, hg.ok hR q⟩⟩
  · split at hg
    · rename_i e
      obtain ⟨v, rfl, q⟩ := rv1 hx
      obtain ⟨a, us, rfl, h1, h2⟩ := asLL_at hR q e
      exact ⟨a, us, rfl, .inl ⟨h1, fun l hl => Go.newT hR h2 hl hg⟩⟩
    · exact hg.elim
  · exact hg.elim
def cStr (xs : List D) : M D := fun s => match xs with
  | [.int i] => if i.natAbs.log2 < 1920 then .ok (.str (Str.ofString (toString i))) s else .bad
  | _ => .bad
theorem ci_str : CallI X (.type "str") cStr := by
  refine call_mono call_str_int fun vs H Q ⟨m, xs, s, hR, hx, hg⟩ => ?_
  unfold cStr at hg
  split at hg
  · split at hg
    · rename_i hl
      obtain ⟨v, rfl, q⟩ := rv1 hx
      cases q
      exact ⟨_, rfl, hl, hg.ok hR (.str _)⟩
    · exact hg.elim
  · exact hg.elim
/-! ### isinstance -/
def tyN (s : Sto) : D → Option String
  | .non => some "NoneType"
  | .bl _ => some "bool"
  | .int _ => some "int"
  | .str _ => some "str"
  | .tup _ => some "tuple"
  | .lst _ => some "list"
  | .sls _ => some "list"
  | .dic _ => some "dict"
  | .ref n => match s[n]? with | some (.lst _) => some "list" | some (.dic _) => some "dict" | _ => none
  | _ => none
def cIsi (xs : List D) : M D := fun s => match xs with
  | [x, .ty c] => (match tyN s x with | some t => (match kitB t c with | some b => .ok (.bl b) s | none => .bad) | none => .bad)
  | _ => .bad
theorem tyx_sqt {K : PySem.W.Frag} {H : Hp} {a : Addr} {vs : List V} (h : SqT K H a vs) : TyX K H (.ref a) (.type "tuple") := by
  rcases h with (h | ⟨o, h⟩) | ⟨o, its, n, h, hc, _⟩
  · exact .base (.tup h)
  · exact .fTuple h
  · exact .kTuple h hc
theorem tyx_sql {K : PySem.W.Frag} {H : Hp} {a : Addr} {vs : List V} (h : SqL K H a vs) : TyX K H (.ref a) (.type "list") := by
  rcases h with (h | ⟨o, h⟩) | ⟨o, its, n, h, hc, _⟩
  · exact .base (.lst h)
  · exact .base (.frz h)
  · exact .kList h hc
theorem tyN_ok {K : PySem.W.Frag} {mg : Str → Option Value} {m : MM} {s : Sto} {H : Hp} {x : D} {v : V} {t : String} (hR : R K mg m s H) (hx : RV K m (hid m H) x v) (h : tyN s x = some t) : TyX K H v (.type t) := by
  unfold tyN at h
  split at h
  · cases h; cases hx; exact .base .non
  · cases h; cases hx; exact .base (.bl _)
  · cases h; cases hx; exact .base (.int _)
  · cases h; cases hx; exact .base (.str _)
  · cases h; obtain ⟨a, vs, rfl, h1, _⟩ := tup_at hx; exact tyx_sqt h1
  · rename_i ds
    cases h; obtain ⟨a, vs, rfl, h1, _⟩ := asLL_at hR hx (show asLL s (.lst ds) = some ds from rfl); exact tyx_sql h1
  · rename_i ds
    cases h; obtain ⟨a, vs, rfl, h1, _⟩ := asLL_at hR hx (show asLL s (.sls ds) = some ds from rfl); exact tyx_sql h1
  · cases h
    cases hx with
    | dic q _ _ =>
      rcases rd_mono (hid_sub _ _) q with q | ⟨o, q⟩
      · exact .base (.dK q)
      · exact .fDict q
  · cases hx with
    | ref q =>
      split at h
      · rename_i e
        cases h
        obtain ⟨vs, h1, _⟩ := hR.obj _ _ _ q e
        exact .base (.lst h1)
      · rename_i e
        cases h
        obtain ⟨vs, h1, _⟩ := hR.obj _ _ _ q e
        exact .base (.dK h1)
      · cases h
  · cases h
theorem ci_isi : CallI X (.builtin "isinstance") cIsi := by
  refine call_mono call_isi fun vs H Q ⟨m, xs, s, hR, hx, hg⟩ => ?_
  unfold cIsi at hg
  split at hg
  · split at hg
    · rename_i t e
      split at hg
      · rename_i b e2
        obtain ⟨v, u, rfl, q, q'⟩ := rv2 hx
        cases q'
        exact ⟨v, _, .type t, _, b, rfl, .ty _, tyN_ok hR q e, kit_ty e2, hg.ok hR (.bl _)⟩
      · exact hg.elim
    · exact hg.elim
  · exact hg.elim
/-! ### repr -/
/-- what a dict of scalars is -/
def toSc : D → Option PyData
  | .non => some .none
  | .bl b => some (.bool b)
  | .int i => some (.int i)
  | .str x => some (.str x)
  | _ => none
def keyP : Key → PyData
  | .inl i => .int i
  | .inr x => .str x
def rdat (s : Sto) : D → Option PyData
  | .dic kvs => (allM toSc (kvs.map (·.2))).map fun ps => .dict ((kvs.map fun kv => keyP kv.1).zip ps)
  | d => dat s d
def cRepr (xs : List D) : M D := fun s => match xs with
  | [x] => (match rdat s x with
    | some p => if p.showable = true ∧ p.shown.length ≤ lim then .ok (.str p.shown) s else .bad
    | none => .bad)
  | _ => .bad
theorem reads_sc {h : Heap} {K : PySem.W.Frag} {m : MM} {G : Hp} : ∀ {ds : List D} {vs : List V} {us : List Value} {ps : List PyData}, RVs K m G ds vs → Vals vs us → allM toSc ds = some ps → ReadsAll h us ps [] ∧ ps.length = us.length
  | [], _, _, _, .nil, .nil, e => by cases e; exact ⟨.nil, rfl⟩
  | d :: ds, _, _, _, .cons r rs, .cons u us, e => by
    unfold allM at e
    split at e
    · rename_i a b e1 e2
      cases e
      obtain ⟨ih, il⟩ := reads_sc (h := h) rs us e2
      refine ⟨?_, by rw [List.length_cons, List.length_cons, il]⟩
      unfold toSc at e1
      split at e1
      · cases e1; cases r; cases u; exact ReadsAll.cons Reads.none ih
      · cases e1; cases r; cases u; exact ReadsAll.cons (Reads.bool _) ih
      · cases e1; cases r; obtain ⟨t, rfl⟩ := u; exact ReadsAll.cons (Reads.int _ t) ih
      · cases e1; cases r; obtain ⟨t, rfl⟩ := u; exact ReadsAll.cons (Reads.str _ t) ih
      · cases e1
    · cases e
end
end RQ

namespace RQ
open PySem PySem.Spec PyProof.Rows L2
section
variable {X : Cx}
theorem dict_pairs {P : Program} {w : World} {h : Heap} : ∀ {es : List DictEntry} {vs : List (Key × Value)} {kws : List (Key × V)}, Pairs (mixKind P w) es vs → KV kws vs →
    ReadsAll h (es.map (·.key)) (kws.map fun kv => keyP kv.1) [] ∧ Vals (kws.map (·.2)) (es.map (·.val))
  | _, _, _, .nil, .nil => ⟨.nil, .nil⟩
  | _, _, _, .cons hk hv r, .cons ⟨q1, q2⟩ qs => by
    obtain ⟨h1, h2⟩ := dict_pairs (h := h) r qs
    refine ⟨?_, .cons (by show L2.RelV _ (DictEntry.val _); rw [hv]; exact q2) h2⟩
    rcases keyIs_shape hk with ⟨i, t, e1, e2⟩ | ⟨x, t, e1, e2⟩
    · rw [List.map_cons, List.map_cons, e2, q1, e1]; exact ReadsAll.cons (Reads.int i t) h1
    · rw [List.map_cons, List.map_cons, e2, q1, e1]; exact ReadsAll.cons (Reads.str x t) h1
theorem depth_sc : ∀ {ds : List D} {ps : List PyData}, allM toSc ds = some ps → ∀ p ∈ ps, p.depth = 0
  | [], _, e, p, hp => by cases e; cases hp
  | d :: ds, ps, e, p, hp => by
    unfold allM at e
    split at e
    · rename_i a b e1 e2
      cases e
      rcases List.mem_cons.mp hp with rfl | hp
      · unfold toSc at e1
        split at e1 <;> cases e1 <;> simp [PyData.depth]
      · exact depth_sc e2 p hp
    · cases e
theorem depthKv_le : ∀ (kvs : List (PyData × PyData)), (∀ kv ∈ kvs, kv.1.depth = 0 ∧ kv.2.depth = 0) → PyData.depthKv kvs = 0
  | [], _ => by simp [PyData.depthKv]
  | (a, b) :: r, h => by
    have h1 := h (a, b) List.mem_cons_self
    have ih := depthKv_le r fun kv hk => h kv (List.mem_cons_of_mem _ hk)
    simp only [PyData.depthKv, ih]
    simp at h1
    omega
theorem reads_of {pins : List (Addr × Obj)} {σ : SV} {H : Hp} {sh : Shared} {m : MM} {s : Sto} {x : D} {v : V} {u : Value} {p : PyData} (I : Inv X pins σ H sh) (hR : R X.K X.mg m s H) (hx : RV X.K m (hid m H) x v) (ru : RelV v u) (h : rdat s x = some p) :
    ∃ as, Reads sh.heap u p as ∧ (p.hasDict = true → sysModules ∉ as) ∧ p.depth ≤ 12 := by
  unfold rdat at h
  split at h
  · rename_i kvs
    cases e : allM toSc (kvs.map (·.2)) with
    | none => rw [e] at h; cases h
    | some ps =>
      rw [e] at h
      cases h
      cases hx with
      | @dic a _ kws q ek rs =>
        cases (show u = Value.ref a from ru)
        have ok : ObjOk X.prog X.w H sh.heap a (.dK kws) := (rd_mono (hid_sub _ _) q).ok I.hok
        obtain ⟨_, hsm, vs, kv, o, es, ep, ho, hex, hd, _, hp, _⟩ := ok
        obtain ⟨h1, h2⟩ := dict_pairs (h := sh.heap) hp kv
        obtain ⟨h3, h4⟩ := reads_sc (h := sh.heap) rs h2 e
        have hl : (kvs.map fun kv => keyP kv.1).length = ps.length := by
          have e1 : kws.length = kvs.length := by simpa using congrArg List.length ek
          have e2 := h2.length
          rw [h4, ← e2]; simp [e1]
        have ekp : (kws.map fun kv => keyP kv.1) = kvs.map fun kv => keyP kv.1 := by
          have : (kws.map (·.1)).map keyP = (kvs.map (·.1)).map keyP := by rw [ek]
          rw [List.map_map, List.map_map] at this; exact this
        refine ⟨_, Reads.dict (as := []) (bs := []) ho hex.1 hd ?_ ?_, fun _ z => ?_, ?_⟩
        · rw [List.map_fst_zip (Nat.le_of_eq hl), ← ekp]; exact h1
        · rw [List.map_snd_zip (Nat.le_of_eq hl.symm)]; exact h3
        · have z' : sysModules = a := by simpa using z
          rw [z'] at hsm
          simp at hsm
        · have hz : PyData.depthKv ((kvs.map fun kv => keyP kv.1).zip ps) = 0 := by
            refine depthKv_le _ fun kv hk => ⟨?_, depth_sc e _ (List.of_mem_zip hk).2⟩
            obtain ⟨k, _, hk2⟩ := List.mem_map.mp (List.of_mem_zip hk).1
            rw [← hk2]
            rcases k with ⟨k1, k2⟩
            cases k1 <;> simp [keyP, PyData.depth]
          simp only [PyData.depth, hz]
          omega
  · obtain ⟨h1, h2⟩ := dp_of hR 12 x v p hx h
    obtain ⟨as, h3⟩ := Dp.reads I p v u h1 ru
    refine ⟨as, h3, PyData.noDict_hsm ?_, h2⟩
    have nd : ∀ (q : PyData) (w : V), Dp X.K H w q → q.hasDict = false := by
      intro q
      exact PyData.rec (motive_1 := fun q => ∀ w, Dp X.K H w q → q.hasDict = false) (motive_2 := fun qs => ∀ ws, DpAll X.K H ws qs → PyData.hasDictAll qs = false) (motive_3 := fun _ => True) (motive_4 := fun _ => True)
        (fun w h => by simp [PyData.hasDict]) (fun b w h => by simp [PyData.hasDict]) (fun b w h => by simp [PyData.hasDict]) (fun b w h => by simp [PyData.hasDict])
        (fun xs ih w h => by cases h with | lst _ ha => simp only [PyData.hasDict]; exact ih _ ha)
        (fun xs ih w h => by cases h with | tup _ ha => simp only [PyData.hasDict]; exact ih _ ha)
        (fun kvs _ w h => by cases h)
        (fun ws h => by simp [PyData.hasDictAll])
        (fun y ys ih1 ih2 ws h => by cases h with | cons a b => simp only [PyData.hasDictAll]; rw [ih1 _ a, ih2 _ b]; rfl)
        True.intro (fun _ _ _ _ => True.intro) (fun _ _ _ _ => True.intro) q
    exact nd p v h1
theorem ci_repr (hgd : X.A.guards = some []) (hu : X.A.units + 64 < cLine) : CallI X (.builtin "repr") cRepr := by
  intro pins s σ H vs us Q I rs ⟨m, xs, t, hR, hx, hg⟩
  unfold cRepr at hg
  split at hg
  · split at hg
    · rename_i p e
      split at hg
      · rename_i hs
        obtain ⟨v, rfl, q⟩ := rv1 hx
        obtain ⟨u, rfl, ru⟩ := Vals.one rs
        obtain ⟨as, h1, h2, h3⟩ := reads_of I hR q ru e
        have fin : Q (.str p.shown) H := hg.ok hR (.str _)
        have hz := lim_le hs.2
        cases h1 with
        | none => exact PySem.P.repr_of_none ⟨.str _, H, I.tok _, ⟨_, rfl⟩, fin⟩
        | bool b => exact PySem.P.repr_of_bool ⟨.str _, H, I.tok _, ⟨_, rfl⟩, by simpa only [PyData.shown] using fin⟩
        | int i tk => exact PySem.P.repr_of_int (by have := hs.1; simp only [PyData.showable] at this; exact of_decide_eq_true this) ⟨.str _, H, I.tok _, ⟨_, rfl⟩, by simpa only [PyData.shown] using fin⟩
        | str x tk => exact PySem.P.repr_of_str ⟨.str _, H, I.tok _, ⟨_, rfl⟩, by simpa only [PyData.shown] using fin⟩ (by simpa only [PyData.shown] using hz)
        | list a b c d =>
          exact PySem.repr_of_reads' (Reads.list a b c d) hs.1 h2 hgd (by omega) (fun _ _ z => z) (fun h' tk n hk => ⟨.str _, H, I.kept hk, ⟨_, rfl⟩, fin⟩) hz
        | tuple a b c d =>
          exact PySem.repr_of_reads' (Reads.tuple a b c d) hs.1 h2 hgd (by omega) (fun _ _ z => z) (fun h' tk n hk => ⟨.str _, H, I.kept hk, ⟨_, rfl⟩, fin⟩) hz
        | dict a b c d e' =>
          exact PySem.repr_of_reads' (Reads.dict a b c d e') hs.1 h2 hgd (by omega) (fun _ _ z => z) (fun h' tk n hk => ⟨.str _, H, I.kept hk, ⟨_, rfl⟩, fin⟩) hz
      · exact hg.elim
    · exact hg.elim
  · exact hg.elim
end
end RQ

namespace RQ
open PySem PySem.Spec PyProof.Rows L2
section
variable {X : Cx} {W : WX}
/-! ### methods -/
def lstAt (s : Sto) : D → Option (Nat × List D)
  | .ref n => match s[n]? with | some (.lst xs) => some (n, xs) | _ => none
  | _ => none
theorem lstAt_at {K : PySem.W.Frag} {mg : Str → Option Value} {m : MM} {s : Sto} {H : Hp} {x : D} {v : V} {n : Nat} {xs : List D} (hR : R K mg m s H) (r : RV K m (hid m H) x v) (h : lstAt s x = some (n, xs)) :
    ∃ a vs, v = .ref a ∧ m.ix[n]? = some a ∧ H a = some (.lst vs) ∧ RVs K m (hid m H) xs vs := by
  unfold lstAt at h
  split at h
  · cases r with
    | ref q =>
      split at h
      · rename_i e
        cases h
        obtain ⟨vs, h1, h2⟩ := hR.obj _ _ _ q e
        exact ⟨_, vs, rfl, q, h1, h2⟩
      · cases h
  · cases h
theorem Go.putL {α β : Type} {W' : WX} {K : PySem.W.Frag} {mg : Str → Option Value} {σ : SV} {rel : Rel α β} {m : MM} {s : Sto} {H : Hp} {n : Nat} {a : Addr} {ds : List D} {vs : List V} {d : α} {v : β} {Q : β → Hp → Prop}
    (hR : R K mg m s H) (ha : m.ix[n]? = some a) (hv : RVs K m (hid m H) ds vs) (hd : ∀ m' G, m.ix <+: m'.ix → Same (hid m H) G → rel m' G d v) (hG : Go W' K mg σ rel m H (.ok d (s.set n (.lst ds))) Q) : Q v (upd H a (.lst vs)) := by
  obtain ⟨e, r⟩ := hR.put (ho := .lst vs) (o := .lst ds) ha fun e => ⟨vs, upd_same, hv.mono e.pre e.same⟩
  exact hG v m _ e r (hd _ _ e.pre e.same)
def mAppend (x : D) (xs : List D) : M D := fun s => match xs, lstAt s x with
  | [y], some (n, ys) => if ys.length < lim then .ok .non (s.set n (.lst (ys ++ [y]))) else .bad
  | _, _ => .bad
theorem mi_append : MtI X "list.append" mAppend := by
  refine mt_mono (show MtR X "list.append" rAppend from mt_append) fun v vs H Q ⟨m, x, xs, s, hR, hx, hxs, hg⟩ => ?_
  unfold mAppend at hg
  split at hg
  · rename_i y n ys e
    split at hg
    · rename_i hl
      obtain ⟨u, rfl, q⟩ := rv1 hxs
      obtain ⟨a, ws, rfl, h1, h2, h3⟩ := lstAt_at hR hx e
      exact ⟨a, ws, u, rfl, rfl, h2, by rw [h3.length]; exact Nat.lt_of_lt_of_le hl (lim_le (Nat.le_refl _)), Go.putL hR h1 (h3.append (.cons q .nil)) (fun _ _ _ _ => .non) hg⟩
    · exact hg.elim
  · exact hg.elim
def mReverse (x : D) (xs : List D) : M D := fun s => match xs, lstAt s x with
  | [], some (n, ys) => .ok .non (s.set n (.lst ys.reverse))
  | _, _ => .bad
theorem mi_reverse : MtI X "list.reverse" mReverse := by
  refine mt_mono (show MtR X "list.reverse" rReverse from mt_reverse) fun v vs H Q ⟨m, x, xs, s, hR, hx, hxs, hg⟩ => ?_
  unfold mReverse at hg
  split at hg
  · rename_i n ys e
    cases hxs
    obtain ⟨a, ws, rfl, h1, h2, h3⟩ := lstAt_at hR hx e
    exact ⟨a, ws, rfl, rfl, h2, Go.putL hR h1 h3.reverse (fun _ _ _ _ => .non) hg⟩
  · exact hg.elim
def mClear (x : D) (xs : List D) : M D := fun s => match xs, lstAt s x with
  | [], some (n, ys) => .ok .non (s.set n (.lst []))
  | _, _ => .bad
theorem mi_clear : MtI X "list.clear" mClear := by
  refine mt_mono (show MtR X "list.clear" rClear from mt_clear) fun v vs H Q ⟨m, x, xs, s, hR, hx, hxs, hg⟩ => ?_
  unfold mClear at hg
  split at hg
  · rename_i n ys e
    cases hxs
    obtain ⟨a, ws, rfl, h1, h2, h3⟩ := lstAt_at hR hx e
    exact ⟨a, ws, rfl, rfl, h2, Go.putL hR h1 .nil (fun _ _ _ _ => .non) hg⟩
  · exact hg.elim
def mJoin (x : D) (xs : List D) : M D := fun s => match x, xs with
  | .str a, [y] => (match (match y with | .tup ys => some ys | y => asLL s y) with
    | some ys => (match allM unS ys with
      | some zs => if (zs.map (·.length)).sum + zs.length * a.length ≤ lim then .ok (.str (Txt.join a zs)) s else .bad
      | none => .bad)
    | none => .bad)
  | _, _ => .bad
theorem mi_join : MtI X "str.join" mJoin := by
  refine mt_mono mt_join fun v vs H Q ⟨m, x, xs, s, hR, hx, hxs, hg⟩ => ?_
  unfold mJoin at hg
  split at hg
  · cases hx
    split at hg
    · rename_i ys e
      split at hg
      · rename_i zs e2
        split at hg
        · rename_i hl
          obtain ⟨u, rfl, q⟩ := rv1 hxs
          split at e
          · cases e
            obtain ⟨p, ws, rfl, h1, h2⟩ := tup_at q
            have e3 := h2.strs (allM_str e2)
            subst e3
            exact ⟨_, p, zs, rfl, rfl, .inr h1, Nat.le_trans hl (by decide), hg.ok hR (.str _)⟩
          · obtain ⟨p, ws, rfl, h1, h2⟩ := asLL_at hR q e
            have e3 := h2.strs (allM_str e2)
            subst e3
            exact ⟨_, p, zs, rfl, rfl, .inl h1, Nat.le_trans hl (by decide), hg.ok hR (.str _)⟩
        · exact hg.elim
      · exact hg.elim
    · exact hg.elim
  · exact hg.elim
def mUpper (x : D) (xs : List D) : M D := fun s => match x, xs with
  | .str a, [] => if a.length ≤ lim then .ok (.str (Txt.upper a)) s else .bad
  | _, _ => .bad
theorem mi_upper : MtI X "str.upper" mUpper := by
  refine mt_mono mt_upper fun v vs H Q ⟨m, x, xs, s, hR, hx, hxs, hg⟩ => ?_
  unfold mUpper at hg
  split at hg
  · cases hx; cases hxs
    split at hg
    · rename_i hl
      exact ⟨_, rfl, rfl, Nat.le_trans hl (by decide), hg.ok hR (.str _)⟩
    · exact hg.elim
  · exact hg.elim
/-! ### what is walked -/
def sto (n : Nat) (l : Nat) : Src := ⟨fun s i => match s[n]? with | some (.lst ds) => some ds[i]? | _ => none, l⟩
def chars (z : Str) : List D := z.cps.toList.map fun c => .str ⟨#[c]⟩
def kSrc (x : D) : M Src := fun s => match x with
  | .str z => .ok (fix (chars z)) s
  | .tup ys => .ok (fix ys) s
  | .lst ys => .ok (fix ys) s
  | .sls ys => .ok (fix ys) s
  | .ref n => (match s[n]? with | some (.lst ys) => .ok (sto n ys.length) s | _ => .bad)
  | _ => .bad
theorem wk_list {K : PySem.W.Frag} {mg : Str → Option Value} {m : MM} {G : Hp} {a : Addr} {ds : List D} {vs : List V} (h : SqL K G a vs) (r : RVs K m G ds vs) : Wk K mg m G (fix ds) (Itl K a) := by
  refine Wk.fixed fun m' s' H' hp sm hR i => ⟨fun d e => ?_, fun hl => ?_⟩
  · have r' := r.mono hp sm
    obtain ⟨v, h1, h2⟩ := r'.get e
    have hq := sql_mono (hid_sub _ _) (sql_mono sm h)
    exact ⟨⟨vs, v, hq, h1⟩, fun x H2 ⟨e2, hx⟩ => by
      subst e2
      have e3 := hx vs hq
      rw [h1] at e3; cases e3
      exact ⟨m', Ext.refl _ _, hR, h2⟩⟩
  · exact ⟨vs, sql_mono (hid_sub _ _) (sql_mono sm h), by rw [r.length]; exact hl⟩
theorem wk_tup {K : PySem.W.Frag} {mg : Str → Option Value} {m : MM} {G : Hp} {a : Addr} {ds : List D} {vs : List V} (h : SqT K G a vs) (r : RVs K m G ds vs) : Wk K mg m G (fix ds) (Itt K a) := by
  refine Wk.fixed fun m' s' H' hp sm hR i => ⟨fun d e => ?_, fun hl => ?_⟩
  · have r' := r.mono hp sm
    obtain ⟨v, h1, h2⟩ := r'.get e
    have hq := sqt_mono (hid_sub _ _) (sqt_mono sm h)
    exact ⟨⟨vs, v, hq, h1⟩, fun x H2 ⟨e2, hx⟩ => by
      subst e2
      have e3 := hx vs hq
      rw [h1] at e3; cases e3
      exact ⟨m', Ext.refl _ _, hR, h2⟩⟩
  · exact ⟨vs, sqt_mono (hid_sub _ _) (sqt_mono sm h), by rw [r.length]; exact hl⟩
theorem wk_sto {K : PySem.W.Frag} {mg : Str → Option Value} {m : MM} {G : Hp} {a : Addr} {n l : Nat} (h : m.ix[n]? = some a) : Wk K mg m G (sto n l) (Itl K a) := by
  intro m' s' H' hp sm hR i
  have ha := pre_get hp h
  show match (match s'[n]? with | some (.lst ds) => some ds[i]? | _ => none : Option (Option D)) with | some (some d) => _ | some none => _ | none => True
  cases e : s'[n]? with
  | none => exact True.intro
  | some o =>
    cases o with
    | dic kvs => exact True.intro
    | ins c fs => exact True.intro
    | lst ds =>
      obtain ⟨vs, h1, h2⟩ := hR.obj n a _ ha e
      have hq : SqL K H' a vs := .inl (.inl h1)
      show match some ds[i]? with | some (some d) => _ | some none => _ | none => True
      cases e2 : ds[i]? with
      | none => exact ⟨vs, hq, by rw [h2.length]; exact List.getElem?_eq_none_iff.mp e2⟩
      | some d =>
        obtain ⟨v, h3, h4⟩ := h2.get e2
        exact ⟨⟨vs, v, hq, h3⟩, fun x H2 ⟨e3, hx⟩ => by
          subst e3
          have e4 := hx vs hq
          rw [h3] at e4; cases e4
          exact ⟨m', Ext.refl _ _, hR, h4⟩⟩
theorem wk_str {K : PySem.W.Frag} {mg : Str → Option Value} {m : MM} {G : Hp} {z : Str} : Wk K mg m G (fix (chars z)) (Its z) := by
  refine Wk.fixed fun m' s' H' hp sm hR i => ⟨fun d e => ?_, fun hl => ?_⟩
  · unfold chars at e
    rw [List.getElem?_map] at e
    cases q : z.cps.toList[i]? with
    | none => rw [q] at e; cases e
    | some c =>
      rw [q] at e
      cases e
      have q' : z.cps[i]? = some c := by simpa using q
      have hl : i < z.cps.size := by
        have := (List.getElem?_eq_some_iff.mp q).1
        simpa using this
      exact ⟨hl, fun x H2 ⟨e2, c', h1, h2⟩ => by
        subst e2 h2
        rw [q'] at h1; cases h1
        exact ⟨m', Ext.refl _ _, hR, .str _⟩⟩
  · unfold chars at hl
    show z.cps.size ≤ i
    simpa using hl
theorem wk_range {K : PySem.W.Frag} {mg : Str → Option Value} {m : MM} {G : Hp} (lo : Int) (n : Nat) : Wk K mg m G (fix ((List.range n).map fun (k : Nat) => .int (lo + k))) (Itr lo n) := by
  refine Wk.fixed fun m' s' H' hp sm hR i => ⟨fun d e => ?_, fun hl => ?_⟩
  · rw [List.getElem?_map] at e
    cases q : (List.range n)[i]? with
    | none => rw [q] at e; cases e
    | some c =>
      rw [q] at e
      cases e
      obtain ⟨h1, h2⟩ := List.getElem?_eq_some_iff.mp q
      simp at h1 h2
      subst h2
      exact ⟨h1, fun x H2 ⟨e2, hx⟩ => by
        subst e2 hx
        exact ⟨m', Ext.refl _ _, hR, .int _⟩⟩
  · show n ≤ i
    simpa using hl
/-- a list, a tuple or a text that is walked -/
theorem pi_seq {tg e : Expr} {te : TE} (he : PE X e te) : PI X tg e (fun σ H Rk => te σ H fun x H1 => (∃ a, x = .ref a ∧ (∃ xs, SqL X.K H1 a xs) ∧ Rk (Itl X.K a) H1) ∨ (∃ a, x = .ref a ∧ (∃ xs, SqT X.K H1 a xs) ∧ Rk (Itt X.K a) H1) ∨ ∃ z, x = .str z ∧ Rk (Its z) H1) := by
  refine ⟨fun pins s σ H Rk I h => thn (he.run pins s σ H _ I h) fun v t ⟨x, H1, J, rx, q⟩ => ?_⟩
  have new : ∀ o : Obj, Inv X pins σ H1 { t with heap := t.heap.push o } := fun o => J.kept (t' := t.toks) fun b u z => Heap.get?_push_of_some _ z
  have ok : ∀ b, b ∈ [t.heap.objs.size] → FpOk X pins H1 b := fun b hb => by
    rw [List.mem_singleton.mp hb]
    exact J.fpOk (Nat.le_refl _) (J.hok.fresh (Nat.le_refl _))
  rcases q with ⟨a, rfl, ⟨xs, hq⟩, qr⟩ | ⟨a, rfl, ⟨xs, hq⟩, qr⟩ | ⟨z, rfl, qr⟩
  · cases rx
    obtain ⟨its, _, pl, _⟩ := J.list hq
    exact wpAny_pyIter_list pl.isList ⟨_, _, _, _, H1, rfl, new _, turn_list a t.heap.objs.size, ⟨_, Heap.get?_push_size _ rfl, rfl, rfl⟩, ok, qr⟩
  · cases rx
    obtain ⟨its, _, pl, _⟩ := J.tuple hq
    exact wpAny_pyIter_tuple (show t.heap.IsTuple a its.toArray from pl) ⟨_, _, _, _, H1, rfl, new _, turn_tuple a t.heap.objs.size, ⟨_, Heap.get?_push_size _ rfl, rfl, rfl⟩, ok, qr⟩
  · obtain ⟨tk, rfl⟩ := rx
    by_cases ha : (z.cps.all (· < 128)) = true
    · exact wpAny_pyIter_ascii ha (pi_one (tk := t.toks) J _ (turn_str _ z tk "str_ascii_iterator" (.inl rfl)) ⟨_, Heap.get?_push_size _ rfl, rfl, rfl⟩ qr)
    · exact wpAny_pyIter_wide (Bool.eq_false_iff.mpr ha) (pi_one (tk := t.toks) J _ (turn_str _ z tk "str_iterator" (.inr rfl)) ⟨_, Heap.get?_push_size _ rfl, rfl, rfl⟩ qr)
variable {tg e a b : Expr} {f g : EV → M D} {fs : EV → M (List D)} {pos : Pos}
def mSrc (f : EV → M D) : EV → M Src := fun σ => bnd (f σ) kSrc
theorem ii_seq (he : IE X W e f) : II X W tg e (mSrc f) := by
  refine ⟨pi_mono (pi_seq he.pe) fun σ H Q ⟨m, σd, s, hR, hS, hG⟩ => ?_⟩
  refine ⟨m, σd, s, hR, hS, (Go.bnd (rel := RV X.K) hG).imp fun x H1 ⟨m1, d, s1, e1, r1, v1, g1⟩ => ?_⟩
  unfold kSrc at g1
  split at g1
  · cases v1; exact .inr (.inr ⟨_, rfl, Go.ok g1 r1 wk_str⟩)
  · cases v1 with | tup q qs => exact .inr (.inl ⟨_, rfl, ⟨_, sqt_mono (hid_sub _ _) q⟩, Go.ok g1 r1 (wk_tup q qs)⟩)
  · cases v1 with | lst q qs => exact .inl ⟨_, rfl, ⟨_, .inl (.inl (hid_sub _ _ _ _ q))⟩, Go.ok g1 r1 (wk_list (.inl (.inl q)) qs)⟩
  · cases v1 with | sls q qs => exact .inl ⟨_, rfl, ⟨_, sql_mono (hid_sub _ _) q⟩, Go.ok g1 r1 (wk_list q qs)⟩
  · cases v1 with
    | ref q =>
      split at g1
      · rename_i e
        obtain ⟨vs, h1, h2⟩ := r1.obj _ _ _ q e
        exact .inl ⟨_, rfl, ⟨vs, .inl (.inl h1)⟩, Go.ok g1 r1 (wk_sto q)⟩
      · exact g1.elim
  · exact g1.elim
def rng (lo hi : Int) : List D := (List.range (hi - lo).toNat).map fun (k : Nat) => .int (lo + k)
def mRng1 (f : EV → M D) : EV → M Src := fun σ => bnd (f σ) fun x => match x with
  | .int j => if -(2 ^ 62) ≤ j ∧ j < 2 ^ 62 then ret (fix (rng 0 j)) else bad
  | _ => bad
def mRng2 (f g : EV → M D) : EV → M Src := fun σ => bnd (f σ) fun x => bnd (g σ) fun y => match x, y with
  | .int i, .int j => if -(2 ^ 62) ≤ i ∧ i < 2 ^ 62 ∧ -(2 ^ 62) ≤ j ∧ j < 2 ^ 62 then ret (fix (rng i j)) else bad
  | _, _ => bad
theorem ii_range1 {p : Pos} (hg : Gl X "range") (hm : X.mg "range" = none) (ha : IE X W a f) (hs : starEach [a] X.env = [(false, eval a X.env)] := by rfl) (hs1 : starEach (a :: []) X.env = (false, eval a X.env) :: starEach [] X.env := by rfl) : II X W tg (.Call (.Name "range" p) [a] [] pos) (mRng1 f) := by
  refine ⟨pi_mono (pi_range1 hg hm (pa_cons ha.pe pa_nil hs1) hs) fun σ H Q ⟨m, σd, s, hR, hS, hG⟩ => ?_⟩
  refine ⟨m, σd, s, hR, hS, (Go.bnd (rel := RV X.K) hG).imp fun x H1 ⟨m1, d, s1, e1, r1, v1, g1⟩ => ?_⟩
  split at g1
  · cases v1
    split at g1
    · rename_i h
      refine ⟨_, rfl, h.1, h.2, ?_⟩
      refine Go.ok g1 r1 ?_
      unfold rng
      rw [Int.sub_zero]
      exact wk_range 0 _
    · exact g1.elim
  · exact g1.elim
theorem ii_range2 {p : Pos} (hg : Gl X "range") (hm : X.mg "range" = none) (ha : IE X W a f) (hb : IE X W b g) (hs : starEach [a, b] X.env = [(false, eval a X.env), (false, eval b X.env)] := by rfl) (hs2 : starEach [b] X.env = [(false, eval b X.env)] := by rfl)
    (h1 : starEach (a :: [b]) X.env = (false, eval a X.env) :: starEach [b] X.env := by rfl) (h2 : starEach (b :: []) X.env = (false, eval b X.env) :: starEach [] X.env := by rfl) : II X W tg (.Call (.Name "range" p) [a, b] [] pos) (mRng2 f g) := by
  refine ⟨pi_mono (pi_range2 hg hm (pa_cons ha.pe (pa_cons hb.pe pa_nil h2) h1) hs hs2) fun σ H Q ⟨m, σd, s, hR, hS, hG⟩ => ?_⟩
  refine ⟨m, σd, s, hR, hS, (Go.bnd (rel := RV X.K) hG).imp fun x H1 ⟨m1, d, s1, e1, r1, v1, g1⟩ => ?_⟩
  refine ⟨m1, σd, s1, r1, hS.mono e1.pre e1.same, (Go.bnd (rel := RV X.K) g1).imp fun y H2 ⟨m2, d2, s2, e2, r2, v2, g2⟩ => ?_⟩
  split at g2
  · cases v1; cases v2
    split at g2
    · rename_i h
      exact ⟨_, _, rfl, ⟨h.1, h.2.1, h.2.2.1, h.2.2.2⟩, Go.ok g2 r2 (wk_range _ _)⟩
    · exact g2.elim
  · exact g2.elim
/-- enumerate of a list -/
def enumD (ds : List D) : List D := ds.mapIdx fun i d => .tup [.int i, d]
def enumS (n l : Nat) : Src := ⟨fun s i => match s[n]? with | some (.lst ds) => some ((ds[i]?).map fun d => .tup [.int i, d]) | _ => none, l⟩
def kEnum (x : D) : M Src := fun s => match x with
  | .lst ys => .ok (fix (enumD ys)) s
  | .sls ys => .ok (fix (enumD ys)) s
  | .ref n => (match s[n]? with | some (.lst ys) => .ok (enumS n ys.length) s | _ => .bad)
  | _ => .bad
def mEnum (f : EV → M D) : EV → M Src := fun σ => bnd (f σ) kEnum
theorem yld_pair {K : PySem.W.Frag} {mg : Str → Option Value} {m : MM} {s : Sto} {H : Hp} {d d' : D} {v v' : V} {T : Addr} (hR : R K mg m s H) (h : RV K m (hid m H) d v) (h' : RV K m (hid m H) d' v') (hT : H T = none) :
    ∃ m2, Ext m H m2 (upd H T (.tup [v, v'])) ∧ R K mg m2 s (upd H T (.tup [v, v'])) ∧ RV K m2 (hid m2 (upd H T (.tup [v, v']))) (.tup [d, d']) (.ref T) := by
  obtain ⟨e, r, hh⟩ := hR.newF (o := .tup [v, v']) hT
  exact ⟨m, e, r, .tup (.inl (.inl hh)) (.cons (h.mono e.pre e.same) (.cons (h'.mono e.pre e.same) .nil))⟩
theorem wk_enum {K : PySem.W.Frag} {mg : Str → Option Value} {m : MM} {G : Hp} {p : Addr} {ds : List D} {vs : List V} (h : SqL K G p vs) (r : RVs K m G ds vs) : Wk K mg m G (fix (enumD ds)) (Ite K p) := by
  refine Wk.fixed fun m' s' H' hp sm hR i => ⟨fun d e => ?_, fun hl => ?_⟩
  · unfold enumD at e
    rw [List.getElem?_mapIdx] at e
    cases q : ds[i]? with
    | none => rw [q] at e; cases e
    | some d0 =>
      rw [q] at e
      cases e
      have r' := r.mono hp sm
      obtain ⟨v, h1, h2⟩ := r'.get q
      have hq := sql_mono (hid_sub _ _) (sql_mono sm h)
      exact ⟨⟨vs, v, hq, h1⟩, fun x H2 ⟨T, y, e1, e2, e3, hx⟩ => by
        subst e1 e3
        have e4 := hx vs hq
        rw [h1] at e4; cases e4
        exact yld_pair hR (.int _) h2 e2⟩
  · refine ⟨vs, sql_mono (hid_sub _ _) (sql_mono sm h), ?_⟩
    rw [r.length]
    simpa [enumD] using hl
theorem wk_enumS {K : PySem.W.Frag} {mg : Str → Option Value} {m : MM} {G : Hp} {p : Addr} {n l : Nat} (h : m.ix[n]? = some p) : Wk K mg m G (enumS n l) (Ite K p) := by
  intro m' s' H' hp sm hR i
  have ha := pre_get hp h
  show match (match s'[n]? with | some (.lst ds) => some ((ds[i]?).map fun d => .tup [.int i, d]) | _ => none : Option (Option D)) with | some (some d) => _ | some none => _ | none => True
  cases e : s'[n]? with
  | none => exact True.intro
  | some o =>
    cases o with
    | dic kvs => exact True.intro
    | ins c fs => exact True.intro
    | lst ds =>
      obtain ⟨vs, h1, h2⟩ := hR.obj n p _ ha e
      have hq : SqL K H' p vs := .inl (.inl h1)
      show match some ((ds[i]?).map fun d => D.tup [.int i, d]) with | some (some d) => _ | some none => _ | none => True
      cases e2 : ds[i]? with
      | none => exact ⟨vs, hq, by rw [h2.length]; exact List.getElem?_eq_none_iff.mp e2⟩
      | some d =>
        obtain ⟨v, h3, h4⟩ := h2.get e2
        exact ⟨⟨vs, v, hq, h3⟩, fun x H2 ⟨T, y, e1, e2, e3, hx⟩ => by
          subst e1 e3
          have e4 := hx vs hq
          rw [h3] at e4; cases e4
          exact yld_pair hR (.int _) h4 e2⟩
theorem ii_enum {p tpos : Pos} {elts : List Expr} {kk : Nat} (hg : Gl X "enumerate") (hm : X.mg "enumerate" = none) (ha : IE X W a f) (hs : starEach [a] X.env = [(false, eval a X.env)] := by rfl) (hs1 : starEach (a :: []) X.env = (false, eval a X.env) :: starEach [] X.env := by rfl) :
    II X W (.Tuple elts kk tpos) (.Call (.Name "enumerate" p) [a] [] pos) (mEnum f) := by
  refine ⟨pi_mono (pi_enum hg hm (pa_cons ha.pe pa_nil hs1) hs) fun σ H Q ⟨m, σd, s, hR, hS, hG⟩ => ?_⟩
  refine ⟨m, σd, s, hR, hS, (Go.bnd (rel := RV X.K) hG).imp fun x H1 ⟨m1, d, s1, e1, r1, v1, g1⟩ => ?_⟩
  unfold kEnum at g1
  split at g1
  · cases v1 with | lst q qs => exact ⟨_, _, rfl, .inl (.inl (hid_sub _ _ _ _ q)), Go.ok g1 r1 (wk_enum (.inl (.inl q)) qs)⟩
  · cases v1 with | sls q qs => exact ⟨_, _, rfl, sql_mono (hid_sub _ _) q, Go.ok g1 r1 (wk_enum q qs)⟩
  · cases v1 with
    | ref q =>
      split at g1
      · rename_i e
        obtain ⟨vs, h1, h2⟩ := r1.obj _ _ _ q e
        exact ⟨_, vs, rfl, .inl (.inl h1), Go.ok g1 r1 (wk_enumS q)⟩
      · exact g1.elim
  · exact g1.elim
/-! ### stores to items -/
def dSetL (o i v : D) : Sto → Option Sto := fun s => match i, lstAt s o with
  | .int k, some (n, xs) => (match ixN xs.length k with | some j => some (s.set n (.lst (xs.set j v))) | none => none)
  | _, _ => none
def sSetIx (f fo fi : EV → M D) : SM := fun σ s => lft (bnd (f σ) (fun x => bnd (fo σ) fun o => bnd (fi σ) fun i => ret (x, o, i)) s) σ fun d s' => match dSetL d.2.1 d.2.2 d.1 s' with | some s2 => .go .nx σ s2 | none => .bad
theorem is_setix {o i : Expr} {p : Pos} {fo fi : EV → M D} (he : IE X W e f) (ho : IE X W o fo) (hi : IE X W i fi)
    (hx : ∀ v, assign (.Subscript o i p) X.env v = (do
      let ov ← holding [v] (eval o X.env)
      let iv ← holding [v, ov] (eval i X.env)
      standAt p
      holding [v, ov, iv] (setItem ov iv v)
      release [v, ov, iv] []) := by intro _; rfl)
    (hs : swapsWithSole [.Subscript o i p] e pos.line X.env = pure false := by rfl) (hw : swappedStores [.Subscript o i p] e X.env = pure none := by rfl)
    (h1 : (assignEach [.Subscript o i p] X.env).map (·.2) = [assign (.Subscript o i p) X.env] := by rfl) : IS X W (.Assign [.Subscript o i p] e pos) (sSetIx f fo fi) := by
  refine ⟨ps_mono (ps_asg he.pe (pg_sub ho.pe hi.pe set_list hx) hs hw h1) fun E σ H ⟨m, σd, s, hR, hS, hG⟩ => ?_⟩
  have hG2 := Go.bnd (rel := RV X.K) (GoS.lft (rel := fun m G (d : D × D × D) (v : V × V × V) => RV X.K m G d.1 v.1 ∧ RV X.K m G d.2.1 v.2.1 ∧ RV X.K m G d.2.2 v.2.2) hS hG)
  refine ⟨m, σd, s, hR, hS, hG2.imp fun v H1 ⟨m1, d, s1, e1, r1, v1, g1⟩ => ?_⟩
  refine ⟨m1, σd, s1, r1, hS.mono e1.pre e1.same, (Go.bnd (rel := RV X.K) g1).imp fun u H2 ⟨m2, d2, s2, e2, r2, v2, g2⟩ => ?_⟩
  refine ⟨m2, σd, s2, r2, hS.mono (e1.pre.trans e2.pre) (e1.same.trans e2.same), (Go.bnd (rel := RV X.K) g2).imp fun w H3 ⟨m3, d3, s3, e3, r3, v3, g3⟩ => ?_⟩
  obtain ⟨m4, dd, s4, e4, r4, ⟨w1, w2, w3⟩, g4⟩ := Go.ok (a := (d, d2, d3)) (b := (v, u, w)) g3 r3 ⟨v1.mono (e2.pre.trans e3.pre) (e2.same.trans e3.same), v2.mono e3.pre e3.same, v3⟩
  split at g4
  · rename_i s5 q
    unfold dSetL at q
    split at q
    · rename_i k n xs e5 e6
      split at q
      · rename_i j e7
        cases q
        rw [e5] at w3
        have w3' : w = .int k := by cases w3; rfl
        obtain ⟨a, ws, rfl, h1, h2, h3⟩ := lstAt_at r4 w2 e6
        obtain ⟨e8, r8⟩ := r4.put (ho := .lst (ws.set j v)) (o := .lst (xs.set j dd.1)) h1 fun e => ⟨_, upd_same, (h3.set w1 j).mono e.pre e.same⟩
        exact ⟨a, ws, k, j, rfl, w3', h2, by rw [h3.length]; exact e7, GoS.at (fl := .nx) (g4.ext e8) r8 ((hS.mono e4.pre e4.same).mono e8.pre e8.same)⟩
      · cases q
    · cases q
  · exact g4.elim
/-- name op= e -/
def sAug (i : Nat) (o : D → D → M D) (f : EV → M D) : SM := fun σ s => match σ[i]? with
  | some (some x) => lft (bnd (f σ) (fun y => nox (o x y)) s) σ fun d s' => .go .nx (σ.set i (some d)) s'
  | _ => .bad
theorem is_aug {i : Nat} {x : Str} {op : Operator} {pos' : Pos} {o : D → D → M D} (hN : X.N.Nodup) (hi : X.N[i]? = some x) (hx : Loc X.env.scope x) (ho : OpI X (inplaceOp op) o) (he : IE X W e f) (hf : X.fn x = true ∨ X.env.scope.names.lookup x = some .local := by first | exact .inl rfl | exact .inr rfl) :
    IS X W (.AugAssign (.Name x pos') op e pos) (sAug i o f) := by
  refine ⟨ps_mono (ps_aug hN hi hx he.pe (show PIp X op (g2 X o) from ho) hf) fun E σ H ⟨m, σd, s, hR, hS, hG⟩ => ?_⟩
  unfold sAug at hG
  split at hG
  · rename_i x0 e0
    obtain ⟨v, h1, h2⟩ := hS.get i x0 e0
    refine ⟨v, h1, m, σd, s, hR, hS, (Go.bnd (rel := RV X.K) (GoS.lft (rel := RV X.K) hS hG)).imp fun y H1 ⟨m1, d, s1, e1, r1, v1, g1⟩ => ?_⟩
    refine ⟨m1, x0, d, s1, r1, h2.mono e1.pre e1.same, v1, g1.nox.imp fun z H2 ⟨m2, d2, s2, e2, r2, v2, g2⟩ => ?_⟩
    exact GoS.at (fl := .nx) g2 r2 ((hS.mono e2.pre e2.same).put v2)
  · exact hG.elim
def dAddI (x y : D) : M D := fun s => match x, y with
  | .int i, .int j => .ok (.int (i + j)) s
  | .str a, .str b => if a.length + b.length ≤ lim then .ok (.str (a ++ b)) s else .bad
  | _, _ => .bad
theorem pi_add : OpI X (inplaceOp .Add) dAddI := by
  refine op_mono (iop_add.or iop_add_str) fun v u H Q ⟨m, x, y, s, hR, hx, hy, hg⟩ => ?_
  unfold dAddI at hg
  split at hg
  · cases hx; cases hy; exact .inl ⟨_, _, rfl, rfl, hg.ok hR (.int _)⟩
  · cases hx; cases hy
    split at hg
    · rename_i h
      exact .inr ⟨_, _, rfl, rfl, lim_le h, hg.ok hR (.str _)⟩
    · exact hg.elim
  · exact hg.elim
theorem pi_sub : OpI X (inplaceOp .Sub) dSub := by
  refine op_mono iop_sub fun v u H Q ⟨m, x, y, s, hR, hx, hy, hg⟩ => ?_
  unfold dSub at hg
  split at hg
  · cases hx; cases hy; exact ⟨_, _, rfl, rfl, hg.ok hR (.int _)⟩
  · exact hg.elim
/-- xs[i] op= e, a list -/
theorem get_list : PGet X (fun o i H Q => ∃ p xs k v, o = .ref p ∧ i = .int k ∧ SqL X.K H p xs ∧ atI xs k = some v ∧ Q v H) := by
  intro pins s σ H o i ov iv Q I ro ri ⟨p, xs, k, v, e1, e2, hq, hv, q⟩
  subst e1 e2
  cases ro
  obtain ⟨t, rfl⟩ := ri
  obtain ⟨its, rv, pl, hz⟩ := I.list hq
  obtain ⟨j, _, hj, hjl, hlo, hhi⟩ := atI_get hv
  have hl := rv.length
  have hs : sizeLine = 16777216 := sizeLine_eq
  have ej : ixN xs.length k = some j ∨ True := .inr True.intro
  unfold atI ixN at hv
  by_cases h0 : 0 ≤ k
  · rw [if_pos h0, if_pos hhi] at hv
    obtain ⟨u, hu, ru⟩ := rv.get (show xs[k.toNat]? = some v from hv)
    exact wpAny_getItem_list pl.isList h0 (by omega) (x := u) (by simpa using hu) ⟨v, H, I, ru, q⟩
  · rw [if_neg h0, if_pos hlo] at hv
    obtain ⟨u, hu, ru⟩ := rv.get (show xs[(k + xs.length).toNat]? = some v from hv)
    exact PySem.wpAny_getItem_list_neg pl.isList (by omega) (by simp; omega) (by omega) (x := u) (by simpa [hl] using hu) ⟨v, H, I, ru, q⟩
def sAugIx (oper : D → D → M D) (fo fi f : EV → M D) : SM := fun σ s => lft (bnd (fo σ) (fun o => bnd (fi σ) fun i => bnd (nox (dIxL o i)) fun x => bnd (f σ) fun y => bnd (nox (oper x y)) fun z => ret (o, i, z)) s) σ fun d s' =>
    match dSetL d.1 d.2.1 d.2.2 s' with | some s2 => .go .nx σ s2 | none => .bad
where dIxL (o i : D) : M D := fun s => match i, asLL s o with
  | .int k, some xs => (match atI xs k with | some d => .ok d s | none => .bad)
  | _, _ => .bad
theorem is_augix {o i : Expr} {op : Operator} {p : Pos} {oper : D → D → M D} {fo fi : EV → M D} (ho : IE X W o fo) (hi : IE X W i fi) (hop : OpI X (inplaceOp op) oper) (he : IE X W e f)
    (ha : ∀ ov iv new, augStore i ov iv new = (do holding [new, ov, iv] (setItem ov iv new); release [new, ov, iv] []; pure .next) := by intros; rfl) : IS X W (.AugAssign (.Subscript o i p) op e pos) (sAugIx oper fo fi f) := by
  refine ⟨ps_mono (ps_augS ho.pe hi.pe get_list he.pe (show PIp X op (g2 X oper) from hop) set_list ha) fun E σ H ⟨m, σd, s, hR, hS, hG⟩ => ?_⟩
  have hG2 := Go.bnd (rel := RV X.K) (GoS.lft (rel := fun m G (d : D × D × D) (v : V × V × V) => RV X.K m G d.1 v.1 ∧ RV X.K m G d.2.1 v.2.1 ∧ RV X.K m G d.2.2 v.2.2) hS hG)
  refine ⟨m, σd, s, hR, hS, hG2.imp fun v H1 ⟨m1, d, s1, e1, r1, v1, g1⟩ => ?_⟩
  refine ⟨m1, σd, s1, r1, hS.mono e1.pre e1.same, (Go.bnd (rel := RV X.K) g1).imp fun u H2 ⟨m2, d2, s2, e2, r2, v2, g2⟩ => ?_⟩
  replace g2 := (Go.bnd (rel := RV X.K) g2).nox
  unfold sAugIx.dIxL at g2
  split at g2
  · rename_i k xs eL
    split at g2
    · rename_i x0 eI
      cases v2
      have v1' := v1.mono e2.pre e2.same
      obtain ⟨pa, ws, rfl, q1, q2⟩ := asLL_at r2 v1' eL
      obtain ⟨xv, q3, q4⟩ := atI_of q2 eI
      obtain ⟨m3, d3, s3, e3, r3, v3, g3⟩ := Go.ok g2 r2 q4
      refine ⟨pa, ws, k, xv, rfl, rfl, q1, q3, m3, σd, s3, r3, hS.mono (e1.pre.trans (e2.pre.trans e3.pre)) (e1.same.trans (e2.same.trans e3.same)), (Go.bnd (rel := RV X.K) g3).imp fun y H4 ⟨m4, d4, s4, e4, r4, v4, g4⟩ => ?_⟩
      refine ⟨m4, d3, d4, s4, r4, v3.mono e4.pre e4.same, v4, (Go.bnd (rel := RV X.K) g4).nox.imp fun z H5 ⟨m5, d5, s5, e5, r5, v5, g5⟩ => ?_⟩
      have ee := e3.trans (e4.trans e5)
      obtain ⟨m6, dd, s6, e6, r6, ⟨w1, w2, w3⟩, g6⟩ := Go.ok (a := (d, D.int k, d5)) (b := (V.ref pa, V.int k, z)) g5 r5 ⟨v1'.mono ee.pre ee.same, .int k, v5⟩
      split at g6
      · rename_i s7 q
        unfold dSetL at q
        split at q
        · rename_i k' n ys e7 e8
          split at q
          · rename_i j e9
            cases q
            rw [e7] at w2
            cases w2
            obtain ⟨a, us, ea, h1, h2, h3⟩ := lstAt_at r6 w1 e8
            obtain ⟨e10, r10⟩ := r6.put (ho := .lst (us.set j z)) (o := .lst (ys.set j dd.2.2)) h1 fun e => ⟨_, upd_same, (h3.set w3 j).mono e.pre e.same⟩
            exact ⟨a, us, _, j, ea, rfl, h2, by rw [h3.length]; exact e9, GoS.at (fl := .nx) (g6.ext e10) r10 ((hS.mono e6.pre e6.same).mono e10.pre e10.same)⟩
          · cases q
        · cases q
      · exact g6.elim
    · exact g2.elim
  · exact g2.elim
end
end RQ

namespace RQ
open PySem PySem.Spec PyProof.Rows L2
section
variable {X : Cx} {W : WX} {pos : Pos} {a b : Expr} {f g : EV → M D}
/-! ### dicts that never change -/
theorem ie_dic0 : IE X W (.Dict [] [] pos) (cst (.dic [])) := by
  refine ⟨pe_mono pe_dnewK fun σ H Q ⟨m, σd, s, hR, hS, hG⟩ => ?_⟩
  intro p hp
  obtain ⟨e, r, hh⟩ := hR.newF (o := .dK []) hp
  exact hG _ m _ e r (.dic (kws := []) (.inl hh) rfl .nil)
def toKey : D → Option Key
  | .int i => some (.inl i)
  | .str x => some (.inr x)
  | _ => none
theorem toKey_v {K : PySem.W.Frag} {m : MM} {G : Hp} {d : D} {v : V} {k : Key} (h : RV K m G d v) (e : toKey d = some k) : v = kV k := by
  unfold toKey at e
  split at e
  · cases e; cases h; rfl
  · cases e; cases h; rfl
  · cases e
def mDic1 (f g : EV → M D) : EV → M D := fun σ => nox (bnd (f σ) fun x => bnd (g σ) fun y => match toKey x with | some k => ret (.dic [(k, y)]) | none => bad)
theorem ie_dic1 (ha : IE X W a f) (hb : IE X W b g) : IE X W (.Dict [some a] [b] pos) (mDic1 f g) := by
  refine ⟨pe_mono (pe_disp (keys := [some a]) (values := [b]) (pps_cons ha.pe hb.pe pps_nil) (by rfl) (by rfl) (fun z => nomatch z) (by show 1 ≤ 15; decide)) fun σ H Q ⟨m, σd, s, hR, hS, hG⟩ => ?_⟩
  intro p hp
  obtain ⟨r0, sm0⟩ := hR.cover (ho := .dK []) hp
  have hpx : p ∉ m.ex := fun z => hR.fresh hp (.inr z)
  have px : m.ix <+: (m.cover p).ix := List.prefix_rfl
  have ex0 : ∀ c ∈ m.ex, upd H p (.dK []) c = H c := fun c hc => upd_ne fun z => hpx (z ▸ hc)
  unfold mDic1 RQ.nox RQ.bnd Res.bnd at hG
  refine ⟨m.cover p, σd, s, r0, hS.mono px sm0, ?_⟩
  cases e1 : f σd s with
  | bad => rw [e1] at hG; exact hG.elim
  | exc c fs s1 => rw [e1] at hG; exact hG.elim
  | ok x s1 =>
    rw [e1] at hG
    intro v m1 H1 ee1 r1 v1
    refine ⟨m1, σd, s1, r1, (hS.mono px sm0).mono ee1.pre ee1.same, ?_⟩
    cases e2 : g σd s1 with
    | bad => simp only [e2] at hG; exact hG.elim
    | exc c fs s2 => simp only [e2] at hG; exact hG.elim
    | ok y s2 =>
      simp only [e2] at hG
      intro u m2 H2 ee2 r2 v2
      cases e3 : toKey x with
      | none => simp only [e3] at hG; exact hG.elim
      | some k =>
        simp only [e3] at hG
        have ee := ee1.trans ee2
        have hv := toKey_v v1 e3
        subst hv
        obtain ⟨ix2, ex2⟩ := m2
        have hex : ex2 = p :: m.ex := ee.exq
        subst hex
        have hp2 : H2 p = some (.dK []) := (ee.keep p List.mem_cons_self).trans upd_same
        refine ⟨hp2, [(k, u)], rfl, by show 1 ≤ 15; decide, ?_⟩
        have hpm : p ∈ (⟨ix2, p :: m.ex⟩ : MM).ex := List.mem_cons_self
        obtain ⟨r3, sm3⟩ := r2.exput (ho := .dK (mergeK [] [(k, u)])) hpm
        obtain ⟨r4, sm4, h4⟩ := r3.uncover upd_same hpx
        have e5 : Ext m H ⟨ix2, m.ex⟩ (upd H2 p (.dK (mergeK [] [(k, u)]))) :=
          ⟨ee.pre, sm0.trans (ee.same.trans (sm3.trans sm4)), rfl, fun c hc => by
            have nc : c ≠ p := fun z => hpx (z ▸ hc)
            rw [upd_ne nc]
            exact (ee.keep c (List.mem_cons_of_mem _ hc)).trans (ex0 c hc)⟩
        have px2 : (⟨ix2, p :: m.ex⟩ : MM).ix <+: (⟨ix2, m.ex⟩ : MM).ix := List.prefix_rfl
        exact hG _ _ _ e5 r4 (.dic (kws := [(k, u)]) (.inl h4) rfl (.cons (v2.mono px2 (sm3.trans sm4)) .nil))
end
end RQ

namespace RQ
open PySem PySem.Spec PyProof.Rows L2
theorem bt_len : bootBuiltins "len" = some (.builtin "len") := by decide +kernel
theorem bt_abs : bootBuiltins "abs" = some (.builtin "abs") := by decide +kernel
theorem bt_max : bootBuiltins "max" = some (.builtin "max") := by decide +kernel
theorem bt_min : bootBuiltins "min" = some (.builtin "min") := by decide +kernel
theorem bt_all : bootBuiltins "all" = some (.builtin "all") := by decide +kernel
theorem bt_any : bootBuiltins "any" = some (.builtin "any") := by decide +kernel
theorem bt_sum : bootBuiltins "sum" = some (.builtin "sum") := by decide +kernel
theorem bt_repr : bootBuiltins "repr" = some (.builtin "repr") := by decide +kernel
theorem bt_isinstance : bootBuiltins "isinstance" = some (.builtin "isinstance") := by decide +kernel
theorem bt_sorted : bootBuiltins "sorted" = some (.builtin "sorted") := by decide +kernel
theorem bt_divmod : bootBuiltins "divmod" = some (.builtin "divmod") := by decide +kernel
theorem bt_int : bootBuiltins "int" = some (.type "int") := by decide +kernel
theorem bt_bool : bootBuiltins "bool" = some (.type "bool") := by decide +kernel
theorem bt_str : bootBuiltins "str" = some (.type "str") := by decide +kernel
theorem bt_list : bootBuiltins "list" = some (.type "list") := by decide +kernel
theorem bt_tuple : bootBuiltins "tuple" = some (.type "tuple") := by decide +kernel
theorem bt_dict : bootBuiltins "dict" = some (.type "dict") := by decide +kernel
/-- the most turns of a while -/
def big : Nat := 1000000000
section
variable {X : Cx} {W : WX} {pos : Pos}
theorem iv (i : Nat) {x : Str} (hN : X.N[i]? = some x := by rfl) (hv : Vis X.env.scope x := by first | exact .inl rfl | exact .inr (.inl rfl) | exact .inr (.inr rfl)) (hd : (x == ("__debug__" : Str)) = false := by decide) (hcd : (x == ("__classdict__" : Str)) = false := by decide) :
    IE X W (.Name x pos) (vGet i) := ie_var hN hv hd hcd
end
end RQ

namespace RQ
open PySem PySem.Spec PyProof.Rows L2
/-- the law's def, called with the script -/
theorem law_i {P : Program} {w : World} {K : PySem.W.Frag} {mg mb : Str → Option Value} {k : Nat} {fa l : Addr} {fd : FuncData} {x : Str} {F : List D → M D} {t : Shared} {vs : List Value} {ns : List Int}
    (KX : K.In t.heap) (gn : t.heap.Ns mainGlobals mg) (bn : t.heap.Ns builtinsNs mb) (bb : ∀ y : Str, y ≠ "__name__" → mb y = bootBuiltins y) (nl : t.heap.NoLimit) (gs : t.gens = #[])
    (hl : t.heap.get? l = some { cls := .type "list", data := .seq vs.toArray }) (hi : IntsAre vs ns) (hz : ns.length ≤ sizeLine) (hr : Room k callerA)
    (G : ∀ base : Heap, FnI P w K mg base k fa fd [x] F) (bd : ∀ (s : Shared) (u : Value), BindsTo s fd ⟨[u], []⟩ [(x, u)])
    (hF : ∃ s', F [.sls (ns.map D.int)] [] = .ok (.bl true) s') :
    codeAny (model P w) callerA (.call (.ref fa) ⟨[.ref l], []⟩) (fun r t' => r = .ok (.ret (.bool true)) ∧ OldK t.heap t'.heap ∧ t'.os = t.os ∧ AllBare t'.gens) t := by
  obtain ⟨s', hF⟩ := hF
  have vi := vals_ints hi
  -- what is tracked: the script, if it is no object of the module
  obtain ⟨H, hO, hS, hok, hA, hK⟩ : ∃ H : Hp, Only H ∧ SqL K H l (ns.map V.int) ∧ HOk P w H t.heap ∧ (∀ b u, H b = some u → b = l) ∧ (∀ u, H l = some u → K.lookup l = none) := by
    cases q : K.lookup l with
    | some o =>
      have e := KX l o q
      rw [hl] at e
      cases e
      exact ⟨fun _ => none, fun _ => .inl rfl, .inr ⟨_, vs.toArray, _, q, rfl, rfl, rfl, by rw [List.size_toArray, hi.length]; exact hz, by simpa using vi⟩, fun _ _ z => (nomatch z), fun _ _ z => (nomatch z), fun _ z => (nomatch z)⟩
    | none =>
      refine ⟨fun b => if b = l then some (.frz { cls := .type "list", data := .seq vs.toArray } (.lst (ns.map V.int))) else none, fun b => ?_, .inl (.inr ⟨_, if_pos rfl⟩), fun b u z => ?_, fun b u z => ?_, fun _ _ => rfl⟩
      · by_cases e : b = l
        · exact .inr ⟨_, _, if_pos e⟩
        · exact .inl (if_neg e)
      · by_cases e : b = l
        · subst e
          have z := (if_pos rfl).symm.trans z
          cases z
          exact ⟨hl, by rw [List.length_map]; exact hz, vs, _, vi, hl⟩
        · have z := (if_neg e).symm.trans z; cases z
      · by_cases e : b = l
        · exact e
        · have z := (if_neg e).symm.trans z; cases z
  have free : ∀ {b : Addr} {o : Obj} {es : Array DictEntry} {n : Nat}, t.heap.get? b = some o → o.data = .dict es n → H b = none := fun {b o es n} e d => by
    cases q : H b with
    | none => rfl
    | some u =>
      have eb := hA b u q
      subst eb
      rw [hl] at e
      cases e
      exact (nomatch d)
  have nsH : ∀ {b : Addr} {f : Str → Option Value}, t.heap.Ns b f → (hidT t.heap H).Ns b f := fun {b f} ⟨o, es, n, e, d, r⟩ => ⟨o, es, n, hidT_get e (free e d), d, r⟩
  have KB : K.In (hidT t.heap H) := fun b o e => hidT_get (KX b o e) (by
    cases q : H b with
    | none => rfl
    | some u =>
      have eb := hA b u q
      subst eb
      rw [hK u q] at e; cases e)
  have md : Mod K mg (hidT t.heap H) := ⟨KB, nsH gn, ⟨mb, nsH bn, bb⟩, let ⟨mc, h1, h2⟩ := nl; ⟨mc, nsH h1, h2⟩⟩
  have en : Env0 P w K mg (hidT t.heap H) callerA [] t H := ⟨rfl, md, fun _ _ e => of_hidT e, Nat.le_of_eq (hidT_size _ _), True.intro, fun _ z => (nomatch z), hok, .of_eq gs⟩
  have m0 : R K mg ⟨[], []⟩ [] H := ⟨rfl, List.nodup_nil, fun n a o e => (by simp at e), fun a z => (nomatch z), fun c C e => PySem.W.mg_of KX gn e⟩
  have h0 : hid ⟨[], []⟩ H = H := by
    funext b
    exact if_neg fun z => z.elim (fun y => nomatch y) fun y => nomatch y
  have rs : RVs K ⟨[], []⟩ (hid ⟨[], []⟩ H) [.sls (ns.map D.int)] [.ref l] := .cons (.sls (by rw [h0]; exact hS) (RVs.map_int ns)) .nil
  refine codeAny_mono ((G (hidT t.heap H)).run callerA [] t H ⟨[.ref l], []⟩ [.ref l] [.ref l] _ ⟨[], []⟩ [] (fun v _ => v = .bl true) (fun _ _ _ => False) hr rfl en (bd t (.ref l)) (.cons rfl .nil) rfl m0 rs ?_) fun r t' hq => ?_
  · rw [hF]
    intro v m' H' _ _ rv
    cases rv
    rfl
  · cases r with
    | error e => obtain ⟨_, _, _, _, _, _, _, _, _, _, _, _, z⟩ := hq; exact z.elim
    | ok fl =>
      cases fl with
      | next => exact hq.elim
      | brk => exact hq.elim
      | cont => exact hq.elim
      | ret u =>
        obtain ⟨v, H', os, bare, un, hok', ru, rfl⟩ := hq
        cases (show u = Value.bool true from ru)
        refine ⟨rfl, OldK.of_keep fun b o e => ?_, os, bare⟩
        rcases hO b with z | ⟨ob, xs, z⟩
        · exact un.keep b o e z (fun y => nomatch y) (fun y => nomatch y)
        · obtain ⟨e1, _⟩ := hok b _ z
          obtain ⟨e2, _⟩ := hok' b _ (un.frzs b ob _ z)
          rw [e1] at e
          cases e
          exact e2
/-- the goal that the head leaves -/
theorem walk_i {l : PySem.W.OpenLaw} {n k : Nat} {q : Program} {loose : List Str} {XP : (Str → Option Value) → Heap → Prop} {YP : World → Heap → Prop} {d : DefRec} {K : Params → PySem.W.Frag} {x : Str} {F : List D → M D}
    (hn : l.most = some n) (hn2 : n ≤ sizeLine) (hdf : d.params.defaults = []) (hr : Room k callerA) (hY : ∀ (w : World) (h : Heap), YP w h → (K w.params).In h)
    (G : ∀ (w : World) (mg : Str → Option Value) (fa : Addr) (h : Heap), (K w.params).In h → h.Ns mainGlobals mg → mg d.name = some (.ref fa) →
      ∃ fd : FuncData, (∀ (s : Shared) (u : Value), BindsTo s fd ⟨[u], []⟩ [(x, u)]) ∧ ∀ base : Heap, FnI l.prog w (K w.params) mg base k fa fd [x] F)
    (hF : ∀ ns : List Int, ns.length ≤ n → ∃ s', F [.sls (ns.map D.int)] [] = .ok (.bl true) s') :
    PySem.W.WalkO q loose XP YP l.row.toRowW d [] (fun f vs => PySem.call f vs) := by
  refine Att.attach_call hn hdf fun w s0 t mg mb fa o pm cd doc a vs ns GG Y _ _ _ hmg ho hi hlen hg => ?_
  obtain ⟨fd, bd, hG⟩ := G w mg fa _ (hY w _ Y) GG.T.g hmg
  exact law_i (hY w _ Y) GG.T.g GG.T.b GG.T.builtins GG.T.nolimit hg ho hi (Nat.le_trans hlen hn2) hr hG bd (hF ns hlen)
end RQ

/-! == and != of lists and tuples in which dicts without items may stand -/
namespace RQ
open PySem PySem.Spec PyProof.Rows L2
def seqD (s : Sto) : D → Option (Bool × List D)
  | .tup xs => some (false, xs)
  | d => (asLL s d).map fun xs => (true, xs)
def isE : D → Bool
  | .dic [] => true
  | _ => false
def allE (E : D → D → Option Bool) : List D → List D → Option Bool
  | x :: xs, y :: ys => match E x y, allE E xs ys with | some a, some b => some (a && b) | _, _ => none
  | _, _ => some true
def seqE (E : D → D → Option Bool) (s : Sto) (x y : D) : Option Bool := match seqD s x, seqD s y with
  | some (true, xs), some (true, ys) => if xs.length = ys.length then allE E xs ys else some false
  | some (false, xs), some (false, ys) => if xs.length = ys.length then allE E xs ys else none
  | _, _ => none
def eqF (s : Sto) : Nat → D → D → Option Bool
  | 0 => fun _ _ => none
  | n + 1 => fun x y => match dEqB s x y with
    | some b => some b
    | none => if isE x = true ∧ isE y = true then some true else seqE (eqF s n) s x y
theorem allE_spec {E : D → D → Option Bool} : ∀ {xs ys : List D} {b : Bool}, xs.length = ys.length → allE E xs ys = some b →
    ∃ e : Nat → Bool, (∀ (j : Nat) (x y : D), xs[j]? = some x → ys[j]? = some y → E x y = some (e j)) ∧ (List.range xs.length).all e = b
  | [], [], b, _, h => by cases h; exact ⟨fun _ => true, fun j x y h => by simp at h, rfl⟩
  | x :: xs, y :: ys, b, hl, h => by
    unfold allE at h
    split at h
    · rename_i a c h1 h2
      cases h
      obtain ⟨e, he, hb⟩ := allE_spec (by simpa using hl) h2
      refine ⟨fun j => match j with | 0 => a | j + 1 => e j, fun j x' y' hx hy => ?_, ?_⟩
      · cases j with
        | zero => simp at hx hy; subst hx; subst hy; exact h1
        | succ j => exact he j x' y' (by simpa using hx) (by simpa using hy)
      · rw [List.length_cons, List.range_succ_eq_map, List.all_cons, List.all_map]
        rw [← hb]; rfl
    · cases h
theorem seqD_at {K : PySem.W.Frag} {mg : Str → Option Value} {m : MM} {s : Sto} {H : Hp} {x : D} {v : V} {k : Bool} {xs : List D} (hR : R K mg m s H) (r : RV K m (hid m H) x v) (h : seqD s x = some (k, xs)) :
    ∃ a vs, v = .ref a ∧ (if k = true then SqL K H a vs else SqT K H a vs) ∧ RVs K m (hid m H) xs vs := by
  unfold seqD at h
  split at h
  · cases h
    obtain ⟨a, vs, e, h1, h2⟩ := tup_at r
    exact ⟨a, vs, e, by simpa using h1, h2⟩
  · cases e : asLL s x with
    | none => rw [e] at h; cases h
    | some ys =>
      rw [e] at h; cases h
      obtain ⟨a, vs, e', h1, h2⟩ := asLL_at hR r e
      exact ⟨a, vs, e', by simpa using h1, h2⟩
theorem vals_at {vs : List V} {is : List Value} (r : Vals vs is) (j : Nat) (h : j < is.length) : ∃ v, vs[j]? = some v ∧ RelV v is[j] := by
  have hj : j < vs.length := by rw [r.length]; exact h
  obtain ⟨u, h1, h2⟩ := r.get (List.getElem?_eq_getElem hj)
  rw [List.getElem?_eq_getElem h] at h1
  cases h1
  exact ⟨vs[j], List.getElem?_eq_getElem hj, h2⟩
section
variable {X : Cx} {pins : List (Addr × Obj)} {σ : SV} {H : Hp} {sh : Shared} {m : MM} {s : Sto}
/-- items: from == of each to the items at one place -/
theorem items_at {n : Nat} {A : Around} (ih : ∀ (x y : D) (v u : V) (v' u' : Value) (b : Bool), RV X.K m (hid m H) x v → RV X.K m (hid m H) y u → RelV v v' → RelV u u' → eqF s n x y = some b → SeqAt.EqAt A sh v' u' b)
    {xs ys : List D} {vs us : List V} {is js : List Value} {e : Nat → Bool} (rx : RVs X.K m (hid m H) xs vs) (ry : RVs X.K m (hid m H) ys us) (ri : Vals vs is) (rj : Vals us js)
    (he : ∀ (j : Nat) (x y : D), xs[j]? = some x → ys[j]? = some y → eqF s n x y = some (e j)) (j : Nat) (h1 : j < is.length) (h2 : j < js.length) : SeqAt.EqAt A sh is[j] js[j] (e j) := by
  obtain ⟨v, hv, q1⟩ := vals_at ri j h1
  obtain ⟨u, hu, q2⟩ := vals_at rj j h2
  obtain ⟨x, hx, r1⟩ := rx.get' hv
  obtain ⟨y, hy, r2⟩ := ry.get' hu
  exact ih x y v u _ _ _ r1 r2 q1 q2 (he j x y hx hy)
theorem data_of {x : D} {v : V} {v' : Value} {p : PyData} (I : Inv X pins σ H sh) (hR : R X.K X.mg m s H) (r : RV X.K m (hid m H) x v) (rv : RelV v v') (h : dat s x = some p) : (∃ as, Reads sh.heap v' p as) ∧ p.depth ≤ 12 := by
  obtain ⟨h1, h2⟩ := dp_of hR 12 x v p r h
  exact ⟨Dp.reads I p v v' h1 rv, h2⟩
theorem eqB_same {x y : D} {v : V} {v' : Value} {b : Bool} (I : Inv X pins σ H sh) (hR : R X.K X.mg m s H) (rx : RV X.K m (hid m H) x v) (ry : RV X.K m (hid m H) y v) (rv : RelV v v') (h : dEqB s x y = some b) : b = true := by
  unfold dEqB at h
  split at h
  · rename_i b' e
    cases h
    unfold sEq at e
    split at e
    · cases e; cases rx; cases ry; exact beq_self_eq_true _
    · cases e; cases rx; cases ry; exact beq_self_eq_true _
    · cases e; cases rx; cases ry; exact beq_self_eq_true _
    · cases e
  · split at h
    · rename_i p q e1 e2
      split at h
      · rename_i hc
        cases h
        obtain ⟨⟨as, h1⟩, _⟩ := data_of I hR rx rv e1
        obtain ⟨⟨bs, h2⟩, _⟩ := data_of I hR ry rv e2
        have e := SeqAt.Reads.unique p q _ _ _ hc.1 h1 h2
        subst e
        exact SeqAt.eqv_refl p hc.1
      · cases h
    · cases h
theorem eqF_same (I : Inv X pins σ H sh) (hR : R X.K X.mg m s H) : ∀ (n : Nat) (x y : D) (v : V) (v' : Value) (b : Bool), RV X.K m (hid m H) x v → RV X.K m (hid m H) y v → RelV v v' → eqF s n x y = some b → b = true
  | 0, _, _, _, _, _, _, _, _, h => by cases h
  | n + 1, x, y, v, v', b, rx, ry, rv, h => by
    unfold eqF at h
    split at h
    · rename_i e
      cases h
      exact eqB_same I hR rx ry rv e
    · split at h
      · cases h; rfl
      · have all : ∀ (xs ys : List D) (vs : List V) (is : List Value) (c : Bool), xs.length = ys.length → RVs X.K m (hid m H) xs vs → RVs X.K m (hid m H) ys vs → Vals vs is → allE (eqF s n) xs ys = some c → c = true := by
          intro xs ys vs is c hl q1 q2 q3 q4
          obtain ⟨e, he, hb⟩ := allE_spec hl q4
          rw [← hb, List.all_eq_true]
          intro j hj
          rw [List.mem_range] at hj
          have hx := List.getElem?_eq_getElem hj
          have hy := List.getElem?_eq_getElem (show j < ys.length by omega)
          obtain ⟨v1, g1, g2⟩ := q1.get hx
          obtain ⟨v2, g3, g4⟩ := q2.get hy
          rw [g1] at g3; cases g3
          obtain ⟨w, g5, g6⟩ := q3.get g1
          exact eqF_same I hR n _ _ _ _ _ g2 g4 g6 (he j _ _ hx hy)
        unfold seqE at h
        split at h
        · rename_i xs ys e1 e2
          split at h
          · rename_i hl
            obtain ⟨a, vs, rfl, h1, h2⟩ := seqD_at hR rx e1
            obtain ⟨a', vs', e, h3, h4⟩ := seqD_at hR ry e2
            cases e
            simp only [if_true] at h1 h3
            have ev := I.list_inj h1 h3
            subst ev
            obtain ⟨is, r1, _, _⟩ := I.list h1
            exact all xs ys vs is _ hl h2 h4 r1 h
          · rename_i hl
            obtain ⟨a, vs, rfl, h1, h2⟩ := seqD_at hR rx e1
            obtain ⟨a', vs', e, h3, h4⟩ := seqD_at hR ry e2
            cases e
            simp only [if_true] at h1 h3
            have ev := I.list_inj h1 h3
            subst ev
            exact absurd (h2.length.symm.trans h4.length) hl
        · rename_i xs ys e1 e2
          split at h
          · rename_i hl
            obtain ⟨a, vs, rfl, h1, h2⟩ := seqD_at hR rx e1
            obtain ⟨a', vs', e, h3, h4⟩ := seqD_at hR ry e2
            cases e
            simp only [Bool.false_eq_true, if_false] at h1 h3
            have ev := I.tuple_inj h1 h3
            subst ev
            obtain ⟨is, r1, _, _⟩ := I.tuple h1
            exact all xs ys vs is _ hl h2 h4 r1 h
          · cases h
        · cases h
/-- a dict without items is so in any model -/
theorem dic0 {a : Addr} {v : V} {x : D} (I : Inv X pins σ H sh) (hx : RV X.K m (hid m H) x v) (h : isE x = true) : ∃ a, v = .ref a ∧ (a == sysModules) = false ∧ ∀ (P : Program) (w : World), sh.heap.DictOf (mixKind P w) a [] := by
  unfold isE at h
  split at h
  · cases hx with
    | @dic a kvs kws q1 q2 q3 =>
      have e : kws = [] := by cases kws with | nil => rfl | cons p ps => cases q2
      subst e
      refine ⟨a, rfl, ?_⟩
      have ho : ObjOk X.prog X.w H sh.heap a (.dK []) := Rd.ok (by
        rcases q1 with q | ⟨o, q⟩
        · exact .inl (hid_sub _ _ _ _ q)
        · exact .inr ⟨o, hid_sub _ _ _ _ q⟩) I.hok
      obtain ⟨_, y, va, ra, da⟩ := ho
      have ev : va = [] := by
        have hl := KV.length ra
        cases va with | nil => rfl | cons p ps => cases hl
      subst ev
      refine ⟨y, fun P w => ?_⟩
      obtain ⟨oa, es, ep, hoa, hc, hda, hka, hpa, hr⟩ := da
      have hes : es = #[] := by
        have hl := hpa.length
        simp at hl
        simpa using hl
      subst hes
      exact ⟨oa, #[], ep, hoa, hc, hda, (fun e he => by simp at he), .nil, hr⟩
  · cases h
theorem eqF_at (I : Inv X pins σ H sh) (hR : R X.K X.mg m s H) : ∀ (n : Nat) (A : Around), A.units + n + 13 < cLine → ∀ (x y : D) (v u : V) (v' u' : Value) (b : Bool), RV X.K m (hid m H) x v → RV X.K m (hid m H) y u → RelV v v' → RelV u u' →
    eqF s n x y = some b → SeqAt.EqAt A sh v' u' b
  | 0, _, _, _, _, _, _, _, _, _, _, _, _, _, h => by cases h
  | n + 1, A, hu, x, y, v, u, v', u', b, rx, ry, rv, ru, h => by
    have h' := h
    unfold eqF at h
    split at h
    · rename_i b' e
      cases h
      unfold dEqB at e
      split at e
      · rename_i b'' e
        cases e
        rename_i e _
        unfold sEq at e
        split at e
        · cases e; cases rx; cases ry; obtain ⟨t, rfl⟩ := rv; obtain ⟨t', rfl⟩ := ru; exact SeqAt.EqAt.int_int _ _ _ _
        · cases e; cases rx; cases ry; obtain ⟨t, rfl⟩ := rv; obtain ⟨t', rfl⟩ := ru; exact SeqAt.EqAt.str_str _ _ _ _
        · cases e; cases rx; cases ry; cases rv; cases ru; exact SeqAt.EqAt.bool_bool _ _
        · cases e
      · split at e
        · rename_i p q e1 e2
          split at e
          · rename_i hc
            cases e
            obtain ⟨⟨as, h1⟩, d1⟩ := data_of I hR rx rv e1
            obtain ⟨⟨bs, h2⟩, _⟩ := data_of I hR ry ru e2
            exact SeqAt.eqAt_reads p q A sh v' u' as bs h1 h2 hc.1 hc.2 (by omega)
          · cases e
        · cases e
    · split at h
      · rename_i he
        cases h
        obtain ⟨a, rfl, ya, da⟩ := dic0 (a := 0) I rx he.1
        obtain ⟨a', rfl, yb, db⟩ := dic0 (a := 0) I ry he.2
        cases rv; cases ru
        by_cases e : a = a'
        · subst e; exact SeqAt.EqAt.same _
        · refine SeqAt.EqAt.of_refs e fun prog w E Q hq => ?_
          exact PySem.W.rcP_dicts (knd := mixKind prog w) (r := true) ya yb (da prog w) (db prog w) (by omega) (fun _ => .nil) E Q hq
      · have ih := eqF_at I hR n A.in1 (by show A.units + 1 + n + 13 < cLine; omega)
        unfold seqE at h
        split at h
        · rename_i xs ys e1 e2
          obtain ⟨a, vs, rfl, h1, h2⟩ := seqD_at hR rx e1
          obtain ⟨a', us, rfl, h3, h4⟩ := seqD_at hR ry e2
          simp only [if_true] at h1 h3
          obtain ⟨is, r1, p1, _⟩ := I.list h1
          obtain ⟨js, r2, p2, _⟩ := I.list h3
          have z1 := r1.length; have z2 := r2.length; have z3 := h2.length; have z4 := h4.length
          by_cases ea : a = a'
          · subst ea
            have hb := eqF_same I hR (n + 1) x y _ v' b rx ry rv h'
            subst hb
            cases rv; cases ru
            exact SeqAt.EqAt.same _
          · cases rv; cases ru
            split at h
            · rename_i hl
              obtain ⟨e, he, hb⟩ := allE_spec hl h
              subst hb
              have key := SeqAt.RcAt.lists (A := A) (s := sh) (e := e) p1.isList p2.isList (by simp only [List.size_toArray]; omega) (by omega) (fun j j1 j2 => by
                have k := items_at ih h2 h4 r1 r2 he j (by simpa using j1) (by simpa using j2)
                simpa using k)
              have ez : is.toArray.size = xs.length := by simp only [List.size_toArray]; omega
              rw [ez] at key
              exact SeqAt.EqAt.of_refs ea key
            · rename_i hl
              cases h
              refine SeqAt.EqAt.of_refs ea (SeqAt.RcAt.lists_lengths p1.isList p2.isList ?_ (by omega))
              simp only [List.size_toArray, bne_iff_ne, ne_eq]
              omega
        · rename_i xs ys e1 e2
          obtain ⟨a, vs, rfl, h1, h2⟩ := seqD_at hR rx e1
          obtain ⟨a', us, rfl, h3, h4⟩ := seqD_at hR ry e2
          simp only [Bool.false_eq_true, if_false] at h1 h3
          obtain ⟨is, r1, p1, _⟩ := I.tuple h1
          obtain ⟨js, r2, p2, _⟩ := I.tuple h3
          have z1 := r1.length; have z2 := r2.length; have z3 := h2.length; have z4 := h4.length
          by_cases ea : a = a'
          · subst ea
            have hb := eqF_same I hR (n + 1) x y _ v' b rx ry rv h'
            subst hb
            cases rv; cases ru
            exact SeqAt.EqAt.same _
          · cases rv; cases ru
            split at h
            · rename_i hl
              obtain ⟨e, he, hb⟩ := allE_spec hl h
              subst hb
              have key := SeqAt.RcAt.tuples (A := A) (s := sh) (e := e) (show sh.heap.IsTuple _ _ from p1) (show sh.heap.IsTuple _ _ from p2) (by omega) (fun j j1 j2 => by
                have k := items_at ih h2 h4 r1 r2 he j (by simpa using j1) (by simpa using j2)
                simpa using k)
              have ez : is.toArray.size = xs.length := by simp only [List.size_toArray]; omega
              have ez2 : js.toArray.size = xs.length := by simp only [List.size_toArray]; omega
              rw [ez, ez2, Nat.min_self, beq_self_eq_true, Bool.and_true] at key
              exact SeqAt.EqAt.of_refs ea key
            · cases h
        · cases h
end
section
variable {X : Cx}
/-- two sequences -/
theorem seqE_at {pins : List (Addr × Obj)} {σ : SV} {H : Hp} {sh : Shared} {m : MM} {s : Sto} (I : Inv X pins σ H sh) (hR : R X.K X.mg m s H) {n : Nat} {A : Around} (hu : A.units + n + 14 < cLine) {x y : D} {v u : V} {v' u' : Value} {b : Bool}
    (rx : RV X.K m (hid m H) x v) (ry : RV X.K m (hid m H) y u) (rv : RelV v v') (ru : RelV u u') (h : seqE (eqF s n) s x y = some b) :
    SeqAt.RcAt A sh v' u' b ∧ SeqAt.RcNeAt A sh v' u' (!b) := by
  have ih := eqF_at I hR n A.in1 (by show A.units + 1 + n + 13 < cLine; omega)
  unfold seqE at h
  split at h
  · rename_i xs ys e1 e2
    obtain ⟨a, vs, rfl, h1, h2⟩ := seqD_at hR rx e1
    obtain ⟨a', us, rfl, h3, h4⟩ := seqD_at hR ry e2
    simp only [if_true] at h1 h3
    obtain ⟨is, r1, p1, _⟩ := I.list h1
    obtain ⟨js, r2, p2, _⟩ := I.list h3
    have z1 := r1.length; have z2 := r2.length; have z3 := h2.length; have z4 := h4.length
    cases rv; cases ru
    split at h
    · rename_i hl
      obtain ⟨e, he, hb⟩ := allE_spec hl h
      subst hb
      have ez : is.toArray.size = xs.length := by simp only [List.size_toArray]; omega
      have hs : is.toArray.size = js.toArray.size := by simp only [List.size_toArray]; omega
      have it : ∀ j (j1 : j < is.toArray.size) (j2 : j < js.toArray.size), SeqAt.EqAt A.in1 sh is.toArray[j] js.toArray[j] (e j) := fun j j1 j2 => by
        have k := items_at ih h2 h4 r1 r2 he j (by simpa using j1) (by simpa using j2)
        simpa using k
      have k1 := SeqAt.RcAt.lists (A := A) (s := sh) (e := e) p1.isList p2.isList hs (by omega) it
      have k2 := SeqAt.RcNeAt.lists (A := A) (s := sh) (e := e) p1.isList p2.isList hs (by omega) it
      rw [ez] at k1 k2
      exact ⟨k1, k2⟩
    · rename_i hl
      cases h
      have hs : (is.toArray.size != js.toArray.size) = true := by
        simp only [List.size_toArray, bne_iff_ne, ne_eq]
        omega
      exact ⟨SeqAt.RcAt.lists_lengths p1.isList p2.isList hs (by omega), SeqAt.RcNeAt.lists_lengths p1.isList p2.isList hs (by omega)⟩
  · rename_i xs ys e1 e2
    obtain ⟨a, vs, rfl, h1, h2⟩ := seqD_at hR rx e1
    obtain ⟨a', us, rfl, h3, h4⟩ := seqD_at hR ry e2
    simp only [Bool.false_eq_true, if_false] at h1 h3
    obtain ⟨is, r1, p1, _⟩ := I.tuple h1
    obtain ⟨js, r2, p2, _⟩ := I.tuple h3
    have z1 := r1.length; have z2 := r2.length; have z3 := h2.length; have z4 := h4.length
    cases rv; cases ru
    split at h
    · rename_i hl
      obtain ⟨e, he, hb⟩ := allE_spec hl h
      subst hb
      have ez : is.toArray.size = xs.length := by simp only [List.size_toArray]; omega
      have ez2 : js.toArray.size = xs.length := by simp only [List.size_toArray]; omega
      have it : ∀ j (j1 : j < is.toArray.size) (j2 : j < js.toArray.size), SeqAt.EqAt A.in1 sh is.toArray[j] js.toArray[j] (e j) := fun j j1 j2 => by
        have k := items_at ih h2 h4 r1 r2 he j (by simpa using j1) (by simpa using j2)
        simpa using k
      have k1 := SeqAt.RcAt.tuples (A := A) (s := sh) (e := e) (show sh.heap.IsTuple _ _ from p1) (show sh.heap.IsTuple _ _ from p2) (by omega) it
      have k2 := SeqAt.RcNeAt.tuples (A := A) (s := sh) (e := e) (show sh.heap.IsTuple _ _ from p1) (show sh.heap.IsTuple _ _ from p2) (by omega) it
      rw [ez, ez2, Nat.min_self, beq_self_eq_true, Bool.and_true] at k1 k2
      exact ⟨k1, k2⟩
    · cases h
  · cases h
def eq2 (s : Sto) (x y : D) : Option Bool := match dEqB s x y with
  | some b => some b
  | none => seqE (eqF s 30) s x y
def dEq2 (x y : D) : M D := fun s => match eq2 s x y with | some b => .ok (.bl b) s | none => .bad
def dNe2 (x y : D) : M D := fun s => match eq2 s x y with | some b => .ok (.bl (!b)) s | none => .bad
theorem oi_eq2 (hu : X.A.units + 64 < cLine) : OpI X (compareOp .Eq) dEq2 := by
  intro pins sh σ H v u v' u' Q I rv ru ⟨m, x, y, s, hR, hx, hy, hg⟩
  unfold dEq2 eq2 at hg
  cases e : dEqB s x y with
  | some b =>
    rw [e] at hg
    exact oi_eq hu pins sh σ H v u v' u' Q I rv ru ⟨m, x, y, s, hR, hx, hy, by unfold dEq; rw [e]; exact hg⟩
  | none =>
    rw [e] at hg
    cases e2 : seqE (eqF s 30) s x y with
    | none => rw [e2] at hg; exact hg.elim
    | some b =>
      rw [e2] at hg
      exact (seqE_at I hR (A := X.A) (by omega) hx hy rv ru e2).1 X.prog X.w _ _ ⟨.bl b, H, I, rfl, hg.ok hR (.bl b)⟩
theorem oi_ne2 (hu : X.A.units + 64 < cLine) : OpI X (compareOp .NotEq) dNe2 := by
  intro pins sh σ H v u v' u' Q I rv ru ⟨m, x, y, s, hR, hx, hy, hg⟩
  unfold dNe2 eq2 at hg
  cases e : dEqB s x y with
  | some b =>
    rw [e] at hg
    exact oi_ne hu pins sh σ H v u v' u' Q I rv ru ⟨m, x, y, s, hR, hx, hy, by unfold dNe; rw [e]; exact hg⟩
  | none =>
    rw [e] at hg
    cases e2 : seqE (eqF s 30) s x y with
    | none => rw [e2] at hg; exact hg.elim
    | some b =>
      rw [e2] at hg
      exact (seqE_at I hR (A := X.A) (by omega) hx hy rv ru e2).2 X.prog X.w _ _ ⟨.bl (!b), H, I, rfl, hg.ok hR (.bl (!b))⟩
end
end RQ

namespace RQ
open PySem PySem.Spec PyProof.Rows L2
section
variable {X : Cx} {W : WX} {a b e : Expr} {f g : EV → M D} {pos : Pos}
/-! ### list(range(..)) -/
def kLR (k : List D → M D) (x : D) : M D := match x with
  | .int j => fun s => if 0 ≤ j ∧ j ≤ lim then k (rng 0 j) s else .bad
  | _ => bad
def mLR (k : List D → M D) (f : EV → M D) : EV → M D := fun σ => bnd (f σ) (kLR k)
/-- what makes a list of data: frozen or in the store -/
def MkL (k : List D → M D) : Prop := ∀ (W' : WX) (K : PySem.W.Frag) (mg : Str → Option Value) (σ : SV) (m : MM) (s : Sto) (H : Hp) (Q : VK) (ds : List D) (vs : List V) (p : Addr),
  R K mg m s H → RVs K m (hid m H) ds vs → H p = none → Go W' K mg σ (RV K) m H (k ds s) Q → Q (.ref p) (upd H p (.lst vs))
theorem mkl_F : MkL kF := fun _ _ _ _ _ _ _ _ _ _ _ hR hv hp hG => Go.newL hR hv hp hG
theorem mkl_S : MkL kS := fun _ _ _ _ _ _ _ _ _ _ _ hR hv hp hG => Go.newLS hR hv hp hG
theorem rvs_rg {K : PySem.W.Frag} {m : MM} {G : Hp} (lo hi : Int) : RVs K m G (rng lo hi) (rgV lo hi) := by
  unfold rng rgV
  generalize List.range (hi - lo).toNat = l
  induction l with
  | nil => exact .nil
  | cons k l ih => exact .cons (.int _) ih
theorem ie_listRg {k : List D → M D} {p p2 pos2 : Pos} (hk : MkL k) (hc : X.calm = true) (hg : Gl X "list") (hm : X.mg "list" = none) (hg2 : Gl X "range") (hm2 : X.mg "range" = none) (ha : IE X W a f)
    (na : starEach [Expr.Call (.Name "range" p2) [a] [] pos2] X.env = (false, eval (Expr.Call (.Name "range" p2) [a] [] pos2) X.env) :: starEach [] X.env := by rfl) (nb : starEach [a] X.env = (false, eval a X.env) :: starEach [] X.env := by rfl) :
    IE X W (.Call (.Name "list" p) [.Call (.Name "range" p2) [a] [] pos2] [] pos) (mLR k f) := by
  refine ⟨pe_mono (pe_listRg hc hg hm (prg_1 hg2 hm2 ha.pe nb) na) fun σ H Q ⟨m, σd, s, hR, hS, hG⟩ => ?_⟩
  refine ⟨m, σd, s, hR, hS, (Go.bnd (rel := RV X.K) hG).imp fun x H1 ⟨m1, d, s1, e1, r1, v1, g1⟩ => ?_⟩
  unfold kLR at g1
  split at g1
  · rename_i j
    cases v1
    split at g1
    · rename_i hj
      have hj' : j ≤ 1000000 := hj.2
      exact ⟨j, rfl, RgOk.of_le (Int.le_refl 0) (by omega) (by decide) hj.1, fun q hq => hk _ _ _ _ _ _ _ _ _ _ _ r1 (rvs_rg 0 j) hq g1⟩
    · exact g1.elim
  · exact g1.elim
/-! ### list.remove of ints -/
theorem unI_map : ∀ {ds : List D} {ns : List Int}, allM unI ds = some ns → ds = ns.map D.int
  | [], ns, h => by cases h; rfl
  | d :: ds, ns, h => by
    unfold allM at h
    split at h
    · rename_i i js h1 h2
      cases h
      cases d <;> simp [unI] at h1
      subst h1
      rw [List.map_cons, ← unI_map h2]
    · cases h
def mRemove (x : D) (xs : List D) : M D := fun s => match xs, lstAt s x with
  | [.int k], some (n, ys) => (match allM unI ys with | some ns => if k ∈ ns then .ok .non (s.set n (.lst ((ns.erase k).map D.int))) else .bad | none => .bad)
  | _, _ => .bad
theorem rvs_ints {K : PySem.W.Frag} {m : MM} {G : Hp} : ∀ (ns : List Int), RVs K m G (ns.map D.int) (ns.map V.int)
  | [] => .nil
  | n :: ns => .cons (.int n) (rvs_ints ns)
theorem mi_remove : MtI X "list.remove" mRemove := by
  refine mt_mono (show MtR X "list.remove" rRemI from mt_remove) fun v vs H Q ⟨m, x, xs, s, hR, hx, hxs, hg⟩ => ?_
  unfold mRemove at hg
  split at hg
  · rename_i k n ys e
    split at hg
    · rename_i ns en
      split at hg
      · rename_i hk
        obtain ⟨u, rfl, q⟩ := rv1 hxs
        cases q
        obtain ⟨a, ws, rfl, h1, h2, h3⟩ := lstAt_at hR hx e
        have ey := unI_map en
        have ew : ws = ns.map V.int := h3.ints ey
        subst ew
        obtain ⟨j, j1, j2, j3, j4⟩ := first_at hk
        rw [← j4] at hg
        exact ⟨a, ns, k, j, rfl, rfl, h2, j2, j3, Go.putL hR h1 (rvs_ints _) (fun _ _ _ _ => .non) hg⟩
      · exact hg.elim
    · exact hg.elim
  · exact hg.elim
/-! ### sorted of pairs of ints -/
def toPr : D → Option (Int × Int)
  | .tup [.int i, .int j] => some (i, j)
  | _ => none
def ofPr (p : Int × Int) : D := .tup [.int p.1, .int p.2]
def leP (p q : Int × Int) : Bool := !SrtO.lexB q p
def srtP (ps : List (Int × Int)) : List (Int × Int) := ps.mergeSort leP
theorem leP_iff {p q : Int × Int} : leP p q = true ↔ p.1 < q.1 ∨ (p.1 = q.1 ∧ p.2 ≤ q.2) := by
  unfold leP
  rw [Bool.not_eq_true', SrtO.lexB_no]
  omega
theorem leP_tr (p q r : Int × Int) (h1 : leP p q = true) (h2 : leP q r = true) : leP p r = true := by
  rw [leP_iff] at *
  omega
theorem leP_tot (p q : Int × Int) : (leP p q || leP q p) = true := by
  rw [Bool.or_eq_true, leP_iff, leP_iff]
  omega
theorem leP_anti {p q : Int × Int} (h1 : leP p q = true) (h2 : leP q p = true) : p = q := by
  rw [leP_iff] at *
  exact Prod.ext (by omega) (by omega)
theorem srt_uniq : ∀ {l l' : List (Int × Int)}, l.Perm l' → l.Pairwise (fun p q => leP p q = true) → l'.Pairwise (fun p q => leP p q = true) → l = l'
  | [], l', h, _, _ => (List.Perm.eq_nil h.symm).symm
  | x :: l, [], h, _, _ => absurd h.length_eq (by simp)
  | x :: l, y :: l', h, h1, h2 => by
    have e : x = y := by
      rcases List.mem_cons.mp (h.mem_iff.mp (List.mem_cons_self (a := x) (l := l))) with e | e
      · exact e
      · rcases List.mem_cons.mp (h.mem_iff.mpr (List.mem_cons_self (a := y) (l := l'))) with e' | e'
        · exact e'.symm
        · exact leP_anti ((List.pairwise_cons.mp h1).1 y e') ((List.pairwise_cons.mp h2).1 x e)
    subst e
    rw [srt_uniq h.cons_inv (List.pairwise_cons.mp h1).2 (List.pairwise_cons.mp h2).2]
theorem srtP_of {l ps : List (Int × Int)} (h : l.Perm ps) (hs : l.Pairwise (fun p q => leP p q = true)) : l = srtP ps :=
  srt_uniq (h.trans (List.mergeSort_perm ps leP).symm) hs (List.pairwise_mergeSort leP_tr leP_tot ps)
def cSortP (k : List D → M D) (xs : List D) : M D := fun s => match xs with
  | [x] => (match asLL s x with
    | some ys => (match allM toPr ys with | some ps => if ps.length ≤ lim then k ((srtP ps).map ofPr) s else .bad | none => .bad)
    | none => .bad)
  | _ => .bad
theorem toPr_map : ∀ {ds : List D} {ps : List (Int × Int)}, allM toPr ds = some ps → ds = ps.map ofPr
  | [], ps, h => by cases h; rfl
  | d :: ds, ps, h => by
    unfold allM at h
    split at h
    · rename_i i js h1 h2
      cases h
      rw [List.map_cons, ← toPr_map h2]
      congr 1
      unfold toPr at h1
      split at h1
      · cases h1; rfl
      · cases h1
    · cases h
/-- sorted(xs) of pairs of ints, wherever they lie -/
theorem cr_srt : CallR X (.builtin "sorted") (fun vs H Q => ∃ (at' : Addr) (ys : List V) (kf : V → Int × Int), vs = [V.ref at'] ∧ SqL X.K H at' ys ∧ (∀ y ∈ ys, ∃ t, y = V.ref t ∧ SqT X.K H t [.int (kf y).1, .int (kf y).2]) ∧
    ∀ zs p, zs.Perm ys → zs.Pairwise (fun y z => leP (kf y) (kf z) = true) → H p = none → Q (.ref p) (upd H p (.lst zs))) := by
  rintro pins sh σ H vs us Q I hus ⟨at', ys, kf, rfl, hl, hall, hq⟩
  obtain ⟨is, hv, pl, hz⟩ := I.list hl
  obtain ⟨u, rfl, hu⟩ := vals1 hus
  cases (show u = Value.ref at' from hu)
  obtain ⟨q1, q2⟩ := refs_back hv fun y hy => (hall y hy).imp fun t h => h.1
  refine SrtO.sorted_pairsO (k := fun w => kf (backV w)) pl.isList (by rw [← hv.length]; exact hz) (fun w hw => ?_) fun h' d out o1 o2 kp hd hn => ?_
  · obtain ⟨t, rfl⟩ := q2 w hw
    have hm : V.ref t ∈ ys := q1 ▸ List.mem_map.mpr ⟨_, hw, rfl⟩
    obtain ⟨t', et, ht⟩ := hall _ hm
    cases et
    obtain ⟨js, jv, ⟨ob, g1, g2, nn, g3⟩, _⟩ := I.tuple ht
    obtain ⟨w1, w2, rfl, ⟨t1, rfl⟩, ⟨t2, rfl⟩⟩ := vals2 jv
    exact ⟨t, ob, t1, t2, nn, rfl, g1, g2, g3⟩
  · have all' : ∀ w ∈ out, ∃ t, w = Value.ref t := fun w hw => q2 w (o2.perm.mem_iff.mp hw)
    have st : SrtO.Stb (ltP kf) (out.map backV) ys := q1 ▸ SrtO.Stb.map (ltP_swo kf) backV o2
    obtain ⟨nn, hn⟩ := hn
    refine ⟨.ref d, upd H d (.lst (out.map backV)), I.laid (t' := sh.toks) kp hd ⟨by rw [st.len]; exact hz, out, nn, vals_back all', hn⟩, rfl, ?_⟩
    refine hq _ d st.perm ?_ (I.hok.fresh hd)
    have so : SrtO.Srtd (ltP kf) (out.map backV) := SrtO.srtd_map o1
    exact List.Pairwise.imp (fun {y z} h => by
      unfold leP
      rw [Bool.not_eq_true']
      exact h) so
theorem ci_sortP {k : List D → M D} (hk : MkL k) : CallI X (.builtin "sorted") (cSortP k) := by
  intro pins sh σ H vs us Q I hus ⟨m, xs, s, hR, hx, hg⟩
  refine cr_srt pins sh σ H vs us Q I hus ?_
  unfold cSortP at hg
  split at hg
  · rename_i x
    split at hg
    · rename_i ds ed
      split at hg
      · rename_i ps ep
        split at hg
        · rename_i hl
          obtain ⟨v, rfl, q⟩ := rv1 hx
          obtain ⟨a, ys, rfl, h1, h2⟩ := asLL_at hR q ed
          have ed' := toPr_map ep
          subst ed'
          have look : ∀ (ps : List (Int × Int)) (ys : List V), RVs X.K m (hid m H) (ps.map ofPr) ys → ∀ y ∈ ys, ∃ (t : Addr) (p : Int × Int), y = .ref t ∧ SqT X.K (hid m H) t [.int p.1, .int p.2] := by
            intro ps
            induction ps with
            | nil => intro ys r y hy; cases r; cases hy
            | cons p ps ih =>
              intro ys r y hy
              cases r with
              | cons r1 r2 =>
                rcases List.mem_cons.mp hy with e | e
                · subst e
                  cases r1 with
                  | tup w1 w2 =>
                    obtain ⟨v1, v2, rfl, c1, c2⟩ := rv2 w2
                    cases c1; cases c2
                    exact ⟨_, p, rfl, w1⟩
                · exact ih _ r2 y e
          have pick : ∀ y : V, ∃ p : Int × Int, (∃ (t : Addr) (q : Int × Int), y = V.ref t ∧ SqT X.K H t [.int q.1, .int q.2]) → ∃ t, y = V.ref t ∧ SqT X.K H t [.int p.1, .int p.2] := fun y => by
            by_cases h : ∃ (t : Addr) (q : Int × Int), y = V.ref t ∧ SqT X.K H t [.int q.1, .int q.2]
            · obtain ⟨t, q, h1, h2⟩ := h
              exact ⟨q, fun _ => ⟨t, h1, h2⟩⟩
            · exact ⟨(0, 0), fun z => absurd z h⟩
          let kf : V → Int × Int := fun y => Classical.choose (pick y)
          have kfs : ∀ y, (∃ (t : Addr) (q : Int × Int), y = V.ref t ∧ SqT X.K H t [.int q.1, .int q.2]) → ∃ t, y = V.ref t ∧ SqT X.K H t [.int (kf y).1, .int (kf y).2] := fun y => Classical.choose_spec (pick y)
          have hall : ∀ y ∈ ys, ∃ t, y = V.ref t ∧ SqT X.K H t [.int (kf y).1, .int (kf y).2] := fun y hy => by
            obtain ⟨t, p, e1, e2⟩ := look ps ys h2 y hy
            exact kfs y ⟨t, p, e1, sqt_mono (hid_sub _ _) e2⟩
          have same : ∀ (ps : List (Int × Int)) (ys : List V), RVs X.K m (hid m H) (ps.map ofPr) ys → ys.map kf = ps := by
            intro ps
            induction ps with
            | nil => intro ys r; cases r; rfl
            | cons p ps ih =>
              intro ys r
              cases r with
              | cons r1 r2 =>
                rw [List.map_cons, ih _ r2]
                congr 1
                cases r1 with
                | tup w1 w2 =>
                  obtain ⟨v1, v2, rfl, c1, c2⟩ := rv2 w2
                  cases c1; cases c2
                  have w1' := sqt_mono (hid_sub _ _) w1
                  obtain ⟨t, e1, e2⟩ := kfs _ ⟨_, p, rfl, w1'⟩
                  cases e1
                  have e3 := I.tuple_inj e2 w1'
                  simp only [List.cons.injEq, V.int.injEq, and_true] at e3
                  exact Prod.ext e3.1 e3.2
          have back : ∀ (zs : List V), (∀ z ∈ zs, z ∈ ys) → RVs X.K m (hid m H) ((zs.map kf).map ofPr) zs := by
            intro zs
            induction zs with
            | nil => intro _; exact .nil
            | cons z zs ih =>
              intro hz
              refine .cons ?_ (ih fun z' hz' => hz z' (List.mem_cons_of_mem _ hz'))
              obtain ⟨t, p, e1, e2⟩ := look ps ys h2 z (hz z List.mem_cons_self)
              subst e1
              obtain ⟨t', e3, e4⟩ := kfs _ ⟨t, p, rfl, sqt_mono (hid_sub _ _) e2⟩
              cases e3
              have e5 := I.tuple_inj e4 (sqt_mono (hid_sub _ _) e2)
              rw [← e5] at e2
              exact .tup e2 (.cons (.int _) (.cons (.int _) .nil))
          refine ⟨a, ys, kf, rfl, h1, hall, fun zs p hp hs hn => ?_⟩
          have e : zs.map kf = srtP ps := srtP_of (by rw [← same ps ys h2]; exact hp.map kf) (by rw [List.pairwise_map]; exact hs)
          refine hk _ _ _ _ _ _ _ _ _ _ p hR ?_ hn hg
          rw [← e]
          exact back zs fun z hz => hp.mem_iff.mp hz
        · exact hg.elim
      · exact hg.elim
    · exact hg.elim
  · exact hg.elim
end
end RQ

/-! own classes: instances are things of the store -/
namespace RQ
open PySem PySem.Spec PyProof.Rows L2

/-- a def called with positional values -/
def FnJ (P : Program) (w : World) (K : PySem.W.Frag) (mg : Str → Option Value) (base : Heap) (k : Nat) (f : Addr) (F : List D → M D) : Prop :=
  ∀ (A : Around) (outer : List Env) (s : Shared) (H : Hp) (us : List Value) (vs : List V) (ds : List D) (m : MM) (t : Sto) (Q : VK) (E : XK),
    Room k A → A.guards = some [] → Env0 P w K mg base A outer s H → Vals vs us → R K mg m t H → RVs K m (hid m H) ds vs → Go (WE E) K mg [] (RV K) m H (F ds t) Q →
    codeAny (model P w) A (.call (.ref f) ⟨us, []⟩) (CR (L2.CX P w) outer P w H s Q E) s
/-- the number of arguments looked at -/
def arN (n : Nat) (F : List D → M D) : List D → M D := fun xs s => if xs.length = n then F xs s else .bad
section
variable {P : Program} {w : World} {K : PySem.W.Frag} {mg : Str → Option Value} {base : Heap} {k : Nat} {f : Addr} {fd : FuncData} {ps : List Str} {F : List D → M D}
theorem FnI.j {n : Nat} (h : FnI P w K mg base k f fd ps F) (hb : Binds K fd ps []) (hn : ps.length = n := by rfl) : FnJ P w K mg base k f (arN n F) := by
  subst hn
  intro A outer s H us vs ds m t Q E hr hgd e0 rv hR hV hG
  unfold arN at hG
  split at hG
  · rename_i hl
    have KX : K.In s.heap := e0.mod.kin.keeps fun b o q => (e0.bs b o q).1
    have hv : vs.length = ps.length := hV.length.trans hl
    have b := hb s us KX (by rw [List.append_nil, ← rv.length]; exact hv)
    rw [List.append_nil] at b
    exact h.run A outer s H ⟨us, []⟩ us vs ds m t Q E hr hgd e0 b rv hv hR hV hG
  · exact hG.elim
theorem FnJ.mono {j : Nat} (h : FnJ P w K mg base j f F) (hj : j ≤ k) : FnJ P w K mg base k f F :=
  fun A outer s H us vs ds m t Q E hr => h A outer s H us vs ds m t Q E (hr.mono hj)
end
section
variable {X : Cx} {W : WX} {k : Nat} {f C : Addr} {F : List D → M D}
theorem Go.we {pins : List (Addr × Obj)} {σ : SV} {H : Hp} {Q : VK} {m : MM} {r : Res D} (hG : Go W X.K X.mg σ (RV X.K) m H r Q) : Go (WE fun c d H => W c d σ H) X.K X.mg [] (RV X.K) m H r Q := by
  cases r with
  | ok d s' => exact hG
  | exc c fs s' => exact hG
  | bad => exact hG
theorem callJ {pins : List (Addr × Obj)} {σ : SV} {H : Hp} {s : Shared} {Q : VK} {us : List Value} {vs : List V} {xs : List D} {m : MM} {t : Sto} (G : FnJ X.prog X.w X.K X.mg X.base k f F) (hr : Room k X.A) (hgd : X.A.guards = some []) (tk : Takes X W)
    (I : Inv X pins σ H s) (rv : Vals vs us) (hR : R X.K X.mg m t H) (hV : RVs X.K m (hid m H) xs vs) (hG : Go W X.K X.mg σ (RV X.K) m H (F xs t) Q) :
    wpAny (model X.prog X.w) X.A (call (.ref f) us) (EP X pins σ Q) X.xe s := by
  refine wpAny_call (codeAny_mono (G X.A X.stack s H us vs xs m t Q (fun c d H => W c d σ H) hr hgd I.env0 rv hR hV (Go.we (pins := pins) hG)) fun r s' hq => ?_)
  cases r with
  | error e => exact tk e s' (XE.of_call I (fun _ _ _ z => z) hq)
  | ok fl =>
    cases fl with
    | ret u => exact I.after hq
    | next => exact hq.elim
    | brk => exact hq.elim
    | cont => exact hq.elim
/-! ### C(..) -/
def mkR (n : Nat) (r : Res D) : Res D := match r with | .ok .non s => .ok (.ref n) s | .ok _ _ => .bad | .exc c fs s => .exc c fs s | .bad => .bad
def mMk (c : Str) (F : List D → M D) (xs : List D) : M D := fun s => mkR s.length (F (.ref s.length :: xs) (s ++ [.ins c []]))
theorem makeJ {c : Str} {pins : List (Addr × Obj)} {σ : SV} {H : Hp} {s : Shared} {Q : VK} {us : List Value} {vs : List V} {xs : List D} {m : MM} {t : Sto} (M : Mk X.K C f) (hm : PySem.W.nsIn X.K mainGlobals c = some (some (.ref C))) (G : FnJ X.prog X.w X.K X.mg X.base k f F) (hr : Room (k + 1) X.A) (hgd : X.A.guards = some []) (tk : Takes X W)
    (I : Inv X pins σ H s) (rv : Vals vs us) (hR : R X.K X.mg m t H) (hV : RVs X.K m (hid m H) xs vs) (hG : Go W X.K X.mg σ (RV X.K) m H (mMk c F xs t) Q) :
    wpAny (model X.prog X.w) X.A (call (.ref C) us) (EP X pins σ Q) X.xe s := by
  have I2 := Inv.made (C := C) I
  have n1 : H s.heap.objs.size = none := I.hok.fresh (Nat.le_refl _)
  have n2 : H (s.heap.objs.size + 1) = none := I.hok.fresh (Nat.le_succ _)
  have ne : s.heap.objs.size + 1 ≠ s.heap.objs.size := Nat.succ_ne_self _
  obtain ⟨e1, r1, _⟩ := hR.newF (o := .own (s.heap.objs.size + 1)) n1
  have n3 : upd H s.heap.objs.size (.own (s.heap.objs.size + 1)) (s.heap.objs.size + 1) = none := by rw [upd_ne ne]; exact n2
  obtain ⟨e2, r2⟩ := r1.newS (ho := .ins C s.heap.objs.size []) (o := .ins c []) n3 fun _ => ⟨C, s.heap.objs.size, [], hm, upd_same, rfl, .nil⟩
  have e3 := e1.trans e2
  have hx : (m.more (s.heap.objs.size + 1)).ix[t.length]? = some (s.heap.objs.size + 1) := by
    rw [← hR.len]
    show (m.ix ++ [s.heap.objs.size + 1])[m.ix.length]? = _
    simp
  have v2 : RVs X.K (m.more (s.heap.objs.size + 1)) (hid (m.more (s.heap.objs.size + 1)) (upd (upd H s.heap.objs.size (.own (s.heap.objs.size + 1))) (s.heap.objs.size + 1) (.ins C s.heap.objs.size []))) (.ref t.length :: xs) (.ref (s.heap.objs.size + 1) :: vs) :=
    .cons (.ref hx) (hV.mono e3.pre e3.same)
  have g2 : Go (WE fun c d H => W c d σ H) X.K X.mg [] (RV X.K) (m.more (s.heap.objs.size + 1)) (upd (upd H s.heap.objs.size (.own (s.heap.objs.size + 1))) (s.heap.objs.size + 1) (.ins C s.heap.objs.size []))
      (F (.ref t.length :: xs) (t ++ [.ins c []])) (fun v H2 => v = .non ∧ Q (.ref (s.heap.objs.size + 1)) H2) := by
    unfold mMk mkR at hG
    cases e : F (.ref t.length :: xs) (t ++ [.ins c []]) with
    | ok d s' =>
      rw [e] at hG
      intro b m' H' ee rr vv
      cases d with
      | non =>
        cases vv
        exact ⟨rfl, hG _ m' H' (e3.trans ee) rr (.ref (pre_get ee.pre hx))⟩
      | _ => exact hG.elim
    | exc c' fs s' =>
      rw [e] at hG
      exact XC.ext e3 hG
    | bad => rw [e] at hG; exact hG.elim
  refine wpAny_call (make_map (f := f) I.kIn M.makes M.init (beq_iff_eq.mp M.fn) (codeAny_mono (G _ X.stack _ _ (Value.ref (s.heap.objs.size + 1) :: us) _ _ _ _ _ (fun c d H => W c d σ H) (hr.make C us [])
    hgd (I2.env0.make C us []) (show Vals (V.ref (s.heap.objs.size + 1) :: vs) (Value.ref (s.heap.objs.size + 1) :: us) from .cons rfl rv) r2 v2 g2) fun r s' hq' => ?_))
  cases r with
  | error e => exact tk e s' (XE.of_call I2 (fun _ _ _ z => z) hq')
  | ok fl =>
    cases fl with
    | ret u =>
      obtain ⟨v, H', I3, rv', ev, q3⟩ := I2.after hq'
      subst ev
      exact ⟨rv', ⟨V.ref (s.heap.objs.size + 1), H', I3, rfl, q3⟩⟩
    | next => exact hq'.elim
    | brk => exact hq'.elim
    | cont => exact hq'.elim
variable {c x : Str} {p pos apos : Pos} {a o e : Expr} {es : List Expr} {fs : EV → M (List D)} {fo : EV → M D}
def mMkE (c : Str) (F : List D → M D) (fs : EV → M (List D)) : EV → M D := fun σ => bnd (fs σ) (mMk c F)
theorem ie_make (M : Mk X.K C f) (G : FnJ X.prog X.w X.K X.mg X.base k f F) (hr : Room (k + 1) X.A) (hgd : X.A.guards = some []) (tk : Takes X W) (hg : Gl X x) (hm : X.mg x = some (.ref C)) (hns : PySem.W.nsIn X.K mainGlobals x = some (some (.ref C)))
    (ha : IA X W (a :: es) fs) (hdb : (x == ("__debug__" : Str)) = false := by decide) (he : starEach (a :: es) X.env = (false, eval a X.env) :: starEach es X.env := by rfl) (hpl : (backTo pos (starEach es X.env)).any (·.1) = false := by rfl) :
    IE X W (.Call (.Name x p) (a :: es) [] pos) (mMkE x F fs) := by
  refine ⟨⟨fun pins s σ H Q I ⟨m, σd, t, hR, hS, hG⟩ => ?_⟩⟩
  exact wpAny_Call_Name_kw (ld_glob I hg hm (PySem.W.callWith_K (h₀ := X.base) I.ok.mod.kin M.kp (thn (ha.pa.run pos pins s σ H _ I ⟨m, σd, t, hR, hS, Go.bnd (rel := RVs X.K) hG⟩) fun us s1 ⟨vs, H1, I1, rv, m1, xs, s2, e1, r1, v1, g1⟩ => ⟨I1.kIn,
    makeJ M hns G hr hgd tk I1 rv r1 v1 g1⟩) he hpl) hdb)
theorem ie_make0 (M : Mk X.K C f) (G : FnJ X.prog X.w X.K X.mg X.base k f F) (hr : Room (k + 1) X.A) (hgd : X.A.guards = some []) (tk : Takes X W) (hg : Gl X x) (hm : X.mg x = some (.ref C)) (hns : PySem.W.nsIn X.K mainGlobals x = some (some (.ref C)))
    (hdb : (x == ("__debug__" : Str)) = false := by decide) : IE X W (.Call (.Name x p) [] [] pos) (fun _ => mMk x F []) := by
  refine ⟨⟨fun pins s σ H Q I ⟨m, σd, t, hR, hS, hG⟩ => ?_⟩⟩
  exact wpAny_Call_Name_kw (ld_glob I hg hm (PySem.W.callWith_K0 I.kIn M.kp (makeJ (us := []) (xs := []) M hns G hr hgd tk I .nil hR .nil hG)) hdb)
/-! ### fields -/
/-- what the text says of the classes whose instances have the field -/
def ClsF (X : Cx) (cs : List Str) (f : Str) : Prop := ∀ c ∈ cs, ∀ C, X.mg c = some (.ref C) → Cls X.K C ∧ NoAttr X.K C f
def insAt (s : Sto) : D → Option (Nat × Str × List (Str × D))
  | .ref n => match s[n]? with | some (.ins c fs) => some (n, c, fs) | _ => none
  | _ => none
theorem insAt_at {K : PySem.W.Frag} {mg : Str → Option Value} {m : MM} {s : Sto} {H : Hp} {x : D} {v : V} {n : Nat} {c : Str} {fs : List (Str × D)} (hR : R K mg m s H) (r : RV K m (hid m H) x v) (h : insAt s x = some (n, c, fs)) :
    ∃ a C dx gs, v = .ref a ∧ m.ix[n]? = some a ∧ s[n]? = some (.ins c fs) ∧ PySem.W.nsIn K mainGlobals c = some (some (.ref C)) ∧ mg c = some (.ref C) ∧ H a = some (.ins C dx gs) ∧ gs.map (·.1) = fs.map (·.1) ∧ RVs K m (hid m H) (fs.map (·.2)) (gs.map (·.2)) := by
  unfold insAt at h
  split at h
  · split at h
    · rename_i e
      cases h
      cases r with
      | ref q =>
        obtain ⟨C, dx, gs, h1, h2, h3, h4⟩ := hR.obj _ _ _ q e
        exact ⟨_, C, dx, gs, rfl, q, e, h1, hR.ns _ _ h1, h2, h3, h4⟩
    · cases h
  · cases h
theorem look_at {K : PySem.W.Frag} {m : MM} {G : Hp} {f : Str} : ∀ {fs : List (Str × D)} {gs : List (Str × V)}, gs.map (·.1) = fs.map (·.1) → RVs K m G (fs.map (·.2)) (gs.map (·.2)) →
    (∀ d, fs.lookup f = some d → ∃ v, gs.lookup f = some v ∧ RV K m G d v) ∧ (fs.lookup f = none → gs.lookup f = none)
  | [], [], _, _ => ⟨fun d h => by simp at h, fun _ => rfl⟩
  | (f1, d1) :: fs, (f2, v2) :: gs, e, r => by
    simp only [List.map_cons, List.cons.injEq] at e
    cases r with
    | cons r1 r2 =>
      obtain ⟨e1, e2⟩ := e
      have ih := look_at (f := f) e2 r2
      have e1' : f2 = f1 := e1
      subst e1'
      simp only [List.lookup_cons]
      cases hq : f == f2 with
      | true => exact ⟨fun d h => ⟨v2, rfl, by cases h; exact r1⟩, fun h => by cases h⟩
      | false => exact ih
/-- an instance, by its data: in the store, or one that stays -/
def insV (s : Sto) : D → Option (Str × List (Str × D))
  | .ref n => match s[n]? with | some (.ins c fs) => some (c, fs) | _ => none
  | .ins c fs => some (c, fs)
  | _ => none
theorem insV_at {K : PySem.W.Frag} {mg : Str → Option Value} {m : MM} {s : Sto} {H : Hp} {x : D} {v : V} {c : Str} {fs : List (Str × D)} (hR : R K mg m s H) (r : RV K m (hid m H) x v) (h : insV s x = some (c, fs)) :
    ∃ a C dx gs, v = .ref a ∧ mg c = some (.ref C) ∧ H a = some (.ins C dx gs) ∧ gs.map (·.1) = fs.map (·.1) ∧ RVs K m (hid m H) (fs.map (·.2)) (gs.map (·.2)) := by
  unfold insV at h
  split at h
  · split at h
    · rename_i e
      cases h
      cases r with
      | ref q =>
        obtain ⟨C, dx, gs, h1, h2, h3, h4⟩ := hR.obj _ _ _ q e
        exact ⟨_, C, dx, gs, rfl, hR.ns _ _ h1, h2, h3, h4⟩
    · cases h
  · cases h
    cases r with
    | ins n h e r => exact ⟨_, _, _, _, rfl, hR.ns _ _ n, hid_sub _ _ _ _ h, e, r⟩
  · cases h
def gFld (cs : List Str) (f : Str) (x : D) : M D := fun s => match insV s x with
  | some (c, fs) => if c ∈ cs then (match fs.lookup f with | some d => .ok d s | none => .bad) else .bad
  | none => .bad
def mFld (cs : List Str) (f : Str) (fo : EV → M D) : EV → M D := fun σ => bnd (fo σ) (gFld cs f)
theorem ie_fld {cs : List Str} {fn : Str} (hc : ClsF X cs fn) (ho : IE X W o fo) (hb : attributeBase o fn X.env (eval o X.env) = eval o X.env := by rfl) : IE X W (.Attribute o fn pos) (mFld cs fn fo) := by
  refine ⟨pe_mono (pe_fld ho.pe hb) fun σ H Q ⟨m, σd, s, hR, hS, hG⟩ => ?_⟩
  refine ⟨m, σd, s, hR, hS, (Go.bnd (rel := RV X.K) hG).imp fun x H1 ⟨m1, d, s1, e1, r1, v1, g1⟩ => ?_⟩
  unfold gFld at g1
  split at g1
  · rename_i c fs e
    split at g1
    · rename_i hcs
      split at g1
      · rename_i d' hl
        obtain ⟨a, C, dx, gs, rfl, hm, ha, q1, q2⟩ := insV_at r1 v1 e
        obtain ⟨h1, h2⟩ := hc c hcs C hm
        obtain ⟨v, h3, h4⟩ := (look_at q1 q2).1 d' hl
        exact ⟨a, C, dx, gs, v, rfl, ha, h1, h2, h3, g1.ok r1 h4⟩
      · exact g1.elim
    · exact g1.elim
  · exact g1.elim
/-! ### stores: fields, and several targets at once -/
def putD (f : Str) (y : D) : List (Str × D) → List (Str × D)
  | [] => [(f, y)]
  | (g, x) :: r => if g = f then (g, y) :: r else (g, x) :: putD f y r
theorem put_at {K : PySem.W.Frag} {m : MM} {G : Hp} {f : Str} {y : D} {v : V} (hy : RV K m G y v) : ∀ {fs : List (Str × D)} {gs : List (Str × V)}, gs.map (·.1) = fs.map (·.1) → RVs K m G (fs.map (·.2)) (gs.map (·.2)) →
    (putF f v gs).map (·.1) = (putD f y fs).map (·.1) ∧ RVs K m G ((putD f y fs).map (·.2)) ((putF f v gs).map (·.2))
  | [], [], _, _ => ⟨rfl, .cons hy .nil⟩
  | (f1, d1) :: fs, (f2, v2) :: gs, e, r => by
    simp only [List.map_cons, List.cons.injEq] at e
    cases r with
    | cons r1 r2 =>
      obtain ⟨e1, e2⟩ := e
      have e1' : f2 = f1 := e1
      subst e1'
      unfold putF putD
      split
      · exact ⟨by simp [e2], .cons hy r2⟩
      · obtain ⟨h1, h2⟩ := put_at hy e2 r2
        exact ⟨by simp [h1], .cons r1 h2⟩
def putAt (cs : List Str) (f : Str) (x y : D) : Sto → Option Sto := fun s => match insAt s x with
  | some (n, c, fs) => if c ∈ cs ∧ fs.length < 900 then some (s.set n (.ins c (putD f y fs))) else none
  | none => none
abbrev SGT := D → SM
def rH (X : Cx) (W : WX) (g : SGT) : TG := fun v σ H Q => ∃ m σd s d, R X.K X.mg m s H ∧ RS X.K m (hid m H) σd σ ∧ RV X.K m (hid m H) d v ∧ GoS W X.K X.mg m H (g d σd s) { nx := Q, rt := fun _ _ => False }
structure IH (X : Cx) (W : WX) (tg : Expr) (g : SGT) : Prop where
  pg : PG X tg (rH X W g)
def rHs (X : Cx) (W : WX) (g : List D → SM) : TGs := fun vs σ H Q => ∃ m σd s ds, R X.K X.mg m s H ∧ RS X.K m (hid m H) σd σ ∧ RVs X.K m (hid m H) ds vs ∧ GoS W X.K X.mg m H (g ds σd s) { nx := Q, rt := fun _ _ => False }
structure IHs (X : Cx) (W : WX) (tgs : List Expr) (g : List D → SM) : Prop where
  pgs : PGs X tgs (rHs X W g)
def stGo (σ : EV) (o : Option Sto) : SRes := match o with | some s2 => .go .nx σ s2 | none => .bad
def hNm (i : Nat) : SGT := fun d σ s => .go .nx (σ.set i (some d)) s
def hFld (cs : List Str) (f : Str) (fo : EV → M D) : SGT := fun d σ s => lft (fo σ s) σ fun x s' => stGo σ (putAt cs f x d s')
def hIx (fo fi : EV → M D) : SGT := fun d σ s => lft (bnd (fo σ) (fun x => bnd (fi σ) fun i => ret (x, i)) s) σ fun p s' => stGo σ (dSetL p.1 p.2 d s')
theorem ih_name {i : Nat} {x : Str} (hN : X.N.Nodup) (hi : X.N[i]? = some x) (hx : Loc X.env.scope x) (hf : X.fn x = true ∨ X.env.scope.names.lookup x = some .local := by first | exact .inl rfl | exact .inr rfl) : IH X W (.Name x pos) (hNm i) :=
  ⟨pg_mono (pg_name hN hi hx hf) fun v σ H Q ⟨m, σd, s, d, hR, hS, hv, hG⟩ => GoS.at (fl := .nx) hG hR (hS.put hv)⟩
theorem ih_fld {cs : List Str} {fn : Str} (hc : ClsF X cs fn) (ho : IE X W o fo) : IH X W (.Attribute o fn pos) (hFld cs fn fo) := by
  refine ⟨⟨fun pins sh σ H v u Q I r ⟨m, σd, s, d, hR, hS, hv, hG⟩ => ?_⟩⟩
  rw [arm_assign_Attribute]
  have hG2 := GoS.lft (rel := RV X.K) hS hG
  refine wpAny_bind (wpAny_holding (thn (ho.pe.run pins sh σ H _ I ⟨m, σd, s, hR, hS, hG2⟩) fun ov s1 ⟨x, H1, I1, r1, m1, dx, t1, e1, q1, w1, g1⟩ => ?_))
  unfold stGo putAt at g1
  cases e : insAt t1 dx with
  | none => rw [e] at g1; exact g1.elim
  | some p =>
    obtain ⟨n, c, fs⟩ := p
    rw [e] at g1
    simp only at g1
    split at g1
    · rename_i s2 hs2
      split at hs2
      · rename_i hcs
        cases hs2
        obtain ⟨a, C, dx', gs, rfl, ha1, _, hns, hm, ha, k1, k2⟩ := insAt_at q1 w1 e
        obtain ⟨h1, h2⟩ := hc c hcs.1 C hm
        obtain rfl : ov = Value.ref a := r1
        obtain ⟨j1, j2⟩ := put_at (f := fn) (hv.mono e1.pre e1.same) k1 k2
        have hlen : gs.length < 1000 := by
          have z : gs.length = fs.length := by
            have := congrArg List.length k1
            simpa using this
          omega
        obtain ⟨e8, r8⟩ := q1.put (ho := .ins C dx' (putF fn v gs)) (o := .ins c (putD fn d fs)) ha1 fun ee => ⟨C, dx', _, hns, upd_same, j1, j2.mono ee.pre ee.same⟩
        refine wpAny_bind (wpAny_standAt (wpAny_bind (wpAny_holding (setattr_ok I1 ha h1 h2 hlen r fun s3 I3 => wpAny_release ⟨σ, _, I3, ?_⟩))))
        exact GoS.at (fl := .nx) (g1.ext e8) r8 ((hS.mono e1.pre e1.same).mono e8.pre e8.same)
      · cases hs2
    · exact g1.elim
theorem ih_ix {i : Expr} {fi : EV → M D} (ho : IE X W o fo) (hi : IE X W i fi)
    (hx : ∀ v, assign (.Subscript o i pos) X.env v = (do
      let ov ← holding [v] (eval o X.env)
      let iv ← holding [v, ov] (eval i X.env)
      standAt pos
      holding [v, ov, iv] (setItem ov iv v)
      release [v, ov, iv] []) := by intro _; rfl) : IH X W (.Subscript o i pos) (hIx fo fi) := by
  refine ⟨pg_mono (pg_sub ho.pe hi.pe set_list hx) fun v σ H Q ⟨m, σd, s, d, hR, hS, hv, hG⟩ => ?_⟩
  have hG2 := Go.bnd (rel := RV X.K) (GoS.lft (rel := fun m G (d : D × D) (v : V × V) => RV X.K m G d.1 v.1 ∧ RV X.K m G d.2 v.2) hS hG)
  refine ⟨m, σd, s, hR, hS, hG2.imp fun u H2 ⟨m2, d2, s2, e2, r2, v2, g2⟩ => ?_⟩
  refine ⟨m2, σd, s2, r2, hS.mono e2.pre e2.same, (Go.bnd (rel := RV X.K) g2).imp fun w H3 ⟨m3, d3, s3, e3, r3, v3, g3⟩ => ?_⟩
  obtain ⟨m4, dd, s4, e4, r4, ⟨w2, w3⟩, g4⟩ := Go.ok (a := (d2, d3)) (b := (u, w)) g3 r3 ⟨v2.mono e3.pre e3.same, v3⟩
  unfold stGo at g4
  split at g4
  · rename_i s5 q
    unfold dSetL at q
    split at q
    · rename_i k n xs e5 e6
      split at q
      · rename_i j e7
        cases q
        rw [e5] at w3
        have w3' : w = .int k := by cases w3; rfl
        obtain ⟨a, ws, rfl, h1, h2, h3⟩ := lstAt_at r4 w2 e6
        have e24 := e4
        obtain ⟨e8, r8⟩ := r4.put (ho := .lst (ws.set j v)) (o := .lst (xs.set j d)) h1 fun e => ⟨_, upd_same, (h3.set (hv.mono e24.pre e24.same) j).mono e.pre e.same⟩
        exact ⟨a, ws, k, j, rfl, w3', h2, by rw [h3.length]; exact e7, GoS.at (fl := .nx) (g4.ext e8) r8 ((hS.mono e24.pre e24.same).mono e8.pre e8.same)⟩
      · cases q
    · cases q
  · exact g4.elim
def hsNil : List D → SM := fun ds σ s => match ds with | [] => .go .nx σ s | _ => .bad
def hsCns (g : SGT) (gs : List D → SM) : List D → SM := fun ds σ s => match ds with
  | d :: ds => (match g d σ s with | .go .nx σ2 s2 => gs ds σ2 s2 | .go _ _ _ => .bad | .exc c fs σ2 s2 => .exc c fs σ2 s2 | .bad => .bad)
  | [] => .bad
theorem ihs_nil : IHs X W [] hsNil := by
  refine ⟨⟨fun pins sh σ H vs us Q I r ⟨m, σd, s, ds, hR, hS, hv, hG⟩ => ?_⟩⟩
  refine pgs_nil.run pins sh σ H vs us Q I r ?_
  cases ds with
  | nil => cases hv; exact ⟨rfl, GoS.at (fl := .nx) hG hR hS⟩
  | cons _ _ => exact hG.elim
theorem ihs_cons {g : SGT} {gs : List D → SM} (h1 : IH X W e g) (h2 : IHs X W es gs) (hs : (assignEach (e :: es) X.env).map (·.2) = assign e X.env :: (assignEach es X.env).map (·.2) := by rfl) : IHs X W (e :: es) (hsCns g gs) := by
  refine ⟨⟨fun pins sh σ H vs us Q I r ⟨m, σd, s, ds, hR, hS, hv, hG⟩ => ?_⟩⟩
  refine (pgs_cons h1.pg h2.pgs hs).run pins sh σ H vs us Q I r ?_
  cases ds with
  | nil => exact hG.elim
  | cons d ds =>
    cases hv with
    | @cons _ v _ vs' q1 q2 =>
      refine ⟨v, vs', rfl, m, σd, s, d, hR, hS, q1, ?_⟩
      unfold hsCns at hG
      simp only at hG
      cases e : g d σd s with
      | go fl σ2 s2 =>
        rw [e] at hG
        cases fl with
        | nx => exact fun σ' m' H' ee rr ss => ⟨m', σ2, s2, ds, rr, ss, q2.mono ee.pre ee.same, GoS.ext ee hG⟩
        | rt _ => exact hG.elim
        | bk => exact hG.elim
        | ct => exact hG.elim
      | exc c fs σ2 s2 => rw [e] at hG; exact hG
      | bad => rw [e] at hG; exact hG.elim
def hTup (n : Nat) (gs : List D → SM) : SGT := fun d => match d with | .tup ds => fun σ s => if ds.length = n then gs ds σ s else .bad | _ => fun _ _ => .bad
theorem ih_tup {gs : List D → SM} {kt : Nat} {n : Nat} (hc : X.calm = true) (h : IHs X W es gs) (hn : (assignEach es X.env).length = n := by rfl) (hst : (assignEach es X.env).findIdx? (·.1) = none := by rfl) : IH X W (.Tuple es kt pos) (hTup n gs) := by
  refine ⟨pg_mono (pg_tup hc h.pgs hn hst) fun v σ H Q ⟨m, σd, s, d, hR, hS, hv, hG⟩ => ?_⟩
  unfold hTup at hG
  split at hG
  · rename_i ds
    split at hG
    · rename_i q
      obtain ⟨a, vs, rfl, h1, h2⟩ := tup_at hv
      exact ⟨a, vs, rfl, h1, by rw [h2.length]; exact q, m, σd, s, ds, hR, hS, h2, hG⟩
    · exact hG.elim
  · exact hG.elim
def nxO (r : SRes) : SRes := match r with | .go .nx σ s => .go .nx σ s | .go _ _ _ => .bad | .exc c fs σ s => .exc c fs σ s | .bad => .bad
def sAsgH (g : SGT) (f : EV → M D) : SM := fun σ s => lft (f σ s) σ fun d s' => nxO (g d σ s')
theorem is_asgH {f : EV → M D} {g : SGT} {tg : Expr} (he : IE X W e f) (hg : IH X W tg g) (hs : swapsWithSole [tg] e pos.line X.env = pure false := by rfl) (hw : swappedStores [tg] e X.env = pure none := by rfl)
    (h1 : (assignEach [tg] X.env).map (·.2) = [assign tg X.env] := by rfl) : IS X W (.Assign [tg] e pos) (sAsgH g f) := by
  refine ⟨ps_mono (ps_asg he.pe hg.pg hs hw h1) fun E σ H ⟨m, σd, s, hR, hS, hG⟩ => ?_⟩
  refine ⟨m, σd, s, hR, hS, (GoS.lft (rel := RV X.K) hS hG).imp fun v H1 ⟨m1, d, s1, e1, r1, v1, g1⟩ => ?_⟩
  refine ⟨m1, σd, s1, d, r1, hS.mono e1.pre e1.same, v1, ?_⟩
  unfold nxO at g1
  cases q : g d σd s1 with
  | go fl σ2 s2 =>
    rw [q] at g1
    cases fl with
    | nx => exact g1
    | rt _ => exact g1.elim
    | bk => exact g1.elim
    | ct => exact g1.elim
  | exc c fs σ2 s2 => rw [q] at g1; exact g1
  | bad => rw [q] at g1; exact g1.elim
end
end RQ

/-! methods, properties, calls of instances -/
namespace RQ
open PySem PySem.Spec PyProof.Rows L2
section
variable {X : Cx} {W : WX} {k : Nat} {c x mn : Str} {p pos apos : Pos} {a o e : Expr} {es : List Expr} {fs : EV → M (List D)} {fo : EV → M D}
abbrev Alts := List (Str × (List D → M D))
/-- the classes that have the method, and what it does -/
def AltOk (X : Cx) (k : Nat) (mn : Str) (alts : Alts) : Prop := ∀ c F, alts.lookup c = some F → ∃ C f, X.mg c = some (.ref C) ∧ Cls X.K C ∧ Meth X.K C mn f ∧ FnJ X.prog X.w X.K X.mg X.base k f F
def altAt (alts : Alts) (mn : Str) (x : D) (s : Sto) : Option (List D → M D) := match insV s x with
  | some (c, fs) => if (fs.lookup mn).isNone = true then alts.lookup c else none
  | none => none
def mMeth (alts : Alts) (mn : Str) (fo : EV → M D) (fs : EV → M (List D)) : EV → M D := fun σ => bnd (fo σ) fun x s => match altAt alts mn x s with
  | some F => bnd (fs σ) (fun xs => F (x :: xs)) s
  | none => .bad
theorem alt_at {m : MM} {s : Sto} {H : Hp} {d : D} {v : V} {alts : Alts} {F : List D → M D} (ok : AltOk X k mn alts) (hR : R X.K X.mg m s H) (r : RV X.K m (hid m H) d v) (h : altAt alts mn d s = some F) :
    ∃ a C dx gs f, v = .ref a ∧ H a = some (.ins C dx gs) ∧ gs.lookup mn = none ∧ Cls X.K C ∧ Meth X.K C mn f ∧ FnJ X.prog X.w X.K X.mg X.base k f F := by
  unfold altAt at h
  split at h
  · rename_i c fs e
    split at h
    · rename_i hl
      obtain ⟨a, C, dx, gs, rfl, hm, ha, q1, q2⟩ := insV_at hR r e
      obtain ⟨C', f, h1, h2, h3, h4⟩ := ok c F h
      rw [hm] at h1
      cases h1
      exact ⟨a, C, dx, gs, f, rfl, ha, (look_at q1 q2).2 (Option.isNone_iff_eq_none.mp hl), h2, h3, h4⟩
    · cases h
  · cases h
theorem ie_meth {alts : Alts} {pl : Sem Bool} (ok : AltOk X k mn alts) (hr : Room k X.A) (hgd : X.A.guards = some []) (tk : Takes X W) (ho : IE X W o fo) (ha : IA X W (a :: es) fs)
    (hst : starEach (a :: es) X.env = (false, eval a X.env) :: starEach es X.env := by rfl) (hpl : (backTo pos (starEach es X.env)).any (·.1) = false := by rfl)
    (ht : eval (.Call (.Attribute o mn apos) (a :: es) [] pos) X.env = (do
      let ov ← eval o X.env
      standAt apos.atName
      let (f, first) ← holding [ov] (getMethod ov mn pl)
      callWith pos f first (backTo pos (starEach (a :: es) X.env)) (backToKw pos (keywordEach [] X.env))) := by rfl) :
    IE X W (.Call (.Attribute o mn apos) (a :: es) [] pos) (mMeth alts mn fo fs) := by
  refine ⟨⟨fun pins sh σ H Q I ⟨m, σd, t, hR, hS, hG⟩ => ?_⟩⟩
  refine PySem.W.methodCall_KW (pl := pl) (thn (ho.pe.run pins sh σ H _ I ⟨m, σd, t, hR, hS, Go.bnd (rel := RV X.K) hG⟩) fun u s1 ⟨v, H1, I1, rx, m1, d, t1, e1, r1, v1, g1⟩ => ?_) ht
  split at g1
  · rename_i F hF
    obtain ⟨ad, C, dx, gs, f, rfl, ha2, hl, hc, hm, G⟩ := alt_at ok r1 v1 hF
    obtain rfl : u = Value.ref ad := rx
    refine getmeth_ok I1 ha2 hc hm hl ?_
    refine PySem.W.callWith_K (first := [.ref ad]) (h₀ := X.base) I.ok.mod.kin hm.kp (thn (ha.pa.run pos pins s1 σ H1 _ I1 ⟨m1, σd, t1, r1, hS.mono e1.pre e1.same, Go.bnd (rel := RVs X.K) g1⟩) fun us s2 ⟨vs, H2, I2, rv, m2, xs, t2, e2, r2, v2, g2⟩ => ⟨I2.kIn, ?_⟩) hst hpl
    exact callJ (us := .ref ad :: us) (vs := .ref ad :: vs) G hr hgd tk I2 (.cons rfl rv) r2 (.cons (v1.mono e2.pre e2.same) v2) g2
  · exact g1.elim
theorem ie_meth0 {alts : Alts} {pl : Sem Bool} (ok : AltOk X k mn alts) (hr : Room k X.A) (hgd : X.A.guards = some []) (tk : Takes X W) (ho : IE X W o fo)
    (ht : eval (.Call (.Attribute o mn apos) [] [] pos) X.env = (do
      let ov ← eval o X.env
      standAt apos.atName
      let (f, first) ← holding [ov] (getMethod ov mn pl)
      callWith pos f first (backTo pos (starEach [] X.env)) (backToKw pos (keywordEach [] X.env))) := by rfl) :
    IE X W (.Call (.Attribute o mn apos) [] [] pos) (mMeth alts mn fo (fun _ s => .ok [] s)) := by
  refine ⟨⟨fun pins sh σ H Q I ⟨m, σd, t, hR, hS, hG⟩ => ?_⟩⟩
  refine PySem.W.methodCall_KW (pl := pl) (thn (ho.pe.run pins sh σ H _ I ⟨m, σd, t, hR, hS, Go.bnd (rel := RV X.K) hG⟩) fun u s1 ⟨v, H1, I1, rx, m1, d, t1, e1, r1, v1, g1⟩ => ?_) ht
  split at g1
  · rename_i F hF
    obtain ⟨ad, C, dx, gs, f, rfl, ha2, hl, hc, hm, G⟩ := alt_at ok r1 v1 hF
    obtain rfl : u = Value.ref ad := rx
    refine getmeth_ok I1 ha2 hc hm hl ?_
    exact PySem.W.callWith_K0 (first := [.ref ad]) I1.kIn hm.kp (callJ (us := [.ref ad]) (vs := [.ref ad]) G hr hgd tk I1 (.cons rfl .nil) r1 (.cons v1 .nil) g1)
  · exact g1.elim
/-! ### properties -/
def PropOkD (X : Cx) (k : Nat) (mn : Str) (alts : Alts) : Prop := ∀ c F, alts.lookup c = some F → ∃ C pa g, X.mg c = some (.ref C) ∧ Cls X.K C ∧ PropOf X.K C mn pa g ∧ FnJ X.prog X.w X.K X.mg X.base k g F
def gProp (alts : Alts) (x : D) : M D := fun s => match insV s x with
  | some (c, _) => (match alts.lookup c with | some F => nox (F [x]) s | none => .bad)
  | none => .bad
def mProp (alts : Alts) (fo : EV → M D) : EV → M D := fun σ => bnd (fo σ) (gProp alts)
theorem ie_prop {alts : Alts} (ok : PropOkD X k mn alts) (hr : Room (k + 1) X.A) (hgd : X.A.guards = some []) (ho : IE X W o fo) (hab : attributeBase o mn X.env (eval o X.env) = eval o X.env := by rfl) : IE X W (.Attribute o mn pos) (mProp alts fo) := by
  refine ⟨⟨fun pins sh σ H Q I ⟨m, σd, t, hR, hS, hG⟩ => ?_⟩⟩
  refine attr_of hab (thn (ho.pe.run pins sh σ H _ I ⟨m, σd, t, hR, hS, Go.bnd (rel := RV X.K) hG⟩) fun u s1 ⟨v, H1, I1, rx, m1, d, t1, e1, r1, v1, g1⟩ => ?_)
  unfold gProp at g1
  split at g1
  · rename_i c fs e
    split at g1
    · rename_i F hF
      obtain ⟨ad, C, dx, gs, rfl, hm, ha, q1, q2⟩ := insV_at r1 v1 e
      obtain ⟨C', pa, g, h1, hc, hp, G⟩ := ok c F hF
      rw [hm] at h1
      cases h1
      obtain rfl : u = Value.ref ad := rx
      obtain ⟨mA, O, _, _, _, _⟩ := ins_get I1.hok ha
      obtain ⟨od, J, _⟩ := O.look
      obtain ⟨rest, hrec⟩ := hp.rec_
      have I2 := I1.tok (s1.toks + 1)
      have hcl : (PySem.W.clsIn X.K C).isSome = true := by
        obtain ⟨cd, hc', _⟩ := PySem.W.any_some hc.hd
        rw [hc']; rfl
      refine PySem.W.get_bind I1.kIn J (PySem.W.plainGet_of (hc.get mn)).1 (PySem.W.findObj_data hcl hp.at_ hp.get hp.tak) (PySem.W.plainGet_of (hc.get mn)).2 (wpAny_call (PySem.W.prop_get (s := { s1 with toks := s1.toks + 1 }) I1.kIn hrec ?_))
      refine codeAny_mono (G X.A.in1 X.stack { s1 with toks := s1.toks + 1 } H1 [.ref ad] [.ref ad] [d] m1 t1 Q (fun _ _ _ => False) hr.in1 hgd I2.env0.in1 (.cons rfl .nil) r1 (.cons v1 .nil) ?_) fun r s' hq => ?_
      · have g2 := Go.nox g1
        cases q : F [d] t1 with
        | ok d' s' => rw [q] at g2; exact g2
        | exc c' fs' s' => unfold nox at g1; rw [q] at g1; exact g1.elim
        | bad => rw [q] at g2; exact g2.elim
      · cases r with
        | error er => obtain ⟨_, _, _, _, _, _, _, _, _, _, _, _, z⟩ := hq; exact z.elim
        | ok fl =>
          cases fl with
          | ret u' =>
            obtain ⟨v', H', I3, rv, q3⟩ := I2.after hq
            show wpAny _ _ (handedOut u') _ _ _
            rw [PySem.W.handedOut_of (handed_of rv)]
            exact wpAny_pure ⟨v', H', I3, rv, q3⟩
          | next => exact hq.elim
          | brk => exact hq.elim
          | cont => exact hq.elim
    · exact g1.elim
  · exact g1.elim
end
end RQ

/-! operators of own classes -/
namespace RQ
open PySem PySem.Spec PyProof.Rows L2
section
variable {prog : Program} {w : World} {A : Around} {E : Value → Shared → Prop} {s : Shared} {K : PySem.W.Frag} {x C L f : Addr} {h₀ : Heap} {m : Str → Option Value} {ox : Obj} {od : Option Obj} {name : Str} {b tb : Value}
theorem ifBoundB {M : Model} {id : String} {args : List Value} {Q : Option Value → Shared → Prop} (X : K.In s.heap) (I : PySem.W.InstAt s.heap x ox C od) (hs : PySem.W.findIn K (.ref C) name = some (some (.builtin id)))
    (hb : ∀ self, PySem.W.Looks M s.heap (bindSpecial (.builtin id) self) (.builtin id, [self]))
    (h : wpAny M A (call (.builtin id) (.ref x :: args)) (fun v => Q (some v)) E s) : wpAny M A (callSpecialIfBound? (.ref x) name args) Q E s := by
  simp only [callSpecialIfBound?, bindSpecialIfBound?]
  refine wpAny_holding (wpAny_bind (wpAny_bind (wpAny_bind (I.type.here ((PySem.W.looks_findIn X hs).here ?_)))))
  refine wpAny_bind (wpAny_askSetting (wpAny_ite ?_))
  have last : wpAny M A (call (.builtin id) ([.ref x] ++ args) >>= fun v => pure (some v)) Q E s := wpAny_bind (wpAny_mono h (fun v s' h' => wpAny_pure h') fun _ _ h' => h')
  split
  · exact wpAny_bind ((hb _).here (wpAny_pure (by exact last)))
  · exact wpAny_tryCatch (wpAny_bind ((hb _).here (wpAny_pure (by exact last))))
/-- a != b by an own __eq__ -/
theorem ne_own {Q : Value → Shared → Prop} (hu : A.units + 1 < cLine) (X : K.In s.heap) (I : PySem.W.InstAt s.heap x ox C od) (hb : PySem.W.Looks (model prog w) s.heap (typeOf b) tb) (hn : PySem.W.notFirst K C tb = true)
    (hs : PySem.W.findIn K (.ref C) "__ne__" = some (some (.builtin "object.__ne__"))) (he : PySem.W.findIn K (.ref C) "__eq__" = some (some (.ref f))) (hf : PySem.W.isFn K (.ref f) = true)
    (hbd : ∀ self, PySem.W.Looks (model prog w) s.heap (bindSpecial (.builtin "object.__ne__") self) (.builtin "object.__ne__", [self]))
    (hin : PySem.W.Looks (model prog w) s.heap (isInstance (.ref x) (.type "object")) true)
    (h : wpAny (model prog w) A.in1 (call (.ref f) [.ref x, b]) (fun v s' => ∃ k, v = .bool k ∧ Q (.bool (!k)) s') E s) : wpAny (model prog w) A (richCompare .NotEq (.ref x) b) Q E s := by
  have two : wpAny (model prog w) A.in1 (Builtin.«object.__ne__» ⟨[.ref x, b], []⟩) (fun r s' => ∃ k, r = .done (.ret (.bool (!k))) ∧ Q (.bool (!k)) s') E s := by
    unfold Builtin.«object.__ne__»
    refine wpAny_bind (wpAny_pure ?_)
    refine wpAny_bind (wpAny_cRoomFor (show A.units + 1 < cLine from hu) ?_)
    refine wpAny_bind (PySem.W.ifBound_K X I he hf (wpAny_mono h (fun v s' hv => ?_) fun _ _ e => e))
    obtain ⟨k, rfl, hq⟩ := hv
    refine wpAny_bind (wpAny_truthy_bool (wpAny_pure ⟨k, rfl, hq⟩))
  have hp : plainId "object.__ne__" = true := by decide +kernel
  have one : wpAny (model prog w) A (tryCompare (.ref x) "__ne__" b) (fun r s' => ∃ v, r = some v ∧ Q v s') E s := by
    unfold tryCompare
    refine wpAny_bind (ifBoundB X I hs hbd (wpAny_call (codeAny_call_builtin hp F.cmpEntry_ne (PySem.W.check_slot F.cmpKind_ne F.cmpSplit_ne hin (F.cmpArgs_ne _ _) (wpAny_mono two (fun r s' hr => ?_) fun _ _ e => e)))))
    obtain ⟨k, rfl, hq⟩ := hr
    exact wpAny_pure ⟨_, rfl, hq⟩
  unfold richCompare
  simp only [oneThing_ref]
  refine wpAny_holding (wpAny_bind (wpAny_cRoomFor (Nat.lt_of_succ_lt hu) ?_))
  refine wpAny_bind (I.type.here (wpAny_bind (hb.here ?_)))
  split
  · rename_i q
    have e : PySem.W.subIn K tb (.ref C) = some false := by
      rcases Bool.or_eq_true_iff.mp hn with e | e
      · rw [beq_iff_eq.mp e] at q; simp at q
      · exact beq_iff_eq.mp e
    refine wpAny_bind ((PySem.W.looks_subIn X e).here ?_)
    simp only [Bool.false_eq_true, if_false]
    refine wpAny_bind (wpAny_mono one (fun r s' z => ?_) fun _ _ e => e)
    obtain ⟨v, rfl, hq⟩ := z
    exact wpAny_pure hq
  · refine wpAny_bind (wpAny_pure ?_)
    simp only [Bool.false_eq_true, if_false]
    refine wpAny_bind (wpAny_mono one (fun r s' z => ?_) fun _ _ e => e)
    obtain ⟨v, rfl, hq⟩ := z
    exact wpAny_pure hq
end
section
variable {X : Cx} {k : Nat} {f C : Addr} {c : Str} {F : List D → M D}
/-- a def that raises nothing here, called at any room -/
theorem callN {A' : Around} {E' : Value → Shared → Prop} {pins : List (Addr × Obj)} {σ : SV} {H : Hp} {s : Shared} {Q : VK} {us : List Value} {vs : List V} {xs : List D} {m : MM} {t : Sto} {W' : WX} (G : FnJ X.prog X.w X.K X.mg X.base k f F) (hr : Room k A') (hgd : A'.guards = some [])
    (e0 : Env0 X.prog X.w X.K X.mg X.base A' X.stack s H) (I : Inv X pins σ H s) (rv : Vals vs us) (hR : R X.K X.mg m t H) (hV : RVs X.K m (hid m H) xs vs) (hG : Go W' X.K X.mg [] (RV X.K) m H (nox (F xs) t) Q) :
    wpAny (model X.prog X.w) A' (call (.ref f) us) (EP X pins σ Q) E' s := by
  refine wpAny_call (codeAny_mono (G A' X.stack s H us vs xs m t Q (fun _ _ _ => False) hr hgd e0 rv hR hV ?_) fun r s' hq => ?_)
  · have g2 := Go.nox hG
    cases q : F xs t with
    | ok d' s' => rw [q] at g2; exact g2
    | exc c' fs' s' => unfold nox at hG; rw [q] at hG; exact hG.elim
    | bad => rw [q] at g2; exact g2.elim
  · cases r with
    | error er => obtain ⟨_, _, _, _, _, _, _, _, _, _, _, _, z⟩ := hq; exact z.elim
    | ok fl =>
      cases fl with
      | ret u => exact I.after hq
      | next => exact hq.elim
      | brk => exact hq.elim
      | cont => exact hq.elim
/-- both instances of the class c -/
def both (c : Str) (x y : D) (s : Sto) : Bool := match insV s x, insV s y with
  | some (c1, _), some (c2, _) => c1 == c && c2 == c
  | _, _ => false
theorem both_at {m : MM} {s : Sto} {H : Hp} {x y : D} {v u : V} (hm : X.mg c = some (.ref C)) (hR : R X.K X.mg m s H) (rx : RV X.K m (hid m H) x v) (ry : RV X.K m (hid m H) y u) (h : both c x y s = true) :
    ∃ a dx gs b dy hs, v = .ref a ∧ u = .ref b ∧ H a = some (.ins C dx gs) ∧ H b = some (.ins C dy hs) := by
  unfold both at h
  split at h
  · rename_i c1 f1 c2 f2 e1 e2
    rw [Bool.and_eq_true] at h
    have q1 := eq_of_beq h.1
    have q2 := eq_of_beq h.2
    subst q1
    subst q2
    obtain ⟨a, C1, dx, gs, rfl, h1, h2, _⟩ := insV_at hR rx e1
    obtain ⟨b, C2, dy, hs, rfl, h3, h4, _⟩ := insV_at hR ry e2
    rw [hm] at h1 h3
    cases h1
    cases h3
    exact ⟨a, dx, gs, b, dy, hs, rfl, rfl, h2, h4⟩
  · cases h
def dOwn (c : Str) (F : List D → M D) (o : D → D → M D) (x y : D) : M D := fun s => if both c x y s = true then nox (F [x, y]) s else o x y s
theorem inst_at {pins : List (Addr × Obj)} {σ : SV} {H : Hp} {s : Shared} {a dx : Addr} {gs : List (Str × V)} (I : Inv X pins σ H s) (h : H a = some (.ins C dx gs)) : ∃ ox od, PySem.W.InstAt s.heap a ox C od := by
  obtain ⟨mA, O, _⟩ := ins_get I.hok h
  obtain ⟨od, J, _⟩ := O.look
  exact ⟨_, _, J⟩
theorem back_of {v : V} {u : Value} {Q : Value → Shared → Prop} {s : Shared} (r : RelV v u) (h : Q u s) : PySem.W.CmpBack Q u s := by
  cases u <;> first | exact h | (cases v <;> first | exact (nomatch r) | (obtain ⟨_, z⟩ := r; exact nomatch z))
theorem oi_own {op : Operator} {o : D → D → M D} (ob : OpI X (binaryOp op) o) (hm : X.mg c = some (.ref C)) (hsf : PySem.W.selfFirst X.K C = true) (hs : PySem.W.findIn X.K (.ref C) (PySem.dunder op.info.2) = some (some (.ref f))) (hf : PySem.W.isFn X.K (.ref f) = true)
    (G : FnJ X.prog X.w X.K X.mg X.base k f F) (hr : Room k X.A) (hgd : X.A.guards = some []) : OpI X (binaryOp op) (dOwn c F o) := by
  intro pins sh σ H v u v' u' Q I rv ru ⟨m, x, y, s, hR, hx, hy, hg⟩
  unfold dOwn at hg
  split at hg
  · rename_i hb
    obtain ⟨a, dx, gs, b, dy, hs', rfl, rfl, h1, h2⟩ := both_at hm hR hx hy hb
    obtain rfl : v' = Value.ref a := rv
    obtain rfl : u' = Value.ref b := ru
    obtain ⟨ox, od, J⟩ := inst_at I h1
    obtain ⟨oy, oe, J'⟩ := inst_at I h2
    obtain ⟨m', hF⟩ := I.fr
    refine PySem.W.binop_K hF I.ok.mod.kin J J'.type hsf hs hf (wpAny_mono (callN (vs := [.ref a, .ref b]) G hr hgd I.env0 I (.cons rfl (.cons rfl .nil)) hR (.cons hx (.cons hy .nil)) hg) (fun w s' z => ?_) fun _ _ z => z)
    obtain ⟨z', H', I', rz, qz⟩ := z
    exact back_of rz ⟨z', H', I', rz, qz⟩
  · exact ob pins sh σ H v u v' u' Q I rv ru ⟨m, x, y, s, hR, hx, hy, hg⟩
theorem oi_eqOwn {o : D → D → M D} (ob : OpI X (compareOp .Eq) o) (hm : X.mg c = some (.ref C)) (hn : PySem.W.notFirst X.K C (.ref C) = true) (hs : PySem.W.findIn X.K (.ref C) "__eq__" = some (some (.ref f))) (hf : PySem.W.isFn X.K (.ref f) = true)
    (G : FnJ X.prog X.w X.K X.mg X.base k f F) (hr : Room k X.A) (hgd : X.A.guards = some []) : OpI X (compareOp .Eq) (dOwn c F o) := by
  intro pins sh σ H v u v' u' Q I rv ru ⟨m, x, y, s, hR, hx, hy, hg⟩
  unfold dOwn at hg
  split at hg
  · rename_i hb
    obtain ⟨a, dx, gs, b, dy, hs', rfl, rfl, h1, h2⟩ := both_at hm hR hx hy hb
    obtain rfl : v' = Value.ref a := rv
    obtain rfl : u' = Value.ref b := ru
    obtain ⟨ox, od, J⟩ := inst_at I h1
    obtain ⟨oy, oe, J'⟩ := inst_at I h2
    obtain ⟨m', hF⟩ := I.fr
    show wpAny _ _ (richCompare .Eq _ _) _ _ _
    refine PySem.W.cmp_K (op := .Eq) (tb := .ref C) hr.units0 hF I.ok.mod.kin J J'.type hn hs hf (wpAny_mono (callN (vs := [.ref a, .ref b]) G hr hgd I.env0 I (.cons rfl (.cons rfl .nil)) hR (.cons hx (.cons hy .nil)) hg) (fun w s' z => ?_) fun _ _ z => z)
    obtain ⟨z', H', I', rz, qz⟩ := z
    exact back_of rz ⟨z', H', I', rz, qz⟩
  · exact ob pins sh σ H v u v' u' Q I rv ru ⟨m, x, y, s, hR, hx, hy, hg⟩
theorem bind_ne (self : Value) : bindSpecial (.builtin "object.__ne__") self = pure (.builtin "object.__ne__", [self]) := by
  unfold bindSpecial
  first | rfl | (simp only [F.cmpKind_ne]; rfl) | kernel_rfl
def notR (r : Res D) : Res D := match r with | .ok (.bl k) s => .ok (.bl (!k)) s | _ => .bad
def dOwnNe (c : Str) (F : List D → M D) (o : D → D → M D) (x y : D) : M D := fun s => if both c x y s = true then notR (F [x, y] s) else o x y s
theorem oi_neOwn {o : D → D → M D} (ob : OpI X (compareOp .NotEq) o) (hm : X.mg c = some (.ref C)) (hn : PySem.W.notFirst X.K C (.ref C) = true) (hs : PySem.W.findIn X.K (.ref C) "__eq__" = some (some (.ref f))) (hf : PySem.W.isFn X.K (.ref f) = true)
    (hne : PySem.W.findIn X.K (.ref C) "__ne__" = some (some (.builtin "object.__ne__"))) (hob : PySem.W.subIn X.K (.ref C) (.type "object") = some true)
    (G : FnJ X.prog X.w X.K X.mg X.base k f F) (hr : Room (k + 1) X.A) (hgd : X.A.guards = some []) : OpI X (compareOp .NotEq) (dOwnNe c F o) := by
  intro pins sh σ H v u v' u' Q I rv ru ⟨m, x, y, s, hR, hx, hy, hg⟩
  unfold dOwnNe at hg
  split at hg
  · rename_i hb
    obtain ⟨a, dx, gs, b, dy, hs', rfl, rfl, h1, h2⟩ := both_at hm hR hx hy hb
    obtain rfl : v' = Value.ref a := rv
    obtain rfl : u' = Value.ref b := ru
    obtain ⟨ox, od, J⟩ := inst_at I h1
    obtain ⟨oy, oe, J'⟩ := inst_at I h2
    have hg2 : Go W0 X.K X.mg [] (RV X.K) m H (nox (F [x, y]) s) (fun w H' => ∃ kk, w = .bl kk ∧ Q (.bl (!kk)) H') := by
      unfold notR at hg
      unfold nox
      cases q : F [x, y] s with
      | ok d s' =>
        rw [q] at hg
        intro w m' H' ee rr vv
        cases d with
        | bl kk =>
          cases vv
          exact ⟨kk, rfl, hg _ m' H' ee rr (.bl _)⟩
        | _ => exact hg.elim
      | exc c' fs' s' => rw [q] at hg; exact hg.elim
      | bad => rw [q] at hg; exact hg.elim
    have hin : PySem.W.Looks (model X.prog X.w) sh.heap (isInstance (.ref a) (.type "object")) true := J.type.andThen (PySem.W.looks_subIn I.kIn hob)
    have hbd : ∀ self, PySem.W.Looks (model X.prog X.w) sh.heap (bindSpecial (.builtin "object.__ne__") self) (.builtin "object.__ne__", [self]) := fun self => PySem.W.Looks.of_pure (bind_ne self)
    show wpAny _ _ (richCompare .NotEq _ _) _ _ _
    refine ne_own (tb := .ref C) (by have := hr.units; omega) I.kIn J J'.type hn hne hs hf hbd hin (wpAny_mono (callN (vs := [.ref a, .ref b]) G hr.in1 hgd I.env0.in1 I (.cons rfl (.cons rfl .nil)) hR (.cons hx (.cons hy .nil)) hg2) (fun w s' z => ?_) fun _ _ z => z)
    obtain ⟨z', H', I', rz, kk, rfl, qz⟩ := z
    cases (show w = Value.bool kk from rz)
    exact ⟨kk, rfl, .bl (!kk), H', I', rfl, qz⟩
  · exact ob pins sh σ H v u v' u' Q I rv ru ⟨m, x, y, s, hR, hx, hy, hg⟩
end
end RQ

/-! instances called; defs with *rest; star arguments -/
namespace RQ
open PySem PySem.Spec PyProof.Rows L2
section
variable {X : Cx} {W : WX} {k : Nat} {f C : Addr} {c : Str} {F : List D → M D} {a o e fe : Expr} {es : List Expr} {fs : EV → M (List D)} {fo : EV → M D} {pos p : Pos}
/-- f(e, ..), f an instance of the class c -/
def isC (c : Str) (x : D) (s : Sto) : Bool := match insV s x with | some (c1, _) => c1 == c | none => false
def mCallO (c : Str) (F : List D → M D) (fo : EV → M D) (fs : EV → M (List D)) : EV → M D := fun σ => bnd (fo σ) fun x s => if isC c x s = true then bnd (fs σ) (fun xs s2 => if isC c x s2 = true then F (x :: xs) s2 else .bad) s else .bad
theorem isC_at {m : MM} {s : Sto} {H : Hp} {x : D} {v : V} (hm : X.mg c = some (.ref C)) (hR : R X.K X.mg m s H) (rx : RV X.K m (hid m H) x v) (h : isC c x s = true) : ∃ ad dx gs, v = .ref ad ∧ H ad = some (.ins C dx gs) := by
  unfold isC at h
  split at h
  · rename_i c1 f1 e1
    have q1 := eq_of_beq h
    subst q1
    obtain ⟨ad, C1, dx, gs, rfl, h1, h2, _⟩ := insV_at hR rx e1
    rw [hm] at h1
    cases h1
    exact ⟨ad, dx, gs, rfl, h2⟩
  · cases h
theorem ie_callO (hm : X.mg c = some (.ref C)) (co : StX.CallO X.K C f) (G : FnJ X.prog X.w X.K X.mg X.base k f F) (hr : Room k X.A) (hgd : X.A.guards = some []) (tk : Takes X W) (hf : IE X W fe fo) (ha : IA X W (a :: es) fs)
    (ht : eval (.Call fe (a :: es) [] pos) X.env = (do callWith pos (← eval fe X.env) [] (backTo pos (starEach (a :: es) X.env)) (backToKw pos (keywordEach [] X.env))) := by rfl)
    (he : starEach (a :: es) X.env = (false, eval a X.env) :: starEach es X.env := by rfl) (hpl : (backTo pos (starEach es X.env)).any (·.1) = false := by rfl) : IE X W (.Call fe (a :: es) [] pos) (mCallO c F fo fs) := by
  refine ⟨⟨fun pins sh σ H Q I ⟨m, σd, t, hR, hS, hG⟩ => ?_⟩⟩
  refine Call_ (thn (hf.pe.run pins sh σ H _ I ⟨m, σd, t, hR, hS, Go.bnd (rel := RV X.K) hG⟩) fun u s1 ⟨v, H1, I1, rx, m1, d, t1, e1, r1, v1, g1⟩ => ?_) ht
  split at g1
  · rename_i hc1
    obtain ⟨ad, dx, gs, rfl, h1⟩ := isC_at hm r1 v1 hc1
    obtain rfl : u = Value.ref ad := rx
    refine StX.callO_with (thn (ha.pa.run pos pins s1 σ H1 _ I1 ⟨m1, σd, t1, r1, hS.mono e1.pre e1.same, Go.bnd (rel := RVs X.K) g1⟩) fun us s2 ⟨vs, H2, I2, rv, m2, xs, t2, e2, r2, v2, g2⟩ => ?_) he hpl
    split at g2
    · rename_i hc2
      have v1' := v1.mono e2.pre e2.same
      obtain ⟨ad', dx', gs', ead, h2⟩ := isC_at hm r2 v1' hc2
      cases ead
      obtain ⟨ox, od, J, hd⟩ := StX.insC_at I2 (.inr ⟨dx', gs', h2⟩)
      refine ⟨⟨C, ox, od, J, hd⟩, wpAny_call (PySem.W.kco_code I2.kIn J hd co.at_ co.fn co.fi ?_)⟩
      refine codeAny_mono (G X.A X.stack s2 H2 (.ref ad :: us) (.ref ad :: vs) (d :: xs) m2 t2 Q (fun c d H => W c d σ H) hr hgd I2.env0 (.cons rfl rv) r2 (.cons v1' v2) (Go.we (pins := pins) g2)) fun r s' hq => ?_
      cases r with
      | error e => exact tk e s' (XE.of_call I2 (fun _ _ _ z => z) hq)
      | ok fl =>
        cases fl with
        | ret u => exact I2.after hq
        | next => exact hq.elim
        | brk => exact hq.elim
        | cont => exact hq.elim
    · exact g2.elim
  · exact g1.elim
end
/-! ### def f(a, .., *rest) -/
def starF (n : Nat) (F : List D → M D) : List D → M D := fun xs s => if n ≤ xs.length ∧ xs.length ≤ lim then F (xs.take n ++ [.tup (xs.drop n)]) s else .bad
section
variable {P : Program} {w : World} {K : PySem.W.Frag} {mg : Str → Option Value} {base : Heap} {k : Nat}
theorem fn_istar {x qual pv : Str} {st : Stmt} {f : Addr} {fd : FuncData} {N ps : List Str} {B : SM} {n np : Nat} (hn : N.length = n) (hp : ps.length = np) (F : Fn K x qual st f fd) (S : FnScope N (ps ++ [pv]) (defScope st)) (hCX : StX.CXUp (L2.CX P w))
    (hb : ∀ us rest : List Value, us.length = ps.length → bindArgs fd ⟨us ++ rest, []⟩ = (newTuple rest >>= fun t => pure (ps.zip us ++ [(pv, t)])))
    (hB : ∀ (cdv : Value) (A : Around) (outer : List Env) (s : Shared) (H : Hp) (E : XK), Room k (A.deeper (envOfC qual (defScope st) s.heap.objs.size f cdv)) → A.guards = some [] →
      ISs (cxOf (L2.CX P w) P w K mg base N qual (defScope st) f cdv A outer s H E) (WE E) (defBody st) B) : FnJ P w K mg base (k + 1) f (starF np (runB n B)) := by
  subst hn
  subst hp
  obtain ⟨oc, od, dV, kV, doc, pm, an, cdv, ct, osl, rfl, lk, hcd⟩ := F.at'
  intro A outer s H us vs ds m t Q E hr hgd e0 rv hR hV hG
  unfold starF at hG
  split at hG
  · rename_i hl
    obtain ⟨l1, l2⟩ := hl
    have hvl := hV.length
    obtain ⟨u1, u2, eu, q1, q2⟩ := StX.vals_split (show Vals (vs.take ps.length ++ vs.drop ps.length) us by rw [List.take_append_drop]; exact rv)
    subst eu
    have z1 : (vs.take ps.length).length = ps.length := by rw [List.length_take]; omega
    have hl1 : u1.length = ps.length := by rw [← q1.length]; exact z1
    have hz : (vs.drop ps.length).length ≤ sizeLine := by
      rw [List.length_drop]
      exact Nat.le_trans (Nat.sub_le _ _) (by rw [hvl]; exact lim_le l2)
    have fresh : H s.heap.objs.size = none := e0.hok.fresh (Nat.le_refl _)
    refine StX.run_bnd lk hcd S hr e0 (G := fun xs H2 => ∃ p, H p = none ∧ xs = vs.take ps.length ++ [V.ref p] ∧ H2 = upd H p (.tup (vs.drop ps.length))) (fun A' Ex Q' h => ?_) fun s2 H2 xs ⟨p, hp, ex, eH⟩ hr' => ?_
    · rw [hb u1 u2 hl1]
      refine wpAny_bind (wpAny_newTuple (wpAny_pure ?_) (by rw [← q2.length]; exact hz))
      have nob : ObjOk P w (upd H s.heap.objs.size (.tup (vs.drop ps.length))) (s.heap.push ({ cls := .type "tuple", data := .seq u2.toArray } : Obj)) s.heap.objs.size (.tup (vs.drop ps.length)) := ⟨hz, u2, q2, ⟨_, Heap.get?_push_size _ rfl, rfl, _, rfl⟩⟩
      have unl := StX.un_laid (fs := frs outer) (s := s) (o := ({ cls := .type "tuple", data := .seq u2.toArray } : Obj)) (u := .tup (vs.drop ps.length)) fresh
      have zz := h _ _ (vs.take ps.length ++ [V.ref s.heap.objs.size]) (u1 ++ [Value.ref s.heap.objs.size]) (StX.env0_laid e0 nob) unl rfl (fun e s' => hCX outer s H _ _ E e s' unl (fun b o q => Heap.get?_push_of_some _ q) rfl) (q1.append (.cons rfl .nil))
        (by rw [List.length_append, List.length_append, z1]; rfl) ⟨_, fresh, rfl, rfl⟩
      rw [List.zip_append hl1.symm] at zz
      exact zz
    · subst ex eH
      obtain ⟨e1, r1, hh⟩ := hR.newF (o := .tup (vs.drop ps.length)) hp
      have v1 : RVs K m (hid m (upd H p (.tup (vs.drop ps.length)))) (ds.take ps.length ++ [.tup (ds.drop ps.length)]) (vs.take ps.length ++ [.ref p]) :=
        ((hV.mono e1.pre e1.same).take _).append (.cons (.tup (.inl (.inl hh)) ((hV.mono e1.pre e1.same).drop _)) .nil)
      refine ⟨_, (hB cdv A outer s2 _ E hr' hgd).ps, m, _, t, r1, rs_start v1, ?_⟩
      have hG2 := Go.ext e1 hG
      unfold runB at hG2
      cases e : B ((ds.take ps.length ++ [D.tup (ds.drop ps.length)]).map some ++ List.replicate (N.length - (ds.take ps.length ++ [D.tup (ds.drop ps.length)]).length) none) t with
      | go fl σ' s' =>
        rw [e] at hG2
        cases fl with
        | nx => exact fun σ2 m2 H2 e2 r2 _ => hG2 _ m2 H2 e2 r2 .non
        | rt d => exact fun σ2 m2 H2 e2 r2 _ v hv => hG2 v m2 H2 e2 r2 hv
        | bk => exact hG2.elim
        | ct => exact hG2.elim
      | exc c fs σ' s' =>
        rw [e] at hG2
        exact fun C d σ2 m2 H2 e2 r2 _ hc hx => hG2 C d m2 H2 e2 r2 hc hx
      | bad => rw [e] at hG2; exact hG2.elim
  · exact hG.elim
end
end RQ

/-! small helps for the printed walks: classes -/
namespace RQ
open PySem PySem.Spec PyProof.Rows L2
section
variable {X : Cx} {k j : Nat} {C f p : Addr} {c mn : Str} {F : List D → M D} {alts : Alts}
theorem alt0 : AltOk X k mn [] := fun c F h => by simp at h
theorem altC (hm : X.mg c = some (.ref C)) (hc : Cls X.K C) (hM : Meth X.K C mn f) (G : FnJ X.prog X.w X.K X.mg X.base j f F) (hj : j ≤ k) (r : AltOk X k mn alts) : AltOk X k mn ((c, F) :: alts) := fun c' F' h => by
  rw [List.lookup_cons] at h
  split at h
  · rename_i e
    cases h
    have e' := eq_of_beq e
    subst e'
    exact ⟨C, f, hm, hc, hM, G.mono hj⟩
  · exact r c' F' h
theorem prop0 : PropOkD X k mn [] := fun c F h => by simp at h
theorem propC (hm : X.mg c = some (.ref C)) (hc : Cls X.K C) (hP : PropOf X.K C mn p f) (G : FnJ X.prog X.w X.K X.mg X.base j f F) (hj : j ≤ k) (r : PropOkD X k mn alts) : PropOkD X k mn ((c, F) :: alts) := fun c' F' h => by
  rw [List.lookup_cons] at h
  split at h
  · rename_i e
    cases h
    have e' := eq_of_beq e
    subst e'
    exact ⟨C, p, f, hm, hc, hP, G.mono hj⟩
  · exact r c' F' h
theorem clsF0 {fn : Str} : ClsF X [] fn := fun c h => by cases h
theorem clsFC {fn : Str} {cs : List Str} (hm : X.mg c = some (.ref C)) (hc : Cls X.K C) (hn : NoAttr X.K C fn) (r : ClsF X cs fn) : ClsF X (c :: cs) fn := fun c' h C' hm' => by
  rcases List.mem_cons.mp h with e | e
  · subst e
    rw [hm] at hm'
    cases hm'
    exact ⟨hc, hn⟩
  · exact r c' e C' hm'
end
end RQ

/-! isinstance with own classes; lists unpacked; C(*xs) -/
namespace RQ
open PySem PySem.Spec PyProof.Rows L2
/-- what a class must say, so that isinstance asks its instances rightly -/
structure CIs (K : PySem.W.Frag) (C : Addr) : Prop where
  ha : PySem.W.findIn K (.ref C) "__class__" = some (some (.builtin "object.__class__"))
  hn : PySem.W.specialIn K (.builtin "object.__class__") "__get__" = some (some (.builtin "getset_descriptor.__get__"))
  htk : PySem.W.takesIn K (.builtin "object.__class__") = some true
  hm : PySem.W.mroIn K C (.type "object") = some true
/-- no plain value is an instance of C -/
structure KitC (K : PySem.W.Frag) (C : Addr) : Prop where
  non : PySem.W.kitOne K (.type "NoneType") (.ref C) = some false
  bl : PySem.W.kitOne K (.type "bool") (.ref C) = some false
  int : PySem.W.kitOne K (.type "int") (.ref C) = some false
  str : PySem.W.kitOne K (.type "str") (.ref C) = some false
  tup : PySem.W.kitOne K (.type "tuple") (.ref C) = some false
  lst : PySem.W.kitOne K (.type "list") (.ref C) = some false
  dic : PySem.W.kitOne K (.type "dict") (.ref C) = some false
theorem KitC.of {K : PySem.W.Frag} {C : Addr} (h : KitC K C) {s : Sto} {x : D} {t : String} (e : tyN s x = some t) : PySem.W.kitOne K (.type t) (.ref C) = some false := by
  unfold tyN at e
  split at e
  · cases e; exact h.non
  · cases e; exact h.bl
  · cases e; exact h.int
  · cases e; exact h.str
  · cases e; exact h.tup
  · cases e; exact h.lst
  · cases e; exact h.lst
  · cases e; exact h.dic
  · split at e
    · cases e; exact h.lst
    · cases e; exact h.dic
    · cases e
  · cases e
section
variable {X : Cx} {W : WX} {k : Nat} {f C : Addr} {c x : Str} {F : List D → M D} {a o e : Expr} {es : List Expr} {fs : EV → M (List D)} {fo : EV → M D} {pos p p2 pp : Pos}
abbrev ITab := List (Str × Bool)
def TabOk (X : Cx) (C : Addr) (tab : ITab) : Prop := ∀ c b, tab.lookup c = some b → ∃ C', X.mg c = some (.ref C') ∧ Cls X.K C' ∧ CIs X.K C' ∧ PySem.W.kitOne X.K (.ref C') (.ref C) = some b
theorem tab0 : TabOk X C [] := fun c b h => by simp at h
theorem tabC {C' : Addr} {b : Bool} {tab : ITab} (hm : X.mg c = some (.ref C')) (hc : Cls X.K C') (hi : CIs X.K C') (hk : PySem.W.kitOne X.K (.ref C') (.ref C) = some b) (r : TabOk X C tab) : TabOk X C ((c, b) :: tab) := fun c' b' h => by
  rw [List.lookup_cons] at h
  split at h
  · rename_i e
    cases h
    have e' := eq_of_beq e
    subst e'
    exact ⟨C', hm, hc, hi, hk⟩
  · exact r c' b' h
def gIsi (tab : ITab) (x : D) : M D := fun s => match insV s x with
  | some (c, _) => (match tab.lookup c with | some b => .ok (.bl b) s | none => .bad)
  | none => (match tyN s x with | some _ => .ok (.bl false) s | none => .bad)
def mIsi (tab : ITab) (fo : EV → M D) : EV → M D := fun σ => bnd (fo σ) (gIsi tab)
def cIsiC (C : Addr) (tab : ITab) (xs : List D) : M D := fun s => match xs with | [x, .obj C'] => (if C' = C then gIsi tab x s else .bad) | _ => .bad
theorem ci_isiC {tab : ITab} (ok : TabOk X C tab) (kc : KitC X.K C) : CallI X (.builtin "isinstance") (cIsiC C tab) := by
  refine call_mono call_isi fun vs H Q ⟨m, xs, s, hR, hx, hg⟩ => ?_
  unfold cIsiC at hg
  split at hg
  · rename_i x C'
    split at hg
    · rename_i hC
      subst hC
      obtain ⟨v, u, rfl, q, q'⟩ := rv2 hx
      cases q'
      unfold gIsi at hg
      split at hg
      · rename_i c fs e
        split at hg
        · rename_i b eb
          obtain ⟨ad, C1, dx, gs, rfl, h1, h2, _⟩ := insV_at hR q e
          obtain ⟨C2, g1, g2, g3, g4⟩ := ok c b eb
          rw [h1] at g1
          cases g1
          exact ⟨.ref ad, _, .ref C1, _, b, rfl, .own _, .base (.ins h2 g2 g3.ha g3.hn g3.htk g3.hm), g4, hg.ok hR (.bl _)⟩
        · exact hg.elim
      · split at hg
        · rename_i t et
          exact ⟨v, _, .type t, _, false, rfl, .own _, tyN_ok hR q et, kc.of et, hg.ok hR (.bl _)⟩
        · exact hg.elim
    · exact hg.elim
  · exact hg.elim
theorem ie_isiC {tab : ITab} (ok : TabOk X C tab) (kc : KitC X.K C) (hg : Gl X "isinstance") (hz : X.mg "isinstance" = none) (hgc : Gl X c) (hm : X.mg c = some (.ref C)) (ho : IE X W o fo)
    (hdb : (c == ("__debug__" : Str)) = false := by decide)
    (he : starEach (o :: [.Name c p2]) X.env = (false, eval o X.env) :: starEach [.Name c p2] X.env := by rfl) :
    IE X W (.Call (.Name "isinstance" pp) [o, .Name c p2] [] pos) (mIsi tab fo) := by
  have h2 : IE X W (.Name c p2) (cst (.obj C)) := ie_glob (v := .ref C) hgc hm rfl (fun _ _ => .obj C) hdb
  have h := ie_callB (pos := pos) (pp := pp) (ci_isiC ok kc) hg hz bt_isinstance (ia_cons ho (ia_cons h2 ia_nil rfl) he) (by decide) (by decide) he
  refine ⟨pe_mono h.pe fun σ H Q ⟨m, σd, s, hR, hS, hG⟩ => ⟨m, σd, s, hR, hS, ?_⟩⟩
  have e : mC (cIsiC C tab) (aCons fo (aCons (cst (.obj C)) aNil)) σd s = (fo σd s).bnd fun x => nox (gIsi tab x) := by
    unfold mC aCons aNil cst bnd ret
    cases fo σd s with
    | ok d s' =>
      show nox (cIsiC C tab [d, .obj C]) s' = nox (gIsi tab d) s'
      unfold nox cIsiC
      simp only [↓reduceIte]
    | exc c fs s' => rfl
    | bad => rfl
  rw [e]
  have e2 : mIsi tab fo σd s = (fo σd s).bnd fun x => nox (gIsi tab x) := by
    unfold mIsi bnd
    cases fo σd s with
    | ok d s' =>
      show gIsi tab d s' = nox (gIsi tab d) s'
      unfold nox gIsi
      split
      · split <;> rfl
      · split <;> rfl
    | exc c fs s' => rfl
    | bad => rfl
  rw [← e2]
  exact hG
/-! ### a, b, .. = a list -/
def tLst (gs : TFs) : TF := fun d σ => match d with | .lst ds => gs ds σ | _ => none
theorem ig_lst {vs : List Nat} {es : List Expr} {k n : Nat} {gs : TFs} (hc : X.calm = true) (h : IGs X vs es n gs) (hn : (assignEach es X.env).length = n := by rfl) (hst : (assignEach es X.env).findIdx? (·.1) = none := by rfl) : IG X vs (.Tuple es k pos) (tLst gs) := by
  refine ⟨pg_mono (pg_lst hc h.pg hn hst) fun v σ H Q ⟨m, d, σd, s, σd', hR, hv, hS, hg, hQ⟩ => ?_⟩
  unfold tLst at hg
  split at hg
  · cases hv with
    | lst q qs => exact ⟨_, _, rfl, .inl (.inl (hid_sub _ _ _ _ q)), by rw [qs.length]; exact h.len _ _ _ hg, m, _, σd, s, σd', hR, qs, hS, hg, hQ⟩
  · cases hg
/-! ### C(*xs) -/
def seqAny (s : Sto) (x : D) : Option (List D) := match x with
  | .tup ds => some ds
  | x => asLL s x
theorem seqAny_at {m : MM} {s : Sto} {H : Hp} {x : D} {v : V} {ds : List D} (hR : R X.K X.mg m s H) (r : RV X.K m (hid m H) x v) (h : seqAny s x = some ds) : ∃ ad vs, v = .ref ad ∧ (SqT X.K H ad vs ∨ SqL X.K H ad vs) ∧ RVs X.K m (hid m H) ds vs := by
  unfold seqAny at h
  split at h
  · cases h
    obtain ⟨a, vs, rfl, h1, h2⟩ := tup_at r
    exact ⟨a, vs, rfl, .inl h1, h2⟩
  · obtain ⟨a, vs, rfl, h1, h2⟩ := asLL_at hR r h
    exact ⟨a, vs, rfl, .inr h1, h2⟩
def mMkS (c : Str) (F : List D → M D) (fo : EV → M D) : EV → M D := fun σ => bnd (fo σ) fun x s => match seqAny s x with | some ds => mMk c F ds s | none => .bad
theorem ie_makeS (M : Mk X.K C f) (G : FnJ X.prog X.w X.K X.mg X.base k f F) (hr : Room (k + 1) X.A) (hgd : X.A.guards = some []) (tk : Takes X W) (hg : Gl X x) (hm : X.mg x = some (.ref C)) (hns : PySem.W.nsIn X.K mainGlobals x = some (some (.ref C))) (ho : IE X W o fo)
    (hdb : (x == ("__debug__" : Str)) = false := by decide) (hst : starEach [.Starred o p2] X.env = [(true, eval o X.env)] := by rfl) :
    IE X W (.Call (.Name x p) [.Starred o p2] [] pos) (mMkS x F fo) := by
  refine ⟨⟨fun pins s σ H Q I ⟨m, σd, t, hR, hS, hG⟩ => ?_⟩⟩
  refine wpAny_Call_Name_kw (ld_glob I hg hm (PySem.W.callWith_S (h₀ := X.base) I.ok.mod.kin M.kp (thn (ho.pe.run pins s σ H _ I ⟨m, σd, t, hR, hS, Go.bnd (rel := RV X.K) hG⟩) fun u s1 ⟨v, H1, I1, rx, m1, d, t1, e1, r1, v1, g1⟩ => ?_) hst) hdb)
  split at g1
  · rename_i ds e
    obtain ⟨ad, vs, rfl, h1, h2⟩ := seqAny_at r1 v1 e
    obtain rfl : u = Value.ref ad := rx
    exact StX.star_any I1 h1 fun us s2 I2 rv => ⟨I2.kIn, makeJ M hns G hr hgd tk I2 rv r1 h2 g1⟩
  · exact g1.elim
end
end RQ

/-! what a call has made and will not change any more becomes plain data: the store shrinks to what stood before -/
namespace RQ
open PySem PySem.Spec PyProof.Rows L2
/-- all references are below n -/
inductive Cl (n : Nat) : D → Prop where
  | non : Cl n .non
  | bl (b : Bool) : Cl n (.bl b)
  | int (i : Int) : Cl n (.int i)
  | str (x : Str) : Cl n (.str x)
  | ty (x : String) : Cl n (.ty x)
  | obj (a : Addr) : Cl n (.obj a)
  | ref {k : Nat} : k < n → Cl n (.ref k)
  | tup {xs : List D} : (∀ x ∈ xs, Cl n x) → Cl n (.tup xs)
  | lst {xs : List D} : (∀ x ∈ xs, Cl n x) → Cl n (.lst xs)
  | sls {xs : List D} : (∀ x ∈ xs, Cl n x) → Cl n (.sls xs)
  | dic {kvs : List (Key × D)} : (∀ x ∈ kvs.map (·.2), Cl n x) → Cl n (.dic kvs)
  | ins {c : Str} {fs : List (Str × D)} : (∀ x ∈ fs.map (·.2), Cl n x) → Cl n (.ins c fs)
def ClO (n : Nat) : O → Prop
  | .lst xs => ∀ x ∈ xs, Cl n x
  | .dic kvs => ∀ x ∈ kvs.map (·.2), Cl n x
  | .ins _ fs => ∀ x ∈ fs.map (·.2), Cl n x
def frz (n : Nat) (s : Sto) : Nat → D → Option D
  | 0, _ => none
  | f + 1, d => match d with
    | .ref k => if k < n then some (.ref k) else match s[k]? with
      | some (.lst xs) => (allM (frz n s f) xs).map .lst
      | some (.dic kvs) => (allM (frz n s f) (kvs.map (·.2))).map fun ys => .dic ((kvs.map (·.1)).zip ys)
      | some (.ins c fs) => (allM (frz n s f) (fs.map (·.2))).map fun ys => .ins c ((fs.map (·.1)).zip ys)
      | none => none
    | .tup xs => (allM (frz n s f) xs).map .tup
    | .lst xs => (allM (frz n s f) xs).map .lst
    | .sls xs => (allM (frz n s f) xs).map .sls
    | .dic kvs => (allM (frz n s f) (kvs.map (·.2))).map fun ys => .dic ((kvs.map (·.1)).zip ys)
    | .ins c fs => (allM (frz n s f) (fs.map (·.2))).map fun ys => .ins c ((fs.map (·.1)).zip ys)
    | d => some d
section
variable {K : PySem.W.Frag} {mg : Str → Option Value} {m m' : MM} {G G' : Hp}
mutual
theorem RV.cl : ∀ {d : D} {v : V}, RV K m G d v → Cl m.ix.length d
  | _, _, .non => .non
  | _, _, .bl b => .bl b
  | _, _, .int i => .int i
  | _, _, .str x => .str x
  | _, _, .ty n => .ty n
  | _, _, .obj a => .obj a
  | _, _, .ref h => .ref (List.getElem?_eq_some_iff.mp h).1
  | _, _, .tup _ r => .tup (RVs.cl r)
  | _, _, .lst _ r => .lst (RVs.cl r)
  | _, _, .sls _ r => .sls (RVs.cl r)
  | _, _, .dic _ _ r => .dic (RVs.cl r)
  | _, _, .ins _ _ _ r => .ins (RVs.cl r)
theorem RVs.cl : ∀ {ds : List D} {vs : List V}, RVs K m G ds vs → ∀ x ∈ ds, Cl m.ix.length x
  | _, _, .nil => fun x h => by cases h
  | _, _, .cons h r => fun x hx => by
    rcases List.mem_cons.mp hx with e | e
    · rw [e]; exact RV.cl h
    · exact RVs.cl r x e
end
theorem take_at {α : Type} {l : List α} {n k : Nat} {a : α} (h : l[k]? = some a) (hk : k < n) : (l.take n)[k]? = some a := by
  rw [List.getElem?_take, if_pos hk]; exact h
mutual
theorem RV.cutN {n : Nat} (hm : m'.ix = m.ix.take n) (hs : Same G G') : ∀ {d : D} {v : V}, RV K m G d v → Cl n d → RV K m' G' d v
  | _, _, .non, _ => .non
  | _, _, .bl b, _ => .bl b
  | _, _, .int i, _ => .int i
  | _, _, .str x, _ => .str x
  | _, _, .ty n, _ => .ty n
  | _, _, .obj a, _ => .obj a
  | _, _, .ref h, c => .ref (by
      cases c with
      | ref hk => rw [hm]; exact take_at h hk)
  | _, _, .tup h r, c => .tup (sqt_mono hs h) (RVs.cutN hm hs r (by cases c with | tup q => exact q))
  | _, _, .lst h r, c => .lst (hs _ _ h) (RVs.cutN hm hs r (by cases c with | lst q => exact q))
  | _, _, .sls h r, c => .sls (sql_mono hs h) (RVs.cutN hm hs r (by cases c with | sls q => exact q))
  | _, _, .dic h e r, c => .dic (rd_mono hs h) e (RVs.cutN hm hs r (by cases c with | dic q => exact q))
  | _, _, .ins n h e r, c => .ins n (hs _ _ h) e (RVs.cutN hm hs r (by cases c with | ins q => exact q))
theorem RVs.cutN {n : Nat} (hm : m'.ix = m.ix.take n) (hs : Same G G') : ∀ {ds : List D} {vs : List V}, RVs K m G ds vs → (∀ x ∈ ds, Cl n x) → RVs K m' G' ds vs
  | _, _, .nil, _ => .nil
  | _, _, .cons h r, c => .cons (RV.cutN hm hs h (c _ List.mem_cons_self)) (RVs.cutN hm hs r fun x hx => c x (List.mem_cons_of_mem _ hx))
end
variable {s : Sto} {H : Hp} {n : Nat}
/-- the first n things of the store alone -/
def MM.cut (m : MM) (n : Nat) : MM := ⟨m.ix.take n, m.ex⟩
theorem has_cut {a : Addr} (h : (m.cut n).has a) : m.has a := h.elim (fun z => .inl (List.mem_of_mem_take z)) .inr
theorem same_cut : Same (hid m H) (hid (m.cut n) H) := fun b u q => by
  obtain ⟨q1, q2⟩ := of_hid q
  rw [hid_out fun z => q1 (has_cut z)]; exact q2
theorem R.seen (r : R K mg m s H) {k : Nat} {a : Addr} {o : HO} (h : m.ix[k]? = some a) (hk : n ≤ k) (ho : H a = some o) : hid (m.cut n) H a = some o := by
  rw [hid_out, ho]
  rintro (z | z)
  · obtain ⟨j, hj⟩ := List.getElem?_of_mem z
    rw [show (m.cut n).ix = m.ix.take n from rfl, List.getElem?_take] at hj
    split at hj
    · rename_i hjn
      obtain ⟨x1, y1⟩ := List.getElem?_eq_some_iff.mp h
      obtain ⟨x2, y2⟩ := List.getElem?_eq_some_iff.mp hj
      have := (List.getElem_inj r.nd).mp (y1.trans y2.symm)
      omega
    · cases hj
  · exact (r.ext a z).2 (List.mem_of_getElem? h)
theorem fst_zip {α β : Type} : ∀ {xs : List α} {ys : List β}, ys.length = xs.length → (xs.zip ys).map (·.1) = xs
  | [], _, _ => rfl
  | x :: xs, [], h => by simp at h
  | x :: xs, y :: ys, h => by
    rw [List.zip_cons_cons, List.map_cons, fst_zip (by simpa using h)]
theorem snd_zip {α β : Type} : ∀ {xs : List α} {ys : List β}, ys.length = xs.length → (xs.zip ys).map (·.2) = ys
  | [], [], _ => rfl
  | [], y :: ys, h => by simp at h
  | x :: xs, [], h => by simp at h
  | x :: xs, y :: ys, h => by
    rw [List.zip_cons_cons, List.map_cons, snd_zip (by simpa using h)]
theorem RV.frz (r : R K mg m s H) : ∀ (f : Nat) (d d' : D) (v : V), RV K m (hid m H) d v → frz n s f d = some d' → RV K (m.cut n) (hid (m.cut n) H) d' v
  | 0, _, _, _, _, h => by cases h
  | f + 1, d, d', v, hv, h => by
    have all : ∀ (ds ds' : List D) (vs : List V), RVs K m (hid m H) ds vs → allM (RQ.frz n s f) ds = some ds' → RVs K (m.cut n) (hid (m.cut n) H) ds' vs := by
      intro ds
      induction ds with
      | nil => intro ds' vs r e; cases r; cases e; exact .nil
      | cons d ds ih =>
        intro ds' vs rr e
        cases rr with
        | cons r1 r2 =>
          unfold allM at e
          split at e
          · rename_i a b e1 e2
            cases e
            exact .cons (RV.frz r f d _ _ r1 e1) (ih _ _ r2 e2)
          · cases e
    have sm : Same (hid m H) (hid (m.cut n) H) := same_cut
    unfold RQ.frz at h
    split at h
    · rename_i k
      cases hv with
      | ref q =>
        split at h
        · rename_i hk
          cases h
          exact .ref (take_at q hk)
        · rename_i hk
          have hk : n ≤ k := by omega
          split at h
          · rename_i xs e
            obtain ⟨ys, e2, rfl⟩ := Option.map_eq_some_iff.mp h
            obtain ⟨vs, h1, h2⟩ := r.obj _ _ _ q e
            exact .lst (r.seen q hk h1) (all _ _ _ h2 e2)
          · rename_i kvs e
            obtain ⟨ys, e2, rfl⟩ := Option.map_eq_some_iff.mp h
            obtain ⟨kws, h1, h2, h3⟩ := r.obj _ _ _ q e
            have hl := allM_len e2
            rw [List.length_map] at hl
            have hl' : ys.length = (kvs.map (·.1)).length := by rw [List.length_map]; exact hl
            refine .dic (.inl (r.seen q hk h1)) (by rw [fst_zip hl']; exact h2) ?_
            rw [snd_zip hl']
            exact all _ _ _ h3 e2
          · rename_i c fs e
            obtain ⟨ys, e2, rfl⟩ := Option.map_eq_some_iff.mp h
            obtain ⟨C, dx, gs, hm, h1, h2, h3⟩ := r.obj _ _ _ q e
            have hl := allM_len e2
            rw [List.length_map] at hl
            have hl' : ys.length = (fs.map (·.1)).length := by rw [List.length_map]; exact hl
            refine .ins hm (r.seen q hk h1) (by rw [fst_zip hl']; exact h2) ?_
            rw [snd_zip hl']
            exact all _ _ _ h3 e2
          · cases h
    · obtain ⟨ys, e2, rfl⟩ := Option.map_eq_some_iff.mp h
      cases hv with
      | tup q qs => exact .tup (sqt_mono sm q) (all _ _ _ qs e2)
    · obtain ⟨ys, e2, rfl⟩ := Option.map_eq_some_iff.mp h
      cases hv with
      | lst q qs => exact .lst (sm _ _ q) (all _ _ _ qs e2)
    · obtain ⟨ys, e2, rfl⟩ := Option.map_eq_some_iff.mp h
      cases hv with
      | sls q qs => exact .sls (sql_mono sm q) (all _ _ _ qs e2)
    · rename_i kvs
      obtain ⟨ys, e2, rfl⟩ := Option.map_eq_some_iff.mp h
      have hl := allM_len e2
      rw [List.length_map] at hl
      have hl' : ys.length = (kvs.map (·.1)).length := by rw [List.length_map]; exact hl
      cases hv with
      | dic q e qs =>
        refine .dic (rd_mono sm q) (by rw [fst_zip hl']; exact e) ?_
        rw [snd_zip hl']
        exact all _ _ _ qs e2
    · rename_i c fs
      obtain ⟨ys, e2, rfl⟩ := Option.map_eq_some_iff.mp h
      have hl := allM_len e2
      rw [List.length_map] at hl
      have hl' : ys.length = (fs.map (·.1)).length := by rw [List.length_map]; exact hl
      cases hv with
      | ins hn q e qs =>
        refine .ins hn (sm _ _ q) (by rw [fst_zip hl']; exact e) ?_
        rw [snd_zip hl']
        exact all _ _ _ qs e2
    · cases h
      cases hv with
      | non => exact .non
      | bl => exact .bl _
      | int => exact .int _
      | str => exact .str _
      | ty => exact .ty _
      | obj => exact .obj _
      | ref _ => rename_i hx _ _ _ _ _; exact absurd rfl (hx _)
      | tup _ _ => rename_i hx _ _ _ _; exact absurd rfl (hx _)
      | lst _ _ => rename_i hx _ _ _; exact absurd rfl (hx _)
      | sls _ _ => rename_i hx _ _; exact absurd rfl (hx _)
      | dic _ _ _ => rename_i hx _; exact absurd rfl (hx _)
      | ins _ _ _ _ => rename_i hx; exact absurd rfl (hx _ _)
theorem RVs.frz (r : R K mg m s H) {f : Nat} : ∀ (ds ds' : List D) (vs : List V), RVs K m (hid m H) ds vs → allM (RQ.frz n s f) ds = some ds' → RVs K (m.cut n) (hid (m.cut n) H) ds' vs
  | [], _, _, .nil, e => by cases e; exact .nil
  | d :: ds, ds', _, .cons r1 r2, e => by
    unfold allM at e
    split at e
    · rename_i a b e1 e2
      cases e
      exact .cons (RV.frz r f d _ _ r1 e1) (RVs.frz r ds _ _ r2 e2)
    · cases e
theorem R.cutR (r : R K mg m s H) (hn : n ≤ s.length) (hc : ∀ (i : Nat) (o : O), i < n → s[i]? = some o → ClO n o) : R K mg (m.cut n) (s.take n) H := by
  refine ⟨by show (m.ix.take n).length = _; rw [List.length_take, List.length_take, r.len], r.nd.sublist (List.take_sublist _ _), fun i a o h1 h2 => ?_, fun a ha => ⟨(r.ext a ha).1, fun z => (r.ext a ha).2 (List.mem_of_mem_take z)⟩, r.ns⟩
  rw [show (m.cut n).ix = m.ix.take n from rfl, List.getElem?_take] at h1
  rw [List.getElem?_take] at h2
  split at h1
  · rename_i hi
    rw [if_pos hi] at h2
    have q := r.obj i a o h1 h2
    have c := hc i o hi h2
    cases o with
    | lst ds => obtain ⟨vs, z, y⟩ := q; exact ⟨vs, z, y.cutN rfl same_cut c⟩
    | dic kvs => obtain ⟨vs, z, y, x⟩ := q; exact ⟨vs, z, y, x.cutN rfl same_cut c⟩
    | ins c' fs => obtain ⟨C, dx, gs, z, y, x, u⟩ := q; exact ⟨C, dx, gs, z, y, x, u.cutN rfl same_cut c⟩
  · cases h1
theorem RO.cl {a : Addr} : ∀ {o : O}, RO K mg m H a o → ClO m.ix.length o
  | .lst _, ⟨_, _, r⟩ => r.cl
  | .dic _, ⟨_, _, _, r⟩ => r.cl
  | .ins _ _, ⟨_, _, _, _, _, _, r⟩ => r.cl
/-- what stood before is as it was, or holds nothing new -/
def Keeps (s s' : Sto) : Prop := s.length ≤ s'.length ∧ ∀ (i : Nat) (o : O), i < s.length → s'[i]? = some o → s[i]? = some o ∨ ClO s.length o
open Classical in
noncomputable def frzR (s : Sto) (r : Res D) : Res D := match r with
  | .ok d s' => if Keeps s s' then (match frz s.length s' 20 d with | some d' => .ok d' (s'.take s.length) | none => .bad) else .bad
  | .exc c fs s' => if Keeps s s' then (match allM (frz s.length s' 20) (fs.map (·.2)) with | some ys => .exc c ((fs.map (·.1)).zip ys) (s'.take s.length) | none => .bad) else .bad
  | .bad => .bad
theorem frz_ok {s s' : Sto} {d d' : D} (h : Keeps s s') (hd : frz s.length s' 20 d = some d') : frzR s (.ok d s') = .ok d' (s'.take s.length) := by
  unfold frzR
  simp only [if_pos h, hd]
theorem frz_exc {s s' : Sto} {c : Str} {fs : List (Str × D)} {ys : List D} (h : Keeps s s') (hd : allM (frz s.length s' 20) (fs.map (·.2)) = some ys) : frzR s (.exc c fs s') = .exc c ((fs.map (·.1)).zip ys) (s'.take s.length) := by
  unfold frzR
  simp only [if_pos h, hd]
theorem Go.frz {W : WX} {σ : SV} {r : Res D} {Q : VK} (hR : R K mg m s H) (h : Go W K mg σ (RV K) m H (frzR s r) Q) : Go W K mg σ (RV K) m H r Q := by
  have key : ∀ {m' : MM} {s' : Sto} {H' : Hp}, Ext m H m' H' → R K mg m' s' H' → Keeps s s' → Ext m H (m'.cut s.length) H' ∧ R K mg (m'.cut s.length) (s'.take s.length) H' := by
    intro m' s' H' e r' k
    obtain ⟨t, ht⟩ := e.pre
    have hix : (m'.cut s.length).ix = m.ix := by
      show m'.ix.take s.length = m.ix
      rw [← ht, ← hR.len, List.take_left]
    refine ⟨⟨by rw [hix]; exact List.prefix_rfl, e.same.trans same_cut, e.exq, e.keep⟩, r'.cutR k.1 fun i o hi ho => ?_⟩
    rcases k.2 i o hi ho with q | q
    · obtain ⟨a, ha⟩ : ∃ a, m.ix[i]? = some a := ⟨_, List.getElem?_eq_getElem (by rw [hR.len]; exact hi)⟩
      have := (hR.obj i a o ha q).cl
      rw [hR.len] at this
      exact this
    · exact q
  unfold frzR at h
  cases r with
  | bad => exact h
  | ok d s' =>
    simp only at h
    split at h
    · rename_i k
      split at h
      · rename_i d' e
        intro b m' H' e' r' v'
        obtain ⟨x1, x2⟩ := key e' r' k
        exact h b _ H' x1 x2 (v'.frz r' 20 _ _ _ e)
      · exact h.elim
    · exact h.elim
  | exc c fs s' =>
    simp only at h
    split at h
    · rename_i k
      split at h
      · rename_i ys e
        intro C d m' H' e' r' hc hx
        obtain ⟨x1, x2⟩ := key e' r' k
        refine h C d _ H' x1 x2 hc ?_
        have hl := allM_len e
        have hl' : ys.length = (fs.map (·.1)).length := by rw [List.length_map]; rw [List.length_map] at hl; exact hl
        rcases hx with ⟨rfl, rfl⟩ | ⟨dx, gs, rfl, g1, g2, g3⟩
        · exact .inl ⟨rfl, rfl⟩
        · refine .inr ⟨dx, gs, rfl, same_cut _ _ g1, by rw [fst_zip hl']; exact g2, ?_⟩
          rw [snd_zip hl']
          exact RVs.frz r' _ _ _ g3 e
      · exact h.elim
    · exact h.elim
end
section
variable {X : Cx} {W : WX} {e : Expr} {f : EV → M D}
noncomputable def fz (F : M D) : M D := fun s => frzR s (F s)
noncomputable def fzE (f : EV → M D) : EV → M D := fun σ => fz (f σ)
noncomputable def fzF (F : List D → M D) : List D → M D := fun ds => fz (F ds)
theorem ie_fz (h : IE X W e f) : IE X W e (fzE f) := ⟨pe_mono h.pe fun σ H Q ⟨m, σd, s, hR, hS, hG⟩ => ⟨m, σd, s, hR, hS, Go.frz hR hG⟩⟩
variable {P : Program} {w : World} {K : PySem.W.Frag} {mg : Str → Option Value} {base : Heap} {k : Nat} {f : Addr} {fd : FuncData} {ps : List Str} {F : List D → M D}
theorem FnI.fz (h : FnI P w K mg base k f fd ps F) : FnI P w K mg base k f fd ps (fzF F) :=
  ⟨fun A outer s H args us vs ds m t Q E hr hgd e0 hb rv hl hR hV hG => h.run A outer s H args us vs ds m t Q E hr hgd e0 hb rv hl hR hV (Go.frz hR hG)⟩
theorem FnJ.fz (h : FnJ P w K mg base k f F) : FnJ P w K mg base k f (fzF F) :=
  fun A outer s H us vs ds m t Q E hr hgd e0 rv hR hV hG => h A outer s H us vs ds m t Q E hr hgd e0 rv hR hV (Go.frz hR hG)
end
end RQ

namespace RQ
open PySem PySem.Spec PyProof.Rows L2
/-! ### reckoning with the mirrors: each step where its argument is known -/
def seqR (r : SRes) (G : SM) (_ : Tie G := Tie.mk) : SRes := match r with | .go .nx σ s => G σ s | r => r
def noxR {α : Type} (r : Res α) : Res α := match r with | .exc _ _ _ => .bad | r => r
def kTst (x : D) : M Bool := match x with | .bl k => ret k | _ => bad
def kAnd (g : M D) (x : D) : M D := match x with | .bl true => g | .bl false => ret (.bl false) | _ => bad
def kOr (g : M D) (x : D) : M D := match x with | .bl true => ret (.bl true) | .bl false => g | _ => bad
def kNot (x : D) : M D := match x with | .bl k => ret (.bl (!k)) | _ => bad
def kChn (o' : D → D → M D) (h : M D) (y z : D) : M D := match z with | .bl true => bnd h fun w => nox (o' y w) | .bl false => ret (.bl false) | _ => bad
def kOso (x : D) : M (Option Int) := match x with | .int i => ret (some i) | _ => bad
def kRng (x : D) : M Src := match x with | .int j => if -(2 ^ 62) ≤ j ∧ j < 2 ^ 62 then ret (fix (rng 0 j)) else bad | _ => bad
def kDic (x y : D) : M D := match toKey x with | some k => ret (.dic [(k, y)]) | none => bad
def kAsg (o : Option EV) (s : Sto) : SRes := match o with | some σ' => .go .nx σ' s | none => .bad
section
variable {α β : Type} {σ : EV} {s : Sto}
theorem e_bnd (f : M α) (g : α → M β) : bnd f g s = (f s).bnd g := rfl
theorem e_bok (a : α) (g : α → M β) : (Res.ok a s).bnd g = g a s := rfl
theorem e_bexc (c : Str) (fs : List (Str × D)) (g : α → M β) : (Res.exc c fs s : Res α).bnd g = .exc c fs s := rfl
theorem e_ret (a : α) : ret a s = .ok a s := rfl
theorem e_nox (f : M α) : nox f s = noxR (f s) := by unfold nox noxR; cases f s <;> rfl
theorem e_nok (a : α) : noxR (.ok a s) = .ok a s := rfl
theorem e_cst (d : D) : cst d σ s = .ok d s := rfl
theorem e_yes : yes σ s = .ok true s := rfl
theorem e_get (i : Nat) {d : D} (h : σ[i]? = some (some d)) : vGet i σ s = .ok d s := by unfold vGet; rw [h]
theorem e_m2 (o : D → D → M D) (f g : EV → M D) : m2 o f g σ s = (f σ s).bnd fun x => bnd (g σ) fun y => nox (o x y) := rfl
theorem e_m1 (o : D → M D) (f : EV → M D) : m1 o f σ s = (f σ s).bnd fun x => nox (o x) := rfl
theorem e_tst (f : EV → M D) : tst f σ s = (f σ s).bnd kTst := rfl
theorem k_tst (k : Bool) : kTst (.bl k) s = .ok k s := rfl
theorem e_chn (o o' : D → D → M D) (f g h : EV → M D) : chn o o' f g h σ s = (f σ s).bnd fun x => bnd (g σ) fun y => bnd (nox (o x y)) (kChn o' (h σ) y) := rfl
theorem k_chnT (o' : D → D → M D) (h : M D) (y : D) : kChn o' h y (.bl true) s = (h s).bnd fun w => nox (o' y w) := rfl
theorem k_chnF (o' : D → D → M D) (h : M D) (y : D) : kChn o' h y (.bl false) s = .ok (.bl false) s := rfl
theorem e_and (p q : EV → M Bool) : mAnd p q σ s = (p σ s).bnd fun k => if k = true then q σ else ret false := rfl
theorem e_or (p q : EV → M Bool) : mOr p q σ s = (p σ s).bnd fun k => if k = true then ret true else q σ := rfl
theorem e_not (p : EV → M Bool) : mNot p σ s = (p σ s).bnd fun k => ret (!k) := rfl
theorem e_vand (f g : EV → M D) : vAnd f g σ s = (f σ s).bnd (kAnd (g σ)) := rfl
theorem k_andT (g : M D) : kAnd g (.bl true) s = g s := rfl
theorem k_andF (g : M D) : kAnd g (.bl false) s = .ok (.bl false) s := rfl
theorem e_vor (f g : EV → M D) : vOr f g σ s = (f σ s).bnd (kOr (g σ)) := rfl
theorem k_orT (g : M D) : kOr g (.bl true) s = .ok (.bl true) s := rfl
theorem k_orF (g : M D) : kOr g (.bl false) s = g s := rfl
theorem e_vnot (f : EV → M D) : vNot f σ s = (f σ s).bnd kNot := rfl
theorem k_not (k : Bool) : kNot (.bl k) s = .ok (.bl (!k)) s := rfl
theorem e_mif (p : EV → M Bool) (f g : EV → M D) : mIf p f g σ s = (p σ s).bnd fun k => if k = true then f σ else g σ := rfl
theorem e_anil : aNil σ s = .ok [] s := rfl
theorem e_acons (f : EV → M D) (fs : EV → M (List D)) : aCons f fs σ s = (f σ s).bnd fun x => bnd (fs σ) fun xs => ret (x :: xs) := rfl
theorem e_mC (k : List D → M D) (fs : EV → M (List D)) : mC k fs σ s = (fs σ s).bnd fun xs => nox (k xs) := rfl
theorem e_call (n : Nat) (F : List D → M D) (fs : EV → M (List D)) : mCall n F fs σ s = (fs σ s).bnd fun xs s => if xs.length = n then F xs s else .bad := rfl
theorem e_mM (T : String) (k : D → List D → M D) (f : EV → M D) (fs : EV → M (List D)) : mM T k f fs σ s = (f σ s).bnd fun x s => if isT T x s = true then bnd (fs σ) (fun xs => nox (k x xs)) s else .bad := rfl
theorem e_sl (o : D → Option Int → Option Int → M D) (f : EV → M D) (u v : EV → M (Option Int)) : mSl o f u v σ s = (f σ s).bnd fun x => bnd (u σ) fun i => bnd (v σ) fun j => nox (o x i j) := rfl
theorem e_ono : oNo σ s = .ok none s := rfl
theorem e_oso (f : EV → M D) : oSo f σ s = (f σ s).bnd kOso := rfl
theorem k_oso (i : Int) : kOso (.int i) s = .ok (some i) s := rfl
theorem e_dic1 (f g : EV → M D) : mDic1 f g σ s = noxR ((f σ s).bnd fun x => bnd (g σ) (kDic x)) := by
  unfold mDic1; rw [e_nox]; rfl
/-! statements -/
theorem e_seq (F G : SM) : sSeq F G σ s = seqR (F σ s) G := rfl
theorem e_snx (G : SM) : seqR (.go .nx σ s) G = G σ s := rfl
theorem e_srt (d : D) (G : SM) : seqR (.go (.rt d) σ s) G = .go (.rt d) σ s := rfl
theorem e_sbk (G : SM) : seqR (.go .bk σ s) G = .go .bk σ s := rfl
theorem e_sct (G : SM) : seqR (.go .ct σ s) G = .go .ct σ s := rfl
theorem e_lok (a : α) (k : α → Sto → SRes) : lft (.ok a s) σ k = k a s := rfl
theorem e_nxs : sNx σ s = .go .nx σ s := rfl
theorem e_bks : sBk σ s = .go .bk σ s := rfl
theorem e_cts : sCt σ s = .go .ct σ s := rfl
theorem e_ex (f : EV → M D) : sEx f σ s = lft (f σ s) σ fun _ s' => .go .nx σ s' := rfl
theorem e_rt (f : EV → M D) : sRt f σ s = lft (f σ s) σ fun d s' => .go (.rt d) σ s' := rfl
theorem e_set (i : Nat) (f : EV → M D) : sSet i f σ s = lft (f σ s) σ fun d s' => .go .nx (σ.set i (some d)) s' := rfl
theorem e_if (p : EV → M Bool) (F G : SM) : sIf p F G σ s = lft (p σ s) σ fun k s' => if k = true then F σ s' else G σ s' := rfl
theorem e_par (i j : Nat) (f g : EV → M D) : sPar i j f g σ s = lft ((f σ s).bnd fun x => bnd (g σ) fun y => ret (x, y)) σ fun d s' => .go .nx ((σ.set i (some d.1)).set j (some d.2)) s' := rfl
theorem e_asg (g : TF) (f : EV → M D) : sAsg g f σ s = lft (f σ s) σ fun d s' => kAsg (g d σ) s' := rfl
theorem k_asg (σ' : EV) : kAsg (some σ') s = .go .nx σ' s := rfl
theorem e_setix (f fo fi : EV → M D) : sSetIx f fo fi σ s = lft ((f σ s).bnd fun x => bnd (fo σ) fun o => bnd (fi σ) fun i => ret (x, o, i)) σ fun d s' => match dSetL d.2.1 d.2.2 d.1 s' with | some s2 => .go .nx σ s2 | none => .bad := rfl
theorem e_augix (oper : D → D → M D) (fo fi f : EV → M D) : sAugIx oper fo fi f σ s = lft ((fo σ s).bnd fun o => bnd (fi σ) fun i => bnd (nox (sAugIx.dIxL o i)) fun x => bnd (f σ) fun y => bnd (nox (oper x y)) fun z => ret (o, i, z)) σ fun d s' =>
    match dSetL d.1 d.2.1 d.2.2 s' with | some s2 => .go .nx σ s2 | none => .bad := rfl
theorem e_aug (i : Nat) (o : D → D → M D) (f : EV → M D) {x : D} (h : σ[i]? = some (some x)) : sAug i o f σ s = lft ((f σ s).bnd fun y => nox (o x y)) σ fun d s' => .go .nx (σ.set i (some d)) s' := by unfold sAug; rw [h]; rfl
/-! for, comprehensions, over what stays -/
def forL (body : D → SM) : List D → SM
  | [] => fun σ s => .go .nx σ s
  | d :: ds => fun σ s => match body d σ s with
    | .go .nx σ' s' => forL body ds σ' s'
    | .go .ct σ' s' => forL body ds σ' s'
    | .go .bk σ' s' => .go .nx σ' s'
    | r => r
theorem forS_fix (ds : List D) (body : D → SM) : ∀ (i : Nat) (σ : EV) (s : Sto), i ≤ ds.length → forS (fix ds) body (ds.length - i + 1) i σ s = forL body (ds.drop i) σ s := by
  intro i
  generalize hk : ds.length - i = k
  induction k generalizing i with
  | zero =>
    intro σ s h
    have e : i = ds.length := by omega
    subst e
    simp [forS, fix, forL]
  | succ k ih =>
    intro σ s h
    have hi : i < ds.length := by omega
    rw [List.drop_eq_getElem_cons hi]
    unfold forS
    simp only [fix, List.getElem?_eq_getElem hi, forL]
    cases body ds[i] σ s with
    | go fl σ' s' => cases fl <;> first | rfl | exact ih (i + 1) (by omega) σ' s' (by omega)
    | exc c fs σ' s' => rfl
    | bad => rfl
theorem e_for (ds : List D) (body : D → SM) (n : Nat) (h : n = ds.length + 1) : forS (fix ds) body n 0 σ s = forL body ds σ s := by
  subst h
  simpa using forS_fix ds body 0 σ s (Nat.zero_le _)
theorem e_sFor (f : EV → M Src) (g : TF) (F : SM) : sFor f g F σ s = lft (f σ s) σ fun J s' => forS J (bdy g F) (J.n + 1) 0 σ s' := rfl
theorem e_forfix (ds : List D) (body : D → SM) : forS (fix ds) body ((fix ds).n + 1) 0 σ s = forL body ds σ s := e_for ds body _ rfl
theorem e_src (f : EV → M D) : mSrc f σ s = (f σ s).bnd kSrc := rfl
theorem e_rng1 (f : EV → M D) : mRng1 f σ s = (f σ s).bnd kRng := rfl
theorem k_rng (j : Int) (h : -(2 ^ 62) ≤ j ∧ j < 2 ^ 62) : kRng (.int j) s = .ok (fix (rng 0 j)) s := by
  show (if -(2 ^ 62) ≤ j ∧ j < 2 ^ 62 then ret (fix (rng 0 j)) else bad) s = _
  rw [if_pos h]; rfl
theorem e_enum (f : EV → M D) : mEnum f σ s = (f σ s).bnd kEnum := rfl
def cmpL (g : TF) (t : EV → M Bool) (e : EV → M D) (σ : EV) : List D → List D → M (List D)
  | [], acc => fun s => .ok acc s
  | d :: ds, acc => fun s => match g d σ with
    | none => .bad
    | some σ2 => match t σ2 s with
      | .ok false s1 => cmpL g t e σ ds acc s1
      | .ok true s1 => (match e σ2 s1 with
        | .ok y s2 => if acc.length < lim then cmpL g t e σ ds (acc ++ [y]) s2 else .bad
        | _ => .bad)
      | _ => .bad
theorem cmp_fix (ds : List D) (g : TF) (t : EV → M Bool) (e : EV → M D) (σ : EV) : ∀ (i : Nat) (acc : List D) (s : Sto), i ≤ ds.length → cmp (fix ds) g t e σ (ds.length - i + 1) i acc s = cmpL g t e σ (ds.drop i) acc s := by
  intro i
  generalize hk : ds.length - i = k
  induction k generalizing i with
  | zero =>
    intro acc s h
    have e : i = ds.length := by omega
    subst e
    simp [cmp, fix, cmpL]
  | succ k ih =>
    intro acc s h
    have hi : i < ds.length := by omega
    rw [List.drop_eq_getElem_cons hi]
    unfold cmp
    simp only [fix, List.getElem?_eq_getElem hi, cmpL]
    have ih' := fun acc s => ih (i + 1) (by omega) acc s (by omega)
    simp only [fix] at ih'
    cases g ds[i] σ with
    | none => rfl
    | some σ2 =>
      simp only
      cases t σ2 s with
      | ok b s1 =>
        cases b with
        | false => simp only; exact ih' acc s1
        | true =>
          simp only
          cases e σ2 s1 with
          | ok y s2 => simp only; split; exact ih' _ s2; rfl
          | exc c fs s2 => rfl
          | bad => rfl
      | exc c fs s1 => rfl
      | bad => rfl
theorem e_lc (own : List Nat) (f : EV → M Src) (g : TF) (t : EV → M Bool) (e : EV → M D) (k : List D → M D) : mLc own f g t e k σ s = (f σ s).bnd fun J => bnd (nox (cmp J g t e (wipeD σ own) (J.n + 1) 0 [])) k := rfl
theorem e_cmpfix (ds : List D) (g : TF) (t : EV → M Bool) (e : EV → M D) (σ : EV) : cmp (fix ds) g t e σ ((fix ds).n + 1) 0 [] s = cmpL g t e σ ds [] s := by
  have h := cmp_fix ds g t e σ 0 [] s (Nat.zero_le _)
  rw [List.drop_zero, Nat.sub_zero] at h
  exact h
/-- a comprehension whose element is a plain function of the item, and changes nothing -/
theorem cmpL_map {g : TF} {e : EV → M D} {σ : EV} {h : D → D} (s : Sto) : ∀ (ds acc : List D), acc.length + ds.length ≤ lim → (∀ d ∈ ds, ∃ σ2, g d σ = some σ2 ∧ e σ2 s = .ok (h d) s) → cmpL g yes e σ ds acc s = .ok (acc ++ ds.map h) s
  | [], acc, _, _ => by simp [cmpL]
  | d :: ds, acc, hl, H => by
    obtain ⟨σ2, h1, h2⟩ := H d List.mem_cons_self
    rw [List.length_cons] at hl
    unfold cmpL
    simp only [h1, yes, h2]
    rw [if_pos (by omega), cmpL_map s ds (acc ++ [h d]) (by rw [List.length_append, List.length_singleton]; omega) fun d' hd => H d' (List.mem_cons_of_mem _ hd)]
    simp
/-- .. with a test -/
theorem cmpL_filter {g : TF} {t : EV → M Bool} {e : EV → M D} {σ : EV} {p : D → Bool} {h : D → D} (s : Sto) : ∀ (ds acc : List D), acc.length + ds.length ≤ lim → (∀ d ∈ ds, ∃ σ2, g d σ = some σ2 ∧ t σ2 s = .ok (p d) s ∧ e σ2 s = .ok (h d) s) → cmpL g t e σ ds acc s = .ok (acc ++ (ds.filter p).map h) s
  | [], acc, _, _ => by simp [cmpL]
  | d :: ds, acc, hl, H => by
    obtain ⟨σ2, h1, h2, h3⟩ := H d List.mem_cons_self
    rw [List.length_cons] at hl
    unfold cmpL
    simp only [h1, h2, h3]
    cases hp : p d with
    | false =>
      simp only
      rw [cmpL_filter s ds acc (by omega) fun d' hd => H d' (List.mem_cons_of_mem _ hd), List.filter_cons_of_neg (by simp [hp])]
    | true =>
      simp only [h3]
      rw [if_pos (by omega), cmpL_filter s ds (acc ++ [h d]) (by rw [List.length_append, List.length_singleton]; omega) fun d' hd => H d' (List.mem_cons_of_mem _ hd), List.filter_cons_of_pos hp]
      simp
/-! by values -/
theorem v_addI (i j : Int) : dAdd (.int i) (.int j) s = .ok (.int (i + j)) s := rfl
theorem v_addII (i j : Int) : dAddI (.int i) (.int j) s = .ok (.int (i + j)) s := rfl
theorem v_sub (i j : Int) : dSub (.int i) (.int j) s = .ok (.int (i - j)) s := rfl
theorem v_neg (i : Int) : dNeg (.int i) s = .ok (.int (-i)) s := rfl
theorem v_mul (i j : Int) (h : mulOk i j) : dMul (.int i) (.int j) s = .ok (.int (i * j)) s := by unfold dMul; exact if_pos h
theorem v_div (i j : Int) (h : 0 < j ∧ j.natAbs.log2 < 9000) : dDiv (.int i) (.int j) s = .ok (.int (i / j)) s := by unfold dDiv; exact if_pos h
theorem v_mod (i j : Int) (h : 0 < j) : dMod (.int i) (.int j) s = .ok (.int (i % j)) s := by unfold dMod; exact if_pos h
theorem v_pow (i j : Int) (h : 0 ≤ j ∧ j ≤ 1000000 ∧ i.natAbs < 2 ^ 64) : dPow (.int i) (.int j) s = .ok (.int (i ^ j.toNat)) s := by unfold dPow; exact if_pos h
theorem v_eqI (i j : Int) : dEq (.int i) (.int j) s = .ok (.bl (i == j)) s := rfl
theorem v_eqS (i j : Str) : dEq (.str i) (.str j) s = .ok (.bl (i == j)) s := rfl
theorem v_eqB (i j : Bool) : dEq (.bl i) (.bl j) s = .ok (.bl (i == j)) s := rfl
theorem v_neI (i j : Int) : dNe (.int i) (.int j) s = .ok (.bl (!(i == j))) s := rfl
theorem v_neS (i j : Str) : dNe (.str i) (.str j) s = .ok (.bl (!(i == j))) s := rfl
theorem v_lt (i j : Int) : dLt (.int i) (.int j) s = .ok (.bl (decide (i < j))) s := rfl
theorem v_le (i j : Int) : dLe (.int i) (.int j) s = .ok (.bl (decide (i ≤ j))) s := rfl
theorem v_gt (i j : Int) : dGt (.int i) (.int j) s = .ok (.bl (decide (j < i))) s := rfl
theorem v_ge (i j : Int) : dGe (.int i) (.int j) s = .ok (.bl (decide (j ≤ i))) s := rfl
theorem v_ixL (xs : List D) (i : Int) {d : D} (h : atI xs i = some d) : dIx (.lst xs) (.int i) s = .ok d s := by unfold dIx asLL asL; simp only [h]
theorem v_ixT (xs : List D) (i : Int) {d : D} (h : atI xs i = some d) : dIx (.tup xs) (.int i) s = .ok d s := by unfold dIx; simp only [h]
theorem v_ixR (n : Nat) (i : Int) {xs : List D} {d : D} (hs : s[n]? = some (.lst xs)) (h : atI xs i = some d) : dIx (.ref n) (.int i) s = .ok d s := by unfold dIx asLL asL; simp only [hs, h]
theorem v_ixS (z : Str) (i : Int) {c : Nat} (hl : z.length ≤ lim) (h : atI z.cps.toList i = some c) : dIx (.str z) (.int i) s = .ok (.str ⟨#[c]⟩) s := by unfold dIx; simp only [if_pos hl, h]
theorem v_lenR (n : Nat) {xs : List D} (hs : s[n]? = some (.lst xs)) : cLen [.ref n] s = .ok (.int xs.length) s := by unfold cLen asLL asL; simp only [hs]
theorem v_lenL (xs : List D) : cLen [.lst xs] s = .ok (.int xs.length) s := rfl
theorem v_lenT (xs : List D) : cLen [.tup xs] s = .ok (.int xs.length) s := rfl
theorem v_lenSl (xs : List D) : cLen [.sls xs] s = .ok (.int xs.length) s := rfl
theorem v_lenS (z : Str) (h : z.length ≤ lim) : cLen [.str z] s = .ok (.int z.length) s := by unfold cLen; exact if_pos h
end
theorem at_lit {α : Type} (xs : List α) (k : Nat) : atI xs (no_index (OfNat.ofNat k : Int)) = xs[k]? := by
  show atI xs ((k : Nat) : Int) = _
  unfold atI ixN
  rw [if_pos (Int.natCast_nonneg k)]
  by_cases h : k < xs.length
  · rw [if_pos (by exact Int.ofNat_lt.mpr h)]; rfl
  · rw [if_neg (by intro z; exact h (Int.ofNat_lt.mp z)), List.getElem?_eq_none (by omega)]; rfl
theorem at_nat {α : Type} (xs : List α) {i : Int} (h : 0 ≤ i) : atI xs i = xs[i.toNat]? := by
  obtain ⟨k, rfl⟩ := Int.eq_ofNat_of_zero_le h
  exact at_lit xs k
theorem ix_lit' (n k : Nat) : ixN n (no_index (OfNat.ofNat k : Int)) = if k < n then some k else none := by
  show ixN n ((k : Nat) : Int) = _
  unfold ixN
  rw [if_pos (Int.natCast_nonneg k)]
  by_cases h : k < n
  · rw [if_pos (by exact Int.ofNat_lt.mpr h), if_pos h]; rfl
  · rw [if_neg (by intro z; exact h (Int.ofNat_lt.mp z)), if_neg h]
theorem ix_lit (n k : Nat) (h : k < n) : ixN n (no_index (OfNat.ofNat k : Int)) = some k := by
  show ixN n ((k : Nat) : Int) = _
  unfold ixN
  rw [if_pos (Int.natCast_nonneg k), if_pos (by exact Int.ofNat_lt.mpr h)]; rfl
def oo (o : Option (Option D)) (s : Sto) : Res D := match o with | some (some d) => .ok d s | _ => .bad
def o1 (o : Option D) (s : Sto) : Res D := match o with | some d => .ok d s | none => .bad
def ixO (o : Option O) (i : Int) (s : Sto) : Res D := match o with | some (.lst xs) => o1 (atI xs i) s | _ => .bad
def lenO (o : Option O) (s : Sto) : Res D := match o with | some (.lst xs) => .ok (.int xs.length) s | _ => .bad
def setO (o : Option O) (n : Nat) (i : Int) (v : D) (s : Sto) : Option Sto := match o with | some (.lst xs) => (ixN xs.length i).map fun j => s.set n (.lst (xs.set j v)) | _ => none
def retOf (r : SRes) : Res D := match r with | .go .nx _ s' => .ok .non s' | .go (.rt d) _ s' => .ok d s' | .exc c fs _ s' => .exc c fs s' | _ => .bad
def goO (o : Option Sto) (σ : EV) : SRes := match o with | some s => .go .nx σ s | none => .bad
section
variable {σ : EV} {s : Sto}
theorem f_get (i : Nat) : vGet i σ s = oo σ[i]? s := rfl
theorem f_oo (d : D) : oo (some (some d)) s = .ok d s := rfl
theorem f_o1 (d : D) : o1 (some d) s = .ok d s := rfl
theorem f_ixR (n : Nat) (i : Int) : dIx (.ref n) (.int i) s = ixO s[n]? i s := by
  unfold dIx asLL asL ixO o1
  rcases h : s[n]? with _ | o
  · simp only [h]
  · cases o <;> simp only [h] <;> rfl
theorem f_ixO (xs : List D) (i : Int) : ixO (some (.lst xs)) i s = o1 (atI xs i) s := rfl
theorem f_ixL (xs : List D) (i : Int) : dIx (.lst xs) (.int i) s = o1 (atI xs i) s := rfl
theorem f_ixSl (xs : List D) (i : Int) : dIx (.sls xs) (.int i) s = o1 (atI xs i) s := rfl
theorem f_ixT (xs : List D) (i : Int) : dIx (.tup xs) (.int i) s = o1 (atI xs i) s := rfl
theorem f_lenR (n : Nat) : cLen [.ref n] s = lenO s[n]? s := by
  unfold cLen asLL asL lenO
  rcases h : s[n]? with _ | o
  · simp only [h]
  · cases o <;> simp only [h] <;> rfl
theorem f_lenO (xs : List D) : lenO (some (.lst xs)) s = .ok (.int xs.length) s := rfl
theorem f_augR (n : Nat) (i : Int) : sAugIx.dIxL (.ref n) (.int i) s = ixO s[n]? i s := by
  unfold sAugIx.dIxL asLL asL ixO o1
  rcases h : s[n]? with _ | o
  · simp only [h]
  · cases o <;> simp only [h] <;> rfl
theorem f_setR (n : Nat) (i : Int) (v : D) : dSetL (.ref n) (.int i) v s = setO s[n]? n i v s := by
  unfold dSetL lstAt setO
  rcases h : s[n]? with _ | o
  · simp only [h]
  · cases o with
    | lst xs => simp only [h]; cases ixN xs.length i <;> rfl
    | dic kvs => simp only [h]
    | ins c fs => simp only [h]
theorem f_setO (n : Nat) (i : Int) (v : D) (xs : List D) : setO (some (.lst xs)) n i v s = (ixN xs.length i).map fun j => s.set n (.lst (xs.set j v)) := rfl
theorem f_goO (s2 : Sto) : goO (some s2) σ = .go .nx σ s2 := rfl
theorem f_setix (f fo fi : EV → M D) : sSetIx f fo fi σ s = lft ((f σ s).bnd fun x => bnd (fo σ) fun o => bnd (fi σ) fun i => ret (x, o, i)) σ fun d s' => goO (dSetL d.2.1 d.2.2 d.1 s') σ := by
  rfl
theorem f_augix (oper : D → D → M D) (fo fi f : EV → M D) : sAugIx oper fo fi f σ s = lft ((fo σ s).bnd fun o => bnd (fi σ) fun i => bnd (nox (sAugIx.dIxL o i)) fun x => bnd (f σ) fun y => bnd (nox (oper x y)) fun z => ret (o, i, z)) σ fun d s' => goO (dSetL d.1 d.2.1 d.2.2 s') σ := by
  rfl
theorem f_run (n : Nat) (B : SM) (ds : List D) : runB n B ds s = retOf (B (ds.map some ++ List.replicate (n - ds.length) none) s) := rfl
theorem f_rt (d : D) : retOf (.go (.rt d) σ s) = .ok d s := rfl
theorem f_nx : retOf (.go .nx σ s) = .ok .non s := rfl
end
end RQ

namespace RQ
open PySem PySem.Spec PyProof.Rows L2 TL
/-! ### loops and comprehensions whose turns change the store, by an invariant -/
theorem cmpL_inv {g : TF} {e : EV → M D} {σ : EV} (I : Nat → Sto → Prop) (P : D → Prop) : ∀ (ds acc : List D) (s : Sto) (k : Nat), I k s →
    (∀ d ∈ ds, ∀ k' s', I k' s' → k' < k + ds.length → ∃ σ2 y s2, g d σ = some σ2 ∧ e σ2 s' = .ok y s2 ∧ P y ∧ I (k' + 1) s2) → acc.length + ds.length ≤ lim →
    ∃ ys s2, cmpL g yes e σ ds acc s = .ok (acc ++ ys) s2 ∧ ys.length = ds.length ∧ (∀ y ∈ ys, P y) ∧ I (k + ds.length) s2
  | [], acc, s, k, h0, _, _ => ⟨[], s, by simp [cmpL], rfl, (fun _ z => nomatch z), h0⟩
  | d :: ds, acc, s, k, h0, H, hl => by
    rw [List.length_cons] at hl
    obtain ⟨σ2, y, s1, h1, h2, h3, h4⟩ := H d List.mem_cons_self k s h0 (by rw [List.length_cons]; omega)
    obtain ⟨ys, s2, q1, q2, q3, q4⟩ := cmpL_inv I P ds (acc ++ [y]) s1 (k + 1) h4 (fun d' hd k' s' hi hk => H d' (List.mem_cons_of_mem _ hd) k' s' hi (by rw [List.length_cons]; omega)) (by rw [List.length_append, List.length_singleton]; omega)
    refine ⟨y :: ys, s2, ?_, by rw [List.length_cons, List.length_cons, q2], fun z hz => (List.mem_cons.mp hz).elim (fun e => e ▸ h3) (q3 z), by rw [List.length_cons, show k + (ds.length + 1) = k + 1 + ds.length by omega]; exact q4⟩
    unfold cmpL
    simp only [h1, yes, h2]
    rw [if_pos (by omega), q1]
    simp
theorem forL_inv {body : D → SM} (I : Nat → EV → Sto → Prop) : ∀ (ds : List D) (σ : EV) (s : Sto) (k : Nat), I k σ s →
    (∀ d ∈ ds, ∀ k' σ' s', I k' σ' s' → k' < k + ds.length → ∃ σ2 s2, body d σ' s' = .go .nx σ2 s2 ∧ I (k' + 1) σ2 s2) → ∃ σ2 s2, forL body ds σ s = .go .nx σ2 s2 ∧ I (k + ds.length) σ2 s2
  | [], σ, s, k, h0, _ => ⟨σ, s, rfl, h0⟩
  | d :: ds, σ, s, k, h0, H => by
    obtain ⟨σ1, s1, h1, h2⟩ := H d List.mem_cons_self k σ s h0 (by rw [List.length_cons]; omega)
    obtain ⟨σ2, s2, q1, q2⟩ := forL_inv I ds σ1 s1 (k + 1) h2 fun d' hd k' σ' s' hi hk => H d' (List.mem_cons_of_mem _ hd) k' σ' s' hi (by rw [List.length_cons]; omega)
    refine ⟨σ2, s2, ?_, by rw [List.length_cons, show k + (ds.length + 1) = k + 1 + ds.length by omega]; exact q2⟩
    unfold forL
    simp only [h1]
    exact q1
theorem e_bdy (g : TF) (F : SM) (d : D) {σ σ' : EV} {s : Sto} (h : g d σ = some σ') : bdy g F d σ s = F σ' s := by unfold bdy; rw [h]
/-! ### isinstance -/
def isiB (o : Option Bool) (s : Sto) : Res D := match o with | some b => .ok (.bl b) s | none => .bad
def isiO (o : Option String) (c : String) (s : Sto) : Res D := match o with | some t => isiB (kitB t c) s | none => .bad
theorem f_isi {s : Sto} (x : D) (c : String) : cIsi [x, .ty c] s = isiO (tyN s x) c s := by
  unfold cIsi isiO isiB
  rfl
theorem f_isiO {s : Sto} (t c : String) : isiO (some t) c s = isiB (kitB t c) s := rfl
theorem f_isiB {s : Sto} (b : Bool) : isiB (some b) s = .ok (.bl b) s := rfl
theorem kb_ii : kitB "int" "int" = some true := by decide +kernel
theorem kb_ib : kitB "int" "bool" = some false := by decide +kernel
theorem kb_is : kitB "int" "str" = some false := by decide +kernel
theorem kb_bi : kitB "bool" "int" = some true := by decide +kernel
theorem kb_bb : kitB "bool" "bool" = some true := by decide +kernel
theorem kb_bs : kitB "bool" "str" = some false := by decide +kernel
theorem kb_si : kitB "str" "int" = some false := by decide +kernel
theorem kb_sb : kitB "str" "bool" = some false := by decide +kernel
theorem kb_ss : kitB "str" "str" = some true := by decide +kernel
theorem kb_ni : kitB "NoneType" "int" = some false := by decide +kernel
theorem kb_nb : kitB "NoneType" "bool" = some false := by decide +kernel
theorem kb_ns : kitB "NoneType" "str" = some false := by decide +kernel
theorem kb_li : kitB "list" "int" = some false := by decide +kernel
theorem kb_lb : kitB "list" "bool" = some false := by decide +kernel
theorem kb_ls : kitB "list" "str" = some false := by decide +kernel
theorem kb_ti : kitB "tuple" "int" = some false := by decide +kernel
theorem kb_tb : kitB "tuple" "bool" = some false := by decide +kernel
theorem kb_ts : kitB "tuple" "str" = some false := by decide +kernel
theorem kb_di : kitB "dict" "int" = some false := by decide +kernel
theorem kb_db : kitB "dict" "bool" = some false := by decide +kernel
theorem kb_ds : kitB "dict" "str" = some false := by decide +kernel
/-! ### repr, texts -/
theorem v_repr {s : Sto} {x : D} {p : PyData} (h : rdat s x = some p) (h1 : p.showable = true) (h2 : p.shown.length ≤ lim) : cRepr [x] s = .ok (.str p.shown) s := by
  unfold cRepr; simp only [h]; exact if_pos ⟨h1, h2⟩
theorem v_addS {s : Sto} (a b : Str) (h : a.length + b.length ≤ lim) : dAdd (.str a) (.str b) s = .ok (.str (a ++ b)) s := by unfold dAdd; exact if_pos h
theorem v_addL {s : Sto} (a b : List D) (h : a.length + b.length ≤ lim) : dAdd (.lst a) (.lst b) s = .ok (.lst (a ++ b)) s := by
  show (match asL s (.lst a), asL s (.lst b) with | some a, some b => if a.length + b.length ≤ lim then Res.ok (D.lst (a ++ b)) s else .bad | _, _ => .bad) = _
  exact if_pos h
theorem v_slL {s : Sto} (xs : List D) (lo hi : Option Int) : dSl (.lst xs) lo hi s = .ok (.lst (cutD xs lo hi)) s := rfl
theorem v_slSl {s : Sto} (xs : List D) (lo hi : Option Int) : dSl (.sls xs) lo hi s = .ok (.lst (cutD xs lo hi)) s := rfl
theorem v_slS {s : Sto} (z : Str) (lo hi : Option Int) (h : z.length ≤ lim) : dSl (.str z) lo hi s = .ok (.str (cutS z lo hi)) s := by unfold dSl; exact if_pos h
theorem v_mulS {s : Sto} (a : Str) (k : Int) (h : 0 ≤ k ∧ a.length * k.toNat ≤ lim ∧ k ≤ lim) : dMul (.str a) (.int k) s = .ok (.str (rep k.toNat a)) s := by unfold dMul; exact if_pos h
theorem v_abs {s : Sto} (i : Int) : cAbs [.int i] s = .ok (.int (if i < 0 then -i else i)) s := rfl
theorem v_max {s : Sto} (i j : Int) : cMax [.int i, .int j] s = .ok (.int (if j > i then j else i)) s := rfl
theorem v_min {s : Sto} (i j : Int) : cMin [.int i, .int j] s = .ok (.int (if j < i then j else i)) s := rfl
theorem v_str {s : Sto} (i : Int) (h : i.natAbs.log2 < 1920) : cStr [.int i] s = .ok (.str (Str.ofString (toString i))) s := by unfold cStr; exact if_pos h
theorem v_kLst {s : Sto} (xs : List D) (h : xs.length ≤ lim) : kLst xs s = .ok (.lst xs) s := if_pos h
theorem v_kTup {s : Sto} (xs : List D) (h : xs.length ≤ lim) : kTup xs s = .ok (.tup xs) s := if_pos h
theorem v_kLstS {s : Sto} (xs : List D) (h : xs.length ≤ lim) : kLstS xs s = .ok (.ref s.length) (s ++ [.lst xs]) := if_pos h
theorem v_kF {s : Sto} (xs : List D) : kF xs s = .ok (.lst xs) s := rfl
theorem v_srcL {s : Sto} (xs : List D) : kSrc (.lst xs) s = .ok (fix xs) s := rfl
theorem v_srcS {s : Sto} (z : Str) : kSrc (.str z) s = .ok (fix (chars z)) s := rfl
theorem lim_of {n : Nat} (h : n ≤ 1000000) : n ≤ lim := h
/-- texts: bounds that carry over -/
structure TxB (b : Nat) (z : Str) (n : Nat) : Prop where
  len : z.length ≤ n
  cod : ∀ c ∈ z.cps.toList, c < b
section
variable {b : Nat}
theorem TxB.repr {z : Str} {n : Nat} (h : TxB b z n) (hb : b ≤ 16 ^ 8) : (reprText z).length ≤ 10 * n + 2 := by
  have h1 := PySem.StrLaws.reprText_len z fun c hc => Nat.lt_of_lt_of_le (h.cod c hc) hb
  have h2 := h.len
  omega
theorem TxB.mono {z : Str} {n m : Nat} (h : TxB b z n) (hm : n ≤ m) : TxB b z m := ⟨Nat.le_trans h.len hm, h.cod⟩
theorem TxB.wide {z : Str} {n b' : Nat} (h : TxB b z n) (hb : b ≤ b') : TxB b' z n := ⟨h.len, fun c hc => Nat.lt_of_lt_of_le (h.cod c hc) hb⟩
theorem TxB.app {a c : Str} {n m : Nat} (h : TxB b a n) (h' : TxB b c m) : TxB b (a ++ c) (n + m) := by
  have e : (a ++ c).cps = a.cps ++ c.cps := rfl
  refine ⟨?_, fun d hd => ?_⟩
  · show (a ++ c).cps.size ≤ _
    rw [e, Array.size_append]
    exact Nat.add_le_add h.len h'.len
  · rw [e, Array.toList_append] at hd
    exact (List.mem_append.mp hd).elim (h.cod d) (h'.cod d)
theorem TxB.cut {a : Str} {n : Nat} (h : TxB b a n) (lo hi : Option Int) : TxB b (cutS a lo hi) n := by
  refine ⟨?_, fun c hc => ?_⟩
  · show (cutS a lo hi).cps.size ≤ n
    unfold cutS
    rw [List.size_toArray, List.length_take, List.length_drop, Array.length_toList]
    have : a.cps.size ≤ n := h.len
    omega
  · have hc : c ∈ ((a.cps.toList.drop (HT.sIx a.length 0 lo)).take (HT.sIx a.length a.length hi - HT.sIx a.length 0 lo)) := by
      unfold cutS at hc; simpa using hc
    exact h.cod c (List.mem_of_mem_drop (List.mem_of_mem_take hc))
theorem TxB.one {c : Nat} (h : c < b) : TxB b ⟨#[c]⟩ 1 := by
  refine ⟨Nat.le_refl 1, fun d hd => ?_⟩
  have e : d = c := by simpa using hd
  rw [e]; exact h
theorem TxB.rep {a : Str} {n k : Nat} (h : TxB b a n) : TxB b (rep k a) (k * n) := by
  refine ⟨?_, fun c hc => ?_⟩
  · show (RQ.rep k a).cps.size ≤ _
    unfold RQ.rep
    simp
    exact Nat.mul_le_mul_left k h.len
  · unfold RQ.rep at hc
    rw [List.toList_toArray, List.mem_flatten] at hc
    obtain ⟨l, hl, hcl⟩ := hc
    rw [List.mem_replicate] at hl
    rw [hl.2] at hcl
    exact h.cod c hcl
theorem TxB.join {zs : List Str} {n : Nat} (h : ∀ z ∈ zs, TxB b z n) : TxB b (Txt.join (Str.ofString "") zs) (zs.length * n) := by
  rw [join_eq]
  have e : tl (Str.join (Str.ofString "") zs) = (zs.map tl).flatten := by
    rw [tl_join]
    have e0 : tl (Str.ofString "") = [] := rfl
    rw [e0]
    have : ∀ ls : List (List Nat), joinL [] ls = ls.flatten := by
      intro ls
      induction ls with
      | nil => rfl
      | cons l ls ih =>
        cases ls with
        | nil => simp [joinL]
        | cons m r => rw [joinL, ih]; rfl
    exact this _
  refine ⟨?_, fun c hc => ?_⟩
  · show (Str.join (Str.ofString "") zs).cps.size ≤ _
    have e2 : (Str.join (Str.ofString "") zs).cps.size = (tl (Str.join (Str.ofString "") zs)).length := by simp [tl]
    rw [e2, e, List.length_flatten, List.map_map]
    clear e e2
    induction zs with
    | nil => simp
    | cons z zs ih =>
      have h1 : (tl z).length ≤ n := by
        have := (h z List.mem_cons_self).len
        simpa [tl, Str.length] using this
      have h2 := ih fun z hz => h z (List.mem_cons_of_mem _ hz)
      simp only [List.map_cons, List.sum_cons, Function.comp_apply, List.length_cons]
      have e5 : (zs.length + 1) * n = zs.length * n + n := Nat.succ_mul _ _
      omega
  · have hc : c ∈ tl (Str.join (Str.ofString "") zs) := hc
    rw [e, List.mem_flatten] at hc
    obtain ⟨l, hl, hcl⟩ := hc
    obtain ⟨z, hz, rfl⟩ := List.mem_map.mp hl
    exact (h z hz).cod c hcl
end
theorem TxB.upper {a : Str} {n : Nat} (h : TxB 128 a n) : TxB 1000 (Txt.upper a) (3 * n) := by
  refine ⟨?_, fun c hc => ?_⟩
  · have := PyProof.Rows.len_upper a
    have := h.len
    omega
  · have key : ∀ c ∈ List.range 128, ∀ d ∈ Unicode.upperOf c, d < 1000 := by decide +kernel
    have hc : c ∈ ((a.cps.mapIdx fun _ c => (Unicode.upperOf c).toArray).flatten).toList := hc
    have hc' : c ∈ ((a.cps.mapIdx fun _ c => (Unicode.upperOf c).toArray).flatten) := Array.mem_toList_iff.mp hc
    rw [Array.mem_flatten] at hc'
    obtain ⟨l, hl, hcl⟩ := hc'
    rw [Array.mem_iff_getElem] at hl
    obtain ⟨i, hi, e⟩ := hl
    have hi' : i < a.cps.size := by simpa using hi
    have e2 : (Unicode.upperOf a.cps[i]).toArray = l := by rw [← e]; simp
    rw [← e2] at hcl
    exact key a.cps[i] (by rw [List.mem_range]; exact h.cod _ (by simp)) c (by simpa using hcl)
theorem join_len (zs : List Str) : (Txt.join (Str.ofString "") zs).length = (zs.map Str.length).sum := by
  rw [join_eq]
  have e2 : (Str.join (Str.ofString "") zs).length = (tl (Str.join (Str.ofString "") zs)).length := by simp [tl, Str.length]
  have e0 : tl (Str.ofString "") = [] := rfl
  have ej : ∀ ls : List (List Nat), joinL [] ls = ls.flatten := by
    intro ls
    induction ls with
    | nil => rfl
    | cons l ls ih =>
      cases ls with
      | nil => simp [joinL]
      | cons m r => rw [joinL, ih]; rfl
  rw [e2, tl_join, e0, ej, List.length_flatten, List.map_map]
  congr 1
theorem v_join {s : Sto} (a : Str) (zs : List Str) (h : (zs.map (·.length)).sum + zs.length * a.length ≤ lim) : mJoin (.str a) [.lst (zs.map D.str)] s = .ok (.str (Txt.join a zs)) s := by
  unfold mJoin asLL asL
  simp only [allM_map_str]
  exact if_pos h
theorem f_isTS {s : Sto} (z : Str) : isT "str" (.str z) s = true := rfl
def cutA {α : Type} (xs : List α) (lo hi : Option Int) : List α := (xs.drop (HT.sIx xs.length 0 lo)).take (HT.sIx xs.length xs.length hi - HT.sIx xs.length 0 lo)
theorem cutD_map {α : Type} (f : α → D) (xs : List α) (lo hi : Option Int) : cutD (xs.map f) lo hi = (cutA xs lo hi).map f := by
  unfold cutD cutA
  rw [List.length_map, ← List.map_drop, ← List.map_take]
theorem cutA_mem {α : Type} {xs : List α} {lo hi : Option Int} {x : α} (h : x ∈ cutA xs lo hi) : x ∈ xs := List.mem_of_mem_drop (List.mem_of_mem_take h)
theorem cutA_lo {α : Type} (xs : List α) {i : Int} (h : 0 ≤ i) : cutA xs (some i) none = xs.drop i.toNat := by
  obtain ⟨k, rfl⟩ := Int.eq_ofNat_of_zero_le h
  unfold cutA
  rw [HT.sIx_none, HT.sIx_nat, Int.toNat_natCast]
  by_cases hk : k ≤ xs.length
  · rw [Nat.min_eq_left hk, List.take_of_length_le (by rw [List.length_drop]; omega)]
  · rw [Nat.min_eq_right (by omega), List.drop_of_length_le (Nat.le_refl _), List.drop_of_length_le (by omega), List.take_nil]
theorem cutA_hi {α : Type} (xs : List α) {i : Int} (h : 0 ≤ i) : cutA xs none (some i) = xs.take i.toNat := by
  obtain ⟨k, rfl⟩ := Int.eq_ofNat_of_zero_le h
  unfold cutA
  rw [HT.sIx_none, HT.sIx_nat, Int.toNat_natCast, List.drop_zero, Nat.sub_zero]
  by_cases hk : k ≤ xs.length
  · rw [Nat.min_eq_left hk]
  · rw [Nat.min_eq_right (by omega), List.take_of_length_le (Nat.le_refl _), List.take_of_length_le (by omega)]
theorem rng_mem {lo hi : Int} {d : D} (h : d ∈ rng lo hi) : ∃ i : Int, d = .int i ∧ lo ≤ i ∧ i < hi := by
  unfold rng at h
  obtain ⟨k, hk, rfl⟩ := List.mem_map.mp h
  rw [List.mem_range] at hk
  exact ⟨lo + k, rfl, by omega, by omega⟩
theorem rng_len (lo hi : Int) : (rng lo hi).length = (hi - lo).toNat := by unfold rng; rw [List.length_map, List.length_range]
/-- a list of texts, from what holds of each -/
theorem strs_of {P : Str → Prop} : ∀ {ys : List D}, (∀ y ∈ ys, ∃ z, y = .str z ∧ P z) → ∃ zs : List Str, ys = zs.map D.str ∧ ∀ z ∈ zs, P z
  | [], _ => ⟨[], rfl, fun _ z => nomatch z⟩
  | y :: ys, h => by
    obtain ⟨zs, h1, h2⟩ := strs_of fun y hy => h y (List.mem_cons_of_mem _ hy)
    obtain ⟨z, rfl, hz⟩ := h y List.mem_cons_self
    exact ⟨z :: zs, by rw [h1]; rfl, fun w hw => (List.mem_cons.mp hw).elim (fun e => e ▸ hz) (h2 w)⟩
/-! ### the same without conditions, for reckoning at a stretch -/
def oS (o : Option Nat) (s : Sto) : Res D := match o with | some c => .ok (.str ⟨#[c]⟩) s | none => .bad
section
variable {s : Sto}
theorem u_oS (c : Nat) : oS (some c) s = .ok (.str ⟨#[c]⟩) s := rfl
theorem u_mul (i j : Int) : dMul (.int i) (.int j) s = if mulOk i j then .ok (.int (i * j)) s else .bad := rfl
theorem u_mulS (a : Str) (k : Int) : dMul (.str a) (.int k) s = if 0 ≤ k ∧ a.length * k.toNat ≤ lim ∧ k ≤ lim then .ok (.str (rep k.toNat a)) s else .bad := rfl
theorem u_div (i j : Int) : dDiv (.int i) (.int j) s = if 0 < j ∧ j.natAbs.log2 < 9000 then .ok (.int (i / j)) s else .bad := rfl
theorem u_mod (i j : Int) : dMod (.int i) (.int j) s = if 0 < j then .ok (.int (i % j)) s else .bad := rfl
theorem u_pow (i j : Int) : dPow (.int i) (.int j) s = if 0 ≤ j ∧ j ≤ 1000000 ∧ i.natAbs < 2 ^ 64 then .ok (.int (i ^ j.toNat)) s else .bad := rfl
theorem u_addS (a b : Str) : dAdd (.str a) (.str b) s = if a.length + b.length ≤ lim then .ok (.str (a ++ b)) s else .bad := rfl
theorem u_addL (a b : List D) : dAdd (.lst a) (.lst b) s = if a.length + b.length ≤ lim then .ok (.lst (a ++ b)) s else .bad := rfl
theorem u_slS (z : Str) (lo hi : Option Int) : dSl (.str z) lo hi s = if z.length ≤ lim then .ok (.str (cutS z lo hi)) s else .bad := rfl
theorem u_ixS (z : Str) (i : Int) : dIx (.str z) (.int i) s = if z.length ≤ lim then oS (atI z.cps.toList i) s else .bad := rfl
theorem u_lenS (z : Str) : cLen [.str z] s = if z.length ≤ lim then .ok (.int z.length) s else .bad := rfl
theorem u_str (i : Int) : cStr [.int i] s = if i.natAbs.log2 < 1920 then .ok (.str (Str.ofString (toString i))) s else .bad := rfl
theorem u_kLst (xs : List D) : kLst xs s = if xs.length ≤ lim then .ok (.lst xs) s else .bad := rfl
theorem u_kTup (xs : List D) : kTup xs s = if xs.length ≤ lim then .ok (.tup xs) s else .bad := rfl
theorem u_kLstS (xs : List D) : kLstS xs s = if xs.length ≤ lim then .ok (.ref s.length) (s ++ [.lst xs]) else .bad := rfl
theorem u_rng (j : Int) : kRng (.int j) s = if -(2 ^ 62) ≤ j ∧ j < 2 ^ 62 then .ok (fix (rng 0 j)) s else .bad := by
  show (if -(2 ^ 62) ≤ j ∧ j < 2 ^ 62 then ret (fix (rng 0 j)) else bad : M Src) s = _
  split <;> rfl
theorem u_upper (a : Str) : mUpper (.str a) [] s = if a.length ≤ lim then .ok (.str (Txt.upper a)) s else .bad := rfl
theorem u_tNm (i : Nat) (d : D) (σ : EV) : tNm i d σ = some (σ.set i (some d)) := rfl
theorem u_tTup (gs : TFs) (ds : List D) (σ : EV) : tTup gs (.tup ds) σ = gs ds σ := rfl
theorem u_tNil (σ : EV) : tNil [] σ = some σ := rfl
def tcR (o : Option EV) (gs : TFs) (ds : List D) : Option EV := match o with | some σ => gs ds σ | none => none
theorem u_tCns (g : TF) (gs : TFs) (d : D) (ds : List D) (σ : EV) : tCns g gs (d :: ds) σ = tcR (g d σ) gs ds := rfl
theorem u_tcR (gs : TFs) (ds : List D) (σ : EV) : tcR (some σ) gs ds = gs ds σ := rfl
theorem u_lim (n : Nat) : (n ≤ lim) = (n ≤ 1000000) := rfl
end
theorem nat_digits (n : Nat) : ∀ c ∈ (Nat.repr n).toList, c.toNat < 128 := by
  intro c hc
  have h : c ∈ Nat.toDigits 10 n := by simpa [Nat.repr] using hc
  have := Nat.isDigit_of_mem_toDigits (by decide) (by decide) h
  unfold Char.isDigit at this
  rw [Bool.and_eq_true] at this
  have h2 := of_decide_eq_true this.2
  have h3 : c.val.toNat ≤ 57 := h2
  show c.val.toNat < 128
  omega
theorem TxB.int {i : Int} {k : Nat} (h : i.natAbs < 10 ^ k) (hk : 0 < k) : TxB 128 (Str.ofString (toString i)) (k + 1) := by
  have e : ∀ x : String, (Str.ofString x).cps.toList = x.toList.map Char.toNat := fun x => by rw [Str.ofString_eq_toList]
  have hl : ∀ n : Nat, n < 10 ^ k → (Nat.repr n).toList.length ≤ k := fun n hn => by
    have := Nat.length_toDigits_le_iff (n := n) (b := 10) (k := k) (by decide) hk |>.mpr hn
    simpa [Nat.repr] using this
  have hd : ∀ n : Nat, ∀ c ∈ (Nat.repr n).toList.map Char.toNat, c < 128 := fun n c hc => by
    obtain ⟨d, hd, rfl⟩ := List.mem_map.mp hc
    exact nat_digits n d hd
  have len : ∀ x : String, (Str.ofString x).length = (x.toList.map Char.toNat).length := fun x => by
    rw [← e]; simp [Str.length]
  cases i with
  | ofNat n =>
    have es : toString (Int.ofNat n) = Nat.repr n := rfl
    refine ⟨?_, fun c hc => ?_⟩
    · rw [len, es, List.length_map]; have := hl n h; omega
    · rw [e, es] at hc; exact hd n c hc
  | negSucc n =>
    have es : toString (Int.negSucc n) = "-" ++ Nat.repr (n + 1) := rfl
    have el : (toString (Int.negSucc n)).toList = '-' :: (Nat.repr (n + 1)).toList := by rw [es]; simp
    refine ⟨?_, fun c hc => ?_⟩
    · rw [len, el, List.length_map, List.length_cons]; have := hl (n + 1) h; omega
    · rw [e, el, List.map_cons] at hc
      rcases List.mem_cons.mp hc with rfl | hc
      · decide
      · exact hd (n + 1) c hc
end RQ

namespace RQ
open PySem PySem.Spec PyProof.Rows L2 TL
/-! ### reckoning: things of the store -/
def srcO (o : Option O) (n : Nat) (s : Sto) : Res Src := match o with | some (.lst ys) => .ok (sto n ys.length) s | _ => .bad
def enuO (o : Option O) (n : Nat) (s : Sto) : Res Src := match o with | some (.lst ys) => .ok (enumS n ys.length) s | _ => .bad
def isTO (o : Option O) (T : String) : Bool := match o with | some (.lst _) => T == "list" | some (.dic _) => T == "dict" | _ => false
def appO (o : Option O) (n : Nat) (y : D) (s : Sto) : Res D := match o with | some (.lst ys) => if ys.length < lim then .ok .non (s.set n (.lst (ys ++ [y]))) else .bad | _ => .bad
def revO (o : Option O) (n : Nat) (s : Sto) : Res D := match o with | some (.lst ys) => .ok .non (s.set n (.lst ys.reverse)) | _ => .bad
def lisO (o : Option O) (k : List D → M D) (s : Sto) : Res D := match o with | some (.lst ys) => k ys s | _ => .bad
section
variable {σ : EV} {s : Sto}
theorem g_src (n : Nat) : kSrc (.ref n) s = srcO s[n]? n s := by unfold kSrc srcO; rcases h : s[n]? with _ | (_ | _ | _) <;> simp only [h]
theorem g_srcO (n : Nat) (ys : List D) : srcO (some (.lst ys)) n s = .ok (sto n ys.length) s := rfl
theorem g_enu (n : Nat) : kEnum (.ref n) s = enuO s[n]? n s := by unfold kEnum enuO; rcases h : s[n]? with _ | (_ | _ | _) <;> simp only [h]
theorem g_enuO (n : Nat) (ys : List D) : enuO (some (.lst ys)) n s = .ok (enumS n ys.length) s := rfl
theorem g_isT (n : Nat) (T : String) : isT T (.ref n) s = isTO s[n]? T := by unfold isT isTO; rcases h : s[n]? with _ | (_ | _ | _) <;> simp only [h]
theorem g_isTO (ys : List D) : isTO (some (.lst ys)) "list" = true := rfl
theorem g_app (n : Nat) (y : D) : mAppend (.ref n) [y] s = appO s[n]? n y s := by unfold mAppend lstAt appO; rcases h : s[n]? with _ | (_ | _ | _) <;> simp only [h]
theorem g_appO (n : Nat) (y : D) (ys : List D) : appO (some (.lst ys)) n y s = if ys.length < lim then .ok .non (s.set n (.lst (ys ++ [y]))) else .bad := rfl
theorem g_rev (n : Nat) : mReverse (.ref n) [] s = revO s[n]? n s := by unfold mReverse lstAt revO; rcases h : s[n]? with _ | (_ | _ | _) <;> simp only [h]
theorem g_revO (n : Nat) (ys : List D) : revO (some (.lst ys)) n s = .ok .non (s.set n (.lst ys.reverse)) := rfl
theorem g_lis (n : Nat) (k : List D → M D) : cList k [.ref n] s = lisO s[n]? k s := by unfold cList lisO asLL asL; rcases h : s[n]? with _ | (_ | _ | _) <;> simp only [h]
theorem g_lisO (k : List D → M D) (ys : List D) : lisO (some (.lst ys)) k s = k ys s := rfl
theorem g_kS (ys : List D) : kS ys s = .ok (.ref s.length) (s ++ [.lst ys]) := rfl
theorem g_LR (k : List D → M D) (f : EV → M D) : mLR k f σ s = (f σ s).bnd (kLR k) := rfl
theorem g_kLR (k : List D → M D) (j : Int) : kLR k (.int j) s = if 0 ≤ j ∧ j ≤ lim then k (rng 0 j) s else .bad := rfl
theorem unI_ints : ∀ ns : List Int, allM unI (ns.map D.int) = some ns
  | [] => rfl
  | n :: ns => by rw [List.map_cons]; unfold allM; simp only [unI, unI_ints ns]
theorem g_rem {n : Nat} {k : Int} {ns : List Int} (h : s[n]? = some (.lst (ns.map D.int))) (hk : k ∈ ns) : mRemove (.ref n) [.int k] s = .ok .non (s.set n (.lst ((ns.erase k).map D.int))) := by
  unfold mRemove lstAt
  simp only [h, unI_ints, hk, ↓reduceIte]
theorem toPr_prs : ∀ ps : List (Int × Int), allM toPr (ps.map ofPr) = some ps
  | [] => rfl
  | p :: ps => by rw [List.map_cons]; unfold allM; simp only [toPr_prs ps]; rfl
theorem g_srt (k : List D → M D) (ps : List (Int × Int)) : cSortP k [.lst (ps.map ofPr)] s = if ps.length ≤ lim then k ((srtP ps).map ofPr) s else .bad := by
  unfold cSortP asLL asL
  simp only [toPr_prs]
/-- for over a list of the store that stays -/
theorem forS_sto {n l : Nat} {ds : List D} {body : D → SM} (I : Nat → EV → Sto → Prop) (hl : l = ds.length) (hst : ∀ k σ' s', I k σ' s' → s'[n]? = some (.lst ds))
    (hstep : ∀ k d σ' s', I k σ' s' → ds[k]? = some d → ∃ σ2 s2, body d σ' s' = .go .nx σ2 s2 ∧ I (k + 1) σ2 s2) (h0 : I 0 σ s) :
    ∃ σ2 s2, forS (sto n l) body ((sto n l).n + 1) 0 σ s = .go .nx σ2 s2 ∧ I ds.length σ2 s2 := by
  have go : ∀ (r i : Nat) (σ' : EV) (s' : Sto), I i σ' s' → i + r = ds.length → ∃ σ2 s2, forS (sto n l) body (r + 1) i σ' s' = .go .nx σ2 s2 ∧ I ds.length σ2 s2 := by
    intro r
    induction r with
    | zero =>
      intro i σ' s' hi he
      have e : i = ds.length := by omega
      subst e
      refine ⟨σ', s', ?_, hi⟩
      unfold forS
      simp [sto, hst _ _ _ hi]
    | succ r ih =>
      intro i σ' s' hi he
      have hd := List.getElem?_eq_getElem (show i < ds.length by omega)
      obtain ⟨σ2, s2, h1, h2⟩ := hstep i _ σ' s' hi hd
      obtain ⟨σ3, s3, h3, h4⟩ := ih (i + 1) σ2 s2 h2 (by omega)
      refine ⟨σ3, s3, ?_, h4⟩
      unfold forS
      have e : (sto n l).item s' i = some (some ds[i]) := by
        show (match s'[n]? with | some (.lst ds) => some ds[i]? | _ => none) = _
        rw [hst _ _ _ hi]
        exact congrArg some hd
      rw [e]
      simp only [h1]
      exact h3
  subst hl
  exact go ds.length 0 σ s h0 (by omega)
/-- a comprehension over an enumerated list of the store, that changes nothing -/
theorem cmp_enu {n l : Nat} {ds : List D} {g : TF} {e : EV → M D} {h : Nat → D → D} (hl : l = ds.length) (hs : s[n]? = some (.lst ds)) (hz : ds.length ≤ lim)
    (H : ∀ (i : Nat) (d : D), ds[i]? = some d → ∃ σ2, g (.tup [.int i, d]) σ = some σ2 ∧ e σ2 s = .ok (h i d) s) : cmp (enumS n l) g yes e σ ((enumS n l).n + 1) 0 [] s = .ok (ds.mapIdx h) s := by
  have go : ∀ (r i : Nat) (acc : List D), i + r = ds.length → acc = (ds.mapIdx h).take i → cmp (enumS n l) g yes e σ (r + 1) i acc s = .ok (ds.mapIdx h) s := by
    intro r
    induction r with
    | zero =>
      intro i acc he ha
      have ei : i = ds.length := by omega
      subst ei
      unfold cmp
      rw [show (enumS n l).item s ds.length = some none by
        show (match s[n]? with | some (.lst ds') => some ((ds'[ds.length]?).map fun d => D.tup [.int (ds.length : Nat), d]) | _ => none) = _
        rw [hs]; simp]
      rw [ha, List.take_of_length_le (by simp)]
    | succ r ih =>
      intro i acc he ha
      have hi : i < ds.length := by omega
      have hd := List.getElem?_eq_getElem hi
      obtain ⟨σ2, h1, h2⟩ := H i _ hd
      unfold cmp
      rw [show (enumS n l).item s i = some (some (.tup [.int i, ds[i]])) by
        show (match s[n]? with | some (.lst ds') => some ((ds'[i]?).map fun d => D.tup [.int (i : Nat), d]) | _ => none) = _
        rw [hs]
        show some (Option.map _ ds[i]?) = _
        rw [hd]; rfl]
      have hal : acc.length < lim := by
        rw [ha, List.length_take, List.length_mapIdx]
        omega
      simp only [h1, e_yes, h2, hal, ↓reduceIte]
      refine ih (i + 1) _ (by omega) ?_
      rw [ha, List.take_add_one, List.getElem?_mapIdx, hd]
      rfl
  subst hl
  exact go ds.length 0 [] (by omega) (by simp)
/-- while: N turns, then the end -/
theorem whl_run {p : EV → M Bool} {F : SM} (I : Nat → EV → Sto → Prop) (N : Nat) (hgo : ∀ k σ' s', k < N → I k σ' s' → p σ' s' = .ok true s' ∧ ∃ σ2 s2, F σ' s' = .go .nx σ2 s2 ∧ I (k + 1) σ2 s2)
    (hend : ∀ σ' s', I N σ' s' → p σ' s' = .ok false s') : ∀ (r k : Nat) (σ : EV) (s : Sto), k + r = N → I k σ s → ∀ fuel, r < fuel → ∃ σ2 s2, whlS p F fuel σ s = .go .nx σ2 s2 ∧ I N σ2 s2
  | 0, k, σ, s, he, hi, fuel, hf => by
    have e : k = N := by omega
    subst e
    obtain ⟨f, rfl⟩ : ∃ f, fuel = f + 1 := ⟨fuel - 1, by omega⟩
    refine ⟨σ, s, ?_, hi⟩
    unfold whlS
    rw [hend σ s hi, e_lok]
    rfl
  | r + 1, k, σ, s, he, hi, fuel, hf => by
    obtain ⟨f, rfl⟩ : ∃ f, fuel = f + 1 := ⟨fuel - 1, by omega⟩
    obtain ⟨h1, σ2, s2, h2, h3⟩ := hgo k σ s (by omega) hi
    obtain ⟨σ3, s3, h4, h5⟩ := whl_run I N hgo hend r (k + 1) σ2 s2 (by omega) h3 f (by omega)
    refine ⟨σ3, s3, ?_, h5⟩
    unfold whlS
    rw [h1, e_lok]
    simp only [↓reduceIte, h2]
    exact h4
end
end RQ

namespace RQ
open PySem PySem.Spec PyProof.Rows L2 TL
/-! ### reckoning: own classes; loops as folds -/
def fldO (o : Option O) (cs : List Str) (f : Str) (s : Sto) : Res D := match o with | some (.ins c fs) => if c ∈ cs then o1 (fs.lookup f) s else .bad | _ => .bad
def propO (o : Option O) (alts : Alts) (x : D) (s : Sto) : Res D := match o with | some (.ins c _) => (match alts.lookup c with | some F => noxR (F [x] s) | none => .bad) | _ => .bad
def altO (o : Option O) (alts : Alts) (mn : Str) : Option (List D → M D) := match o with | some (.ins c fs) => if (fs.lookup mn).isNone = true then alts.lookup c else none | _ => none
def isiI (o : Option O) (tab : ITab) (x : D) (s : Sto) : Res D := match o with | some (.ins c _) => isiB (tab.lookup c) s | some (.lst _) => .ok (.bl false) s | some (.dic _) => .ok (.bl false) s | none => .bad
def bothO (o o' : Option O) (c : Str) : Bool := match o, o' with | some (.ins c1 _), some (.ins c2 _) => c1 == c && c2 == c | _, _ => false
def isCO (o : Option O) (c : Str) : Bool := match o with | some (.ins c1 _) => c1 == c | _ => false
def methR (o : Option (List D → M D)) (fs : M (List D)) (x : D) (s : Sto) : Res D := match o with | some F => (fs s).bnd fun xs => F (x :: xs) | none => .bad
def kMeth (alts : Alts) (mn : Str) (fs : M (List D)) (x : D) : M D := fun s => methR (altAt alts mn x s) fs x s
def kCallO (c : Str) (F : List D → M D) (fs : M (List D)) (x : D) : M D := fun s => if isC c x s = true then (fs s).bnd (fun xs s2 => if isC c x s2 = true then F (x :: xs) s2 else .bad) else .bad
section
variable {σ : EV} {s : Sto}
theorem h_fld (cs : List Str) (f : Str) (fo : EV → M D) : mFld cs f fo σ s = (fo σ s).bnd (gFld cs f) := rfl
theorem h_prop (alts : Alts) (fo : EV → M D) : mProp alts fo σ s = (fo σ s).bnd (gProp alts) := rfl
theorem h_meth (alts : Alts) (mn : Str) (fo : EV → M D) (fs : EV → M (List D)) : mMeth alts mn fo fs σ s = (fo σ s).bnd (kMeth alts mn (fs σ)) := by
  unfold mMeth kMeth methR bnd
  rfl
theorem h_callO (c : Str) (F : List D → M D) (fo : EV → M D) (fs : EV → M (List D)) : mCallO c F fo fs σ s = (fo σ s).bnd (kCallO c F (fs σ)) := rfl
theorem h_mk (c : Str) (F : List D → M D) (fs : EV → M (List D)) : mMkE c F fs σ s = (fs σ s).bnd (mMk c F) := rfl
theorem h_isi (tab : ITab) (fo : EV → M D) : mIsi tab fo σ s = (fo σ s).bnd (gIsi tab) := rfl
theorem h_gfld (cs : List Str) (f : Str) (n : Nat) : gFld cs f (.ref n) s = fldO s[n]? cs f s := by
  unfold gFld insV fldO o1
  rcases h : s[n]? with _ | (_ | _ | _) <;> simp only [h]
  all_goals (
    rename_i c fs
    split
    · cases List.lookup f fs <;> rfl
    · rfl)
theorem h_gprop (alts : Alts) (n : Nat) : gProp alts (.ref n) s = propO s[n]? alts (.ref n) s := by
  unfold gProp insV propO
  rcases h : s[n]? with _ | (_ | _ | _) <;> simp only [h]
  all_goals (
    rename_i c fs
    cases List.lookup c alts with
    | some F => simp only [e_nox]
    | none => rfl)
theorem h_alt (alts : Alts) (mn : Str) (n : Nat) : altAt alts mn (.ref n) s = altO s[n]? alts mn := by
  unfold altAt insV altO
  rcases h : s[n]? with _ | (_ | _ | _) <;> simp only [h]
theorem h_gisi (tab : ITab) (n : Nat) : gIsi tab (.ref n) s = isiI s[n]? tab (.ref n) s := by
  unfold gIsi insV isiI isiB tyN
  rcases h : s[n]? with _ | (_ | _ | _) <;> simp only [h]
  all_goals (
    rename_i c fs
    cases List.lookup c tab <;> rfl)
theorem h_both (c : Str) (a b : Nat) : both c (.ref a) (.ref b) s = bothO s[a]? s[b]? c := by
  unfold both insV bothO
  rcases h : s[a]? with _ | (_ | _ | _) <;> simp only [h]
  rcases h' : s[b]? with _ | (_ | _ | _) <;> simp only [h']
theorem h_isC (c : Str) (a : Nat) : isC c (.ref a) s = isCO s[a]? c := by
  unfold isC insV isCO
  rcases h : s[a]? with _ | (_ | _ | _) <;> simp only [h]
theorem h_kMeth (alts : Alts) (mn : Str) (fs : M (List D)) (x : D) : kMeth alts mn fs x s = methR (altAt alts mn x s) fs x s := rfl
theorem h_methR (F : List D → M D) (fs : M (List D)) (x : D) : methR (some F) fs x s = (fs s).bnd fun xs => F (x :: xs) := rfl
theorem h_kCallO (c : Str) (F : List D → M D) (fs : M (List D)) (x : D) : kCallO c F fs x s = if isC c x s = true then (fs s).bnd (fun xs s2 => if isC c x s2 = true then F (x :: xs) s2 else .bad) else .bad := rfl
theorem h_own (c : Str) (F : List D → M D) (o : D → D → M D) (x y : D) : dOwn c F o x y s = if both c x y s = true then noxR (F [x, y] s) else o x y s := by unfold dOwn; rw [e_nox]
theorem h_ownNe (c : Str) (F : List D → M D) (o : D → D → M D) (x y : D) : dOwnNe c F o x y s = if both c x y s = true then notR (F [x, y] s) else o x y s := rfl
theorem h_notR (k : Bool) : notR (.ok (.bl k) s) = .ok (.bl (!k)) s := rfl
theorem h_arN (n : Nat) (F : List D → M D) (xs : List D) : arN n F xs s = if xs.length = n then F xs s else .bad := rfl
theorem h_tLst (gs : TFs) (ds : List D) : tLst gs (.lst ds) σ = gs ds σ := rfl
theorem h_asgH (g : SGT) (f : EV → M D) : sAsgH g f σ s = lft (f σ s) σ fun d s' => nxO (g d σ s') := rfl
theorem h_srcT (xs : List D) : kSrc (.tup xs) s = .ok (fix xs) s := rfl
theorem h_addR (a b : Nat) {xs ys : List D} (h1 : s[a]? = some (.lst xs)) (h2 : s[b]? = some (.lst ys)) (h : xs.length + ys.length ≤ lim) : dAdd (.ref a) (.ref b) s = .ok (.lst (xs ++ ys)) s := by
  show (match asL s (.ref a), asL s (.ref b) with | some a, some b => if a.length + b.length ≤ lim then Res.ok (D.lst (a ++ b)) s else .bad | _, _ => .bad) = _
  unfold asL
  simp only [h1, h2, h, ↓reduceIte]
end
theorem h_max (i j : Int) : (if j > i then j else i) = max i j := by
  by_cases h : j > i
  · rw [if_pos h]; omega
  · rw [if_neg h]; omega
theorem h_min (i j : Int) : (if j < i then j else i) = min i j := by
  by_cases h : j < i
  · rw [if_pos h]; omega
  · rw [if_neg h]; omega
/-- a loop as a fold -/
theorem forL_fold {α β : Type} {body : D → SM} (f : α → D) (step : β → α → β) (I : β → EV → Sto → Prop) : ∀ (xs : List α) (b : β) (σ : EV) (s : Sto), I b σ s →
    (∀ a ∈ xs, ∀ b σ' s', I b σ' s' → ∃ σ2 s2, body (f a) σ' s' = .go .nx σ2 s2 ∧ I (step b a) σ2 s2) → ∃ σ2 s2, forL body (xs.map f) σ s = .go .nx σ2 s2 ∧ I (xs.foldl step b) σ2 s2
  | [], b, σ, s, h0, _ => ⟨σ, s, rfl, h0⟩
  | a :: xs, b, σ, s, h0, H => by
    obtain ⟨σ1, s1, h1, h2⟩ := H a List.mem_cons_self b σ s h0
    obtain ⟨σ2, s2, q1, q2⟩ := forL_fold f step I xs (step b a) σ1 s1 h2 fun a' ha => H a' (List.mem_cons_of_mem _ ha)
    refine ⟨σ2, s2, ?_, q2⟩
    rw [List.map_cons]
    unfold forL
    simp only [h1]
    exact q1
/-- .. over a list of the store that stays -/
theorem forS_fold {α β : Type} {body : D → SM} {n l : Nat} {σ : EV} {s : Sto} (f : α → D) (step : β → α → β) (I : β → EV → Sto → Prop) (xs : List α) (b : β) (hl : l = (xs.map f).length) (hst : ∀ b σ' s', I b σ' s' → s'[n]? = some (.lst (xs.map f))) (h0 : I b σ s)
    (H : ∀ a ∈ xs, ∀ b σ' s', I b σ' s' → ∃ σ2 s2, body (f a) σ' s' = .go .nx σ2 s2 ∧ I (step b a) σ2 s2) : ∃ σ2 s2, forS (sto n l) body ((sto n l).n + 1) 0 σ s = .go .nx σ2 s2 ∧ I (xs.foldl step b) σ2 s2 := by
  obtain ⟨σ2, s2, h1, h2⟩ := forS_sto (n := n) (l := l) (ds := xs.map f) (body := body) (fun k σ' s' => I ((xs.take k).foldl step b) σ' s') hl (fun k σ' s' h => hst _ _ _ h) (fun k d σ' s' h hd => by
    rw [List.getElem?_map] at hd
    cases hx : xs[k]? with
    | none => rw [hx] at hd; cases hd
    | some a =>
      rw [hx] at hd
      cases hd
      obtain ⟨σ2, s2, g1, g2⟩ := H a (List.mem_of_getElem? hx) _ σ' s' h
      refine ⟨σ2, s2, g1, ?_⟩
      rw [List.take_add_one, hx, List.foldl_append]
      exact g2) h0
  refine ⟨σ2, s2, h1, ?_⟩
  rw [List.length_map, List.take_length] at h2
  exact h2
theorem at_app {s : Sto} {n : Nat} {o : O} (l : List O) (h : s[n]? = some o) : (s ++ l)[n]? = some o := by
  rw [List.getElem?_append_left (List.getElem?_eq_some_iff.mp h).1]; exact h
theorem at_end (s : Sto) (o : O) : (s ++ [o])[s.length]? = some o := by simp
theorem set_end (s : Sto) (o p : O) : (s ++ [o]).set s.length p = s ++ [p] := by simp
end RQ

namespace RQ
open PySem PySem.Spec PyProof.Rows L2 TL
theorem forL_ix {body : D → SM} (I : Nat → EV → Sto → Prop) : ∀ (ds : List D) (σ : EV) (s : Sto) (k : Nat), I k σ s →
    (∀ j d σ' s', I (k + j) σ' s' → ds[j]? = some d → ∃ σ2 s2, body d σ' s' = .go .nx σ2 s2 ∧ I (k + j + 1) σ2 s2) → ∃ σ2 s2, forL body ds σ s = .go .nx σ2 s2 ∧ I (k + ds.length) σ2 s2
  | [], σ, s, k, h0, _ => ⟨σ, s, rfl, h0⟩
  | d :: ds, σ, s, k, h0, H => by
    obtain ⟨σ1, s1, h1, h2⟩ := H 0 d σ s h0 rfl
    obtain ⟨σ2, s2, q1, q2⟩ := forL_ix I ds σ1 s1 (k + 1) h2 fun j d' σ' s' hi hd => by
      have := H (j + 1) d' σ' s' (by rw [show k + (j + 1) = k + 1 + j by omega]; exact hi) (by simpa using hd)
      rw [show k + (j + 1) + 1 = k + 1 + j + 1 by omega] at this
      exact this
    refine ⟨σ2, s2, ?_, by rw [List.length_cons, show k + (ds.length + 1) = k + 1 + ds.length by omega]; exact q2⟩
    unfold forL
    simp only [h1]
    exact q1
theorem rng_at {lo hi : Int} {j : Nat} {d : D} (h : (rng lo hi)[j]? = some d) : d = .int (lo + j) ∧ lo + j < hi := by
  unfold rng at h
  rw [List.getElem?_map] at h
  cases e : (List.range (hi - lo).toNat)[j]? with
  | none => rw [e] at h; cases h
  | some k =>
    rw [e] at h
    obtain ⟨h1, h2⟩ := List.getElem?_eq_some_iff.mp e
    rw [List.length_range] at h1
    rw [List.getElem_range] at h2
    subst h2
    cases h
    exact ⟨rfl, by omega⟩
/-- alike lists -/
inductive Al {α β : Type} (P : α → β → Prop) : List α → List β → Prop where
  | nil : Al P [] []
  | cons {a : α} {b : β} {as : List α} {bs : List β} : P a b → Al P as bs → Al P (a :: as) (b :: bs)
theorem Al.snoc {α β : Type} {P : α → β → Prop} {a : α} {b : β} : ∀ {as : List α} {bs : List β}, Al P as bs → P a b → Al P (as ++ [a]) (bs ++ [b])
  | _, _, .nil, h => .cons h .nil
  | _, _, .cons q r, h => .cons q (Al.snoc r h)
theorem Al.len {α β : Type} {P : α → β → Prop} : ∀ {as : List α} {bs : List β}, Al P as bs → bs.length = as.length
  | _, _, .nil => rfl
  | _, _, .cons _ r => by rw [List.length_cons, List.length_cons, Al.len r]
theorem Al.mem {α β : Type} {P : α → β → Prop} : ∀ {as : List α} {bs : List β}, Al P as bs → ∀ b ∈ bs, ∃ a ∈ as, P a b
  | _, _, .nil, b, h => by cases h
  | _, _, .cons q r, b, h => by
    rcases List.mem_cons.mp h with rfl | h
    · exact ⟨_, List.mem_cons_self, q⟩
    · obtain ⟨a, h1, h2⟩ := Al.mem r b h
      exact ⟨a, List.mem_cons_of_mem _ h1, h2⟩
theorem Al.imp {α β : Type} {P Q : α → β → Prop} (f : ∀ a b, P a b → Q a b) : ∀ {as : List α} {bs : List β}, Al P as bs → Al Q as bs
  | _, _, .nil => .nil
  | _, _, .cons q r => .cons (f _ _ q) (Al.imp f r)
/-- a comprehension, each element by its item; the turns may change the store -/
theorem cmpL_al {α β : Type} {g : TF} {e : EV → M D} {σ : EV} (f : α → D) (h : β → D) (I : Nat → Sto → Prop) (P : α → β → Prop) : ∀ (xs : List α) (acc : List D) (s : Sto) (k : Nat), I k s →
    (∀ a ∈ xs, ∀ k' s', I k' s' → k' < k + xs.length → ∃ σ2 y s2, g (f a) σ = some σ2 ∧ e σ2 s' = .ok (h y) s2 ∧ P a y ∧ I (k' + 1) s2) → acc.length + xs.length ≤ lim →
    ∃ ys s2, cmpL g yes e σ (xs.map f) acc s = .ok (acc ++ ys.map h) s2 ∧ Al P xs ys ∧ I (k + xs.length) s2
  | [], acc, s, k, h0, _, _ => ⟨[], s, by simp [cmpL], .nil, h0⟩
  | a :: xs, acc, s, k, h0, H, hl => by
    rw [List.length_cons] at hl
    obtain ⟨σ2, y, s1, h1, h2, h3, h4⟩ := H a List.mem_cons_self k s h0 (by rw [List.length_cons]; omega)
    obtain ⟨ys, s2, q1, q2, q4⟩ := cmpL_al f h I P xs (acc ++ [h y]) s1 (k + 1) h4 (fun d' hd k' s' hi hk => H d' (List.mem_cons_of_mem _ hd) k' s' hi (by rw [List.length_cons]; omega)) (by rw [List.length_append, List.length_singleton]; omega)
    refine ⟨y :: ys, s2, ?_, .cons h3 q2, by rw [List.length_cons, show k + (xs.length + 1) = k + 1 + xs.length by omega]; exact q4⟩
    rw [List.map_cons]
    unfold cmpL
    simp only [h1, yes, h2]
    rw [if_pos (by omega), q1]
    simp
/-- .. over a list of the store that stays -/
theorem cmpS_al {α β : Type} {n l : Nat} {g : TF} {e : EV → M D} {σ : EV} {s : Sto} (f : α → D) (h : β → D) (I : Nat → Sto → Prop) (P : α → β → Prop) (xs : List α) (hl : l = (xs.map f).length) (hz : xs.length ≤ lim) (hst : ∀ k s', I k s' → s'[n]? = some (.lst (xs.map f))) (h0 : I 0 s)
    (H : ∀ a ∈ xs, ∀ k' s', I k' s' → k' < xs.length → ∃ σ2 y s2, g (f a) σ = some σ2 ∧ e σ2 s' = .ok (h y) s2 ∧ P a y ∧ I (k' + 1) s2) :
    ∃ ys s2, cmp (sto n l) g yes e σ ((sto n l).n + 1) 0 [] s = .ok (ys.map h) s2 ∧ Al P xs ys ∧ I xs.length s2 := by
  have go : ∀ (r i : Nat) (zs : List β) (s' : Sto), I i s' → i + r = xs.length → Al P (xs.take i) zs → ∃ ys s2, cmp (sto n l) g yes e σ (r + 1) i (zs.map h) s' = .ok (ys.map h) s2 ∧ Al P xs ys ∧ I xs.length s2 := by
    intro r
    induction r with
    | zero =>
      intro i zs s' hi he ha
      have ei : i = xs.length := by omega
      subst ei
      rw [List.take_length] at ha
      refine ⟨zs, s', ?_, ha, hi⟩
      unfold cmp
      rw [show (sto n l).item s' xs.length = some none by
        show (match s'[n]? with | some (.lst ds') => some ds'[xs.length]? | _ => none) = _
        rw [hst _ _ hi]; simp]
    | succ r ih =>
      intro i zs s' hi he ha
      have hx : i < xs.length := by omega
      obtain ⟨σ2, y, s2, h1, h2, h3, h4⟩ := H xs[i] (List.getElem_mem hx) i s' hi hx
      have hal : zs.length < lim := by
        rw [ha.len, List.length_take]
        omega
      obtain ⟨ys, s3, q1, q2, q3⟩ := ih (i + 1) (zs ++ [y]) s2 h4 (by omega) (by
        rw [List.take_add_one, List.getElem?_eq_getElem hx]
        exact ha.snoc h3)
      refine ⟨ys, s3, ?_, q2, q3⟩
      rw [← q1]
      conv => lhs; unfold cmp
      rw [show (sto n l).item s' i = some (some (f xs[i])) by
        show (match s'[n]? with | some (.lst ds') => some ds'[i]? | _ => none) = _
        rw [hst _ _ hi]
        show some (List.map f xs)[i]? = _
        rw [List.getElem?_map, List.getElem?_eq_getElem hx]; rfl]
      simp only [h1, e_yes, h2, List.length_map, hal, ↓reduceIte, List.map_append, List.map_cons, List.map_nil]
  subst hl
  have hn : (sto n (xs.map f).length).n + 1 = xs.length + 1 := by show (xs.map f).length + 1 = _; rw [List.length_map]
  rw [hn]
  exact go xs.length 0 [] s h0 (by omega) .nil
end RQ

namespace RQ
open PySem PySem.Spec PyProof.Rows L2 TL
/-! ### reckoning: instances that stay, what a call freezes -/
def propI (o : Option (List D → M D)) (x : D) (s : Sto) : Res D := match o with | some F => noxR (F [x] s) | none => .bad
section
variable {σ : EV} {s : Sto}
theorem e_fz (f : EV → M D) : fzE f σ s = frzR s (f σ s) := rfl
theorem e_fzF (F : List D → M D) (ds : List D) : fzF F ds s = frzR s (F ds s) := rfl
theorem i_gfld (cs : List Str) (f c : Str) (fs : List (Str × D)) : gFld cs f (.ins c fs) s = if c ∈ cs then o1 (fs.lookup f) s else .bad := by
  unfold gFld insV o1
  simp only
  all_goals (
    split
    · cases List.lookup f fs <;> rfl
    · rfl)
theorem i_gprop (alts : Alts) (c : Str) (fs : List (Str × D)) : gProp alts (.ins c fs) s = propI (alts.lookup c) (.ins c fs) s := by
  unfold gProp insV propI
  simp only
  all_goals (
    cases List.lookup c alts with
    | some F => simp only [e_nox]
    | none => rfl)
theorem i_propI (F : List D → M D) (x : D) : propI (some F) x s = noxR (F [x] s) := rfl
theorem i_alt (alts : Alts) (mn c : Str) (fs : List (Str × D)) : altAt alts mn (.ins c fs) s = if (fs.lookup mn).isNone = true then alts.lookup c else none := rfl
theorem i_gisi (tab : ITab) (c : Str) (fs : List (Str × D)) : gIsi tab (.ins c fs) s = isiB (tab.lookup c) s := by
  unfold gIsi insV isiB
  simp only
  all_goals (cases List.lookup c tab <;> rfl)
theorem i_both (c c1 c2 : Str) (f1 f2 : List (Str × D)) : both c (.ins c1 f1) (.ins c2 f2) s = (c1 == c && c2 == c) := rfl
theorem i_isC (c c1 : Str) (f1 : List (Str × D)) : isC c (.ins c1 f1) s = (c1 == c) := rfl
end
def augK (o : Option (Option D)) (i : Nat) (op : D → D → M D) (f : EV → M D) (σ : EV) (s : Sto) : SRes := match o with
  | some (some x) => lft ((f σ s).bnd fun y => nox (op x y)) σ fun d s' => .go .nx (σ.set i (some d)) s'
  | _ => .bad
def kMkS (c : Str) (F : List D → M D) (x : D) : M D := fun s => match seqAny s x with | some ds => mMk c F ds s | none => .bad
section
variable {σ : EV} {s : Sto}
theorem f_aug (i : Nat) (op : D → D → M D) (f : EV → M D) : sAug i op f σ s = augK σ[i]? i op f σ s := by
  unfold sAug augK
  rcases h : σ[i]? with _ | (_ | _) <;> simp only [h] <;> rfl
theorem f_augK (i : Nat) (op : D → D → M D) (f : EV → M D) (x : D) : augK (some (some x)) i op f σ s = lft ((f σ s).bnd fun y => nox (op x y)) σ fun d s' => .go .nx (σ.set i (some d)) s' := rfl
theorem h_mkS (c : Str) (F : List D → M D) (fo : EV → M D) : mMkS c F fo σ s = (fo σ s).bnd (kMkS c F) := rfl
theorem k_mkS (c : Str) (F : List D → M D) (ds : List D) : kMkS c F (.lst ds) s = mMk c F ds s := rfl
theorem k_mkST (c : Str) (F : List D → M D) (ds : List D) : kMkS c F (.tup ds) s = mMk c F ds s := rfl
end
theorem Keeps.refl (s : Sto) : Keeps s s := ⟨Nat.le_refl _, fun i o _ h => .inl h⟩
theorem Keeps.app {s s' : Sto} (l : List O) (h : Keeps s s') : Keeps s (s' ++ l) := by
  refine ⟨by rw [List.length_append]; have := h.1; omega, fun i o hi ho => h.2 i o hi ?_⟩
  rw [List.getElem?_append_left (by have := h.1; omega)] at ho
  exact ho
theorem keeps_app (s : Sto) (l : List O) : Keeps s (s ++ l) := (Keeps.refl s).app l
theorem allM_id {α : Type} {f : α → Option α} : ∀ {xs : List α}, (∀ x ∈ xs, f x = some x) → allM f xs = some xs
  | [], _ => rfl
  | x :: xs, h => by
    unfold allM
    rw [h x List.mem_cons_self, allM_id fun y hy => h y (List.mem_cons_of_mem _ hy)]
/-- plain data of a depth: no references -/
inductive Pl : Nat → D → Prop where
  | non {n : Nat} : Pl (n + 1) .non
  | bl {n : Nat} (b : Bool) : Pl (n + 1) (.bl b)
  | int {n : Nat} (i : Int) : Pl (n + 1) (.int i)
  | str {n : Nat} (x : Str) : Pl (n + 1) (.str x)
  | tup {n : Nat} {xs : List D} : (∀ x ∈ xs, Pl n x) → Pl (n + 1) (.tup xs)
  | lst {n : Nat} {xs : List D} : (∀ x ∈ xs, Pl n x) → Pl (n + 1) (.lst xs)
  | sls {n : Nat} {xs : List D} : (∀ x ∈ xs, Pl n x) → Pl (n + 1) (.sls xs)
  | dic {n : Nat} {kvs : List (Key × D)} : (∀ x ∈ kvs.map (·.2), Pl n x) → Pl (n + 1) (.dic kvs)
  | ins {n : Nat} {c : Str} {fs : List (Str × D)} : (∀ x ∈ fs.map (·.2), Pl n x) → Pl (n + 1) (.ins c fs)
theorem zip_of_map {α β : Type} : ∀ (xs : List (α × β)), (xs.map (·.1)).zip (xs.map (·.2)) = xs
  | [] => rfl
  | x :: xs => by rw [List.map_cons, List.map_cons, List.zip_cons_cons, zip_of_map xs]
theorem Pl.frz {s : Sto} {m : Nat} : ∀ {n : Nat} {d : D}, Pl n d → ∀ {f : Nat}, n ≤ f → RQ.frz m s f d = some d
  | _, _, .non, f + 1, _ => rfl
  | _, _, .bl b, f + 1, _ => rfl
  | _, _, .int i, f + 1, _ => rfl
  | _, _, .str x, f + 1, _ => rfl
  | _, _, .tup h, f + 1, hf => by
    unfold RQ.frz
    simp only
    rw [allM_id fun x hx => (h x hx).frz (by omega)]
    rfl
  | _, _, .lst h, f + 1, hf => by
    unfold RQ.frz
    simp only
    rw [allM_id fun x hx => (h x hx).frz (by omega)]
    rfl
  | _, _, .sls h, f + 1, hf => by
    unfold RQ.frz
    simp only
    rw [allM_id fun x hx => (h x hx).frz (by omega)]
    rfl
  | _, _, .dic h, f + 1, hf => by
    unfold RQ.frz
    simp only
    rw [allM_id fun x hx => (h x hx).frz (by omega)]
    simp only [Option.map_some, zip_of_map]
  | _, _, .ins h, f + 1, hf => by
    unfold RQ.frz
    simp only
    rw [allM_id fun x hx => (h x hx).frz (by omega)]
    simp only [Option.map_some, zip_of_map]
theorem Pl.mono : ∀ {n : Nat} {d : D}, Pl n d → ∀ {m : Nat}, n ≤ m → Pl m d
  | _, _, .non, m + 1, _ => .non
  | _, _, .bl b, m + 1, _ => .bl b
  | _, _, .int i, m + 1, _ => .int i
  | _, _, .str x, m + 1, _ => .str x
  | _, _, .tup h, m + 1, hm => .tup fun x hx => (h x hx).mono (by omega)
  | _, _, .lst h, m + 1, hm => .lst fun x hx => (h x hx).mono (by omega)
  | _, _, .sls h, m + 1, hm => .sls fun x hx => (h x hx).mono (by omega)
  | _, _, .dic h, m + 1, hm => .dic fun x hx => (h x hx).mono (by omega)
  | _, _, .ins h, m + 1, hm => .ins fun x hx => (h x hx).mono (by omega)
theorem Pl.cl {n : Nat} : ∀ {k : Nat} {d : D}, Pl k d → Cl n d
  | _, _, .non => .non
  | _, _, .bl b => .bl b
  | _, _, .int i => .int i
  | _, _, .str x => .str x
  | _, _, .tup h => .tup fun x hx => (h x hx).cl
  | _, _, .lst h => .lst fun x hx => (h x hx).cl
  | _, _, .sls h => .sls fun x hx => (h x hx).cl
  | _, _, .dic h => .dic fun x hx => (h x hx).cl
  | _, _, .ins h => .ins fun x hx => (h x hx).cl
/-- a call that leaves its answer as plain data, and new things besides -/
theorem frz_pl {s s' : Sto} {d : D} {n : Nat} (h : Keeps s s') (hd : Pl n d) (hn : n ≤ 20) : frzR s (.ok d s') = .ok d (s'.take s.length) := frz_ok h (hd.frz hn)
/-- .. as a new list of plain data -/
theorem frz_lst {s s' : Sto} {k : Nat} {xs : List D} {n : Nat} (h : Keeps s s') (hk : s.length ≤ k) (hs : s'[k]? = some (.lst xs)) (hx : ∀ x ∈ xs, Pl n x) (hn : n ≤ 19) : frzR s (.ok (.ref k) s') = .ok (.lst xs) (s'.take s.length) := by
  refine frz_ok h ?_
  unfold frz
  simp only [if_neg (show ¬ k < s.length by omega), hs]
  rw [allM_id fun x hx' => (hx x hx').frz hn]
  rfl
/-- .. as a new instance -/
theorem frz_ins {s s' : Sto} {k : Nat} {c : Str} {fs : List (Str × D)} {n : Nat} (h : Keeps s s') (hk : s.length ≤ k) (hs : s'[k]? = some (.ins c fs)) (hx : ∀ x ∈ fs.map (·.2), Pl n x) (hn : n ≤ 19) : frzR s (.ok (.ref k) s') = .ok (.ins c fs) (s'.take s.length) := by
  refine frz_ok h ?_
  unfold frz
  simp only [if_neg (show ¬ k < s.length by omega), hs]
  rw [allM_id fun x hx' => (hx x hx').frz hn]
  simp only [Option.map_some, zip_of_map]
theorem take_app {s : Sto} (l : List O) : (s ++ l).take s.length = s := List.take_left
end RQ

/-! calls with keywords; f-strings; divmod, int -/
namespace RQ
open PySem PySem.Spec PyProof.Rows L2
section
variable {X : Cx} {W : WX} {k n : Nat} {f : Addr} {fd : FuncData} {ps ks : List Str} {F : List D → M D} {x : Str} {p pos kpos : Pos} {a e : Expr} {es : List Expr} {kws : List Keyword} {fs gs : EV → M (List D)} {fe : EV → M D} {nm : Option Str}
structure IK (X : Cx) (W : WX) (kws : List Keyword) (f : EV → M (List D)) : Prop where
  pk : PK X kws (rA X W f)
theorem pk_mono {t t' : TA} (h : PK X kws t) (i : ∀ σ H Q, t' σ H Q → t σ H Q) : PK X kws t' := ⟨fun ps pins s σ H Q I q => h.run ps pins s σ H Q I (i σ H Q q)⟩
theorem ik_nil : IK X W [] aNil := ⟨pk_mono pk_nil fun σ H Q ⟨m, σd, s, hR, hS, hG⟩ => Go.ok (a := []) hG hR .nil⟩
theorem ik_cons (ha : IE X W e fe) (hr : IK X W kws gs) : IK X W (⟨nm, e, kpos⟩ :: kws) (aCons fe gs) := by
  refine ⟨pk_mono (pk_cons ha.pe hr.pk) fun σ H Q ⟨m, σd, s, hR, hS, hG⟩ => ?_⟩
  refine ⟨m, σd, s, hR, hS, (Go.bnd (rel := RV X.K) hG).imp fun x H1 ⟨m1, d, s1, e1, r1, v1, g1⟩ => ?_⟩
  refine ⟨m1, σd, s1, r1, hS.mono e1.pre e1.same, (Go.bnd (rel := RVs X.K) g1).imp fun y H2 ⟨m2, d2, s2, e2, r2, v2, g2⟩ => ?_⟩
  exact Go.ok (a := d :: d2) g2 r2 (.cons (v1.mono e2.pre e2.same) v2)
/-- n positional values, then the keywords' ones, in the parameters' order -/
structure KBi (K : PySem.W.Frag) (fd : FuncData) (ps : List Str) (n : Nat) (ks : List Str) : Prop where
  to : ∀ (s : Shared) (us ws : List Value), K.In s.heap → us.length = n → ws.length = ks.length → BindsTo s fd ⟨us, ks.zip ws⟩ (ps.zip (us ++ ws))
  len : n + ks.length = ps.length
def mCallK (n q : Nat) (F : List D → M D) (fs gs : EV → M (List D)) : EV → M D := fun σ => bnd (fs σ) fun xs => bnd (gs σ) fun ys s => if xs.length = n ∧ ys.length = q then F (xs ++ ys) s else .bad
theorem ie_callK {q : Nat} (G : FnI X.prog X.w X.K X.mg X.base k f fd ps F) (hr : Room k X.A) (hgd : X.A.guards = some []) (tk : Takes X W) (hg : Gl X x) (hm : X.mg x = some (.ref f)) (hk : PySem.W.keepIn X.K (.ref f) = true) (hb : KBi X.K fd ps n ks) (hq : ks.length = q)
    (ha : IA X W (a :: es) fs) (hkw : IK X W kws gs) (hall : (backToKw pos (keywordEach kws X.env)).all (·.1.isSome) = true := by rfl) (hks : (backToKw pos (keywordEach kws X.env)).filterMap (·.1) = ks := by rfl)
    (hdb : (x == ("__debug__" : Str)) = false := by decide) (he : starEach (a :: es) X.env = (false, eval a X.env) :: starEach es X.env := by rfl)
    (hpl : ((backTo pos (starEach (a :: es) X.env)).any (·.1) || (backToKw pos (keywordEach kws X.env)).any (·.1.isNone)) = false := by rfl) :
    IE X W (.Call (.Name x p) (a :: es) kws pos) (mCallK n q F fs gs) := by
  subst hq
  refine ⟨⟨fun pins s σ H Q I ⟨m, σd, t, hR, hS, hG⟩ => ?_⟩⟩
  refine wpAny_Call_Name_kw (ld_glob I hg hm ?_ hdb)
  refine PySem.W.callWith_KW (h₀ := X.base) I.ok.mod.kin hk hall (thn (ha.pa.run pos pins s σ H _ I ⟨m, σd, t, hR, hS, Go.bnd (rel := RVs X.K) hG⟩) fun us s1 ⟨vs, H1, I1, r, m1, xs, t1, e1, r1, v1, g1⟩ => ?_) hpl he
  refine thn (hkw.pk.run pos pins s1 σ H1 _ I1 ⟨m1, σd, t1, r1, hS.mono e1.pre e1.same, Go.bnd (rel := RVs X.K) g1⟩) fun ws s2 ⟨zs, H2, I2, rz, m2, ys, t2, e2, r2, v2, g2⟩ => ⟨I2.kIn, ?_⟩
  rw [hks]
  split at g2
  · rename_i hl
    have v1' := v1.mono e2.pre e2.same
    refine wpAny_call (codeAny_mono (run_i (us := us) (args := ⟨us, ks.zip ws⟩) G hr hgd tk (hb.to s2 us ws I2.kIn (by rw [← r.length, v1.length]; exact hl.1) (by rw [← rz.length, v2.length]; exact hl.2)) I2 (r.append rz) (by rw [List.length_append, v1.length, v2.length, hl.1, hl.2]; exact hb.len) r2 (v1'.append v2) g2) fun r s' hq => ?_)
    cases r with
    | error e => exact hq
    | ok fl =>
      cases fl with
      | ret u => exact hq
      | next => exact hq.elim
      | brk => exact hq.elim
      | cont => exact hq.elim
  · exact g2.elim
/-! ### divmod, int -/
def cDivmod (xs : List D) : M D := fun s => match xs with
  | [.int i, .int j] => if 0 < j ∧ j < 1073741824 then .ok (.tup [.int (i / j), .int (i % j)]) s else .bad
  | _ => .bad
theorem ci_divmod : CallI X (.builtin "divmod") cDivmod := by
  refine call_mono call_divmod fun vs H Q ⟨m, xs, s, hR, hx, hg⟩ => ?_
  unfold cDivmod at hg
  split at hg
  · split at hg
    · rename_i h
      obtain ⟨v, u, rfl, q1, q2⟩ := rv2 hx
      cases q1
      cases q2
      exact ⟨_, _, rfl, h, fun p hp => Go.newT hR (.cons (.int _) (.cons (.int _) .nil)) hp hg⟩
    · exact hg.elim
  · exact hg.elim
def cInt (xs : List D) : M D := fun s => match xs with
  | [.int i] => .ok (.int i) s
  | [.bl k] => .ok (.int (if k then 1 else 0)) s
  | [.str a] => (match PySem.intText? a with | some n => if a.length ≤ 640 then .ok (.int n) s else .bad | none => .bad)
  | _ => .bad
theorem CallR.or {f : Value} {r r' : List V → Hp → VK → Prop} (h : CallR X f r) (h' : CallR X f r') : CallR X f (fun xs H Q => r xs H Q ∨ r' xs H Q) :=
  fun pins s σ H xs us Q I rs q => q.elim (h pins s σ H xs us Q I rs) (h' pins s σ H xs us Q I rs)
theorem ci_int : CallI X (.type "int") cInt := by
  refine call_mono (CallR.or call_int1 call_int_str) fun vs H Q ⟨m, xs, s, hR, hx, hg⟩ => ?_
  unfold cInt at hg
  split at hg
  · obtain ⟨v, rfl, q⟩ := rv1 hx
    cases q
    exact .inl (.inl ⟨_, rfl, hg.ok hR (.int _)⟩)
  · obtain ⟨v, rfl, q⟩ := rv1 hx
    cases q
    exact .inl (.inr ⟨_, rfl, hg.ok hR (.int _)⟩)
  · obtain ⟨v, rfl, q⟩ := rv1 hx
    cases q
    split at hg
    · rename_i n e
      split at hg
      · rename_i hl
        exact .inr ⟨_, n, rfl, e, hl, hg.ok hR (.int _)⟩
      · exact hg.elim
    · exact hg.elim
  · exact hg.elim
/-! ### f-strings -/
def kFmt (x : D) : M D := fun s => match x with
  | .str y => if y.length ≤ lim then .ok (.str y) s else .bad
  | .int i => if i.natAbs.log2 < 1920 then .ok (.str (Str.ofString (toString i))) s else .bad
  | _ => .bad
def mFmt (f : EV → M D) : EV → M D := fun σ => bnd (f σ) kFmt
theorem ie_fmt (he : IE X W e fe) : IE X W (.FormattedValue e (-1) none pos) (mFmt fe) := by
  refine ⟨pe_mono (pe_fmt he.pe) fun σ H Q ⟨m, σd, s, hR, hS, hG⟩ => ?_⟩
  refine ⟨m, σd, s, hR, hS, (Go.bnd (rel := RV X.K) hG).imp fun x H1 ⟨m1, d, s1, e1, r1, v1, g1⟩ => ?_⟩
  unfold kFmt at g1
  split at g1
  · cases v1
    split at g1
    · rename_i hl
      exact .inl ⟨_, rfl, lim_le hl, g1.ok r1 (.str _)⟩
    · exact g1.elim
  · cases v1
    split at g1
    · rename_i hl
      exact .inr ⟨_, rfl, hl, g1.ok r1 (.str _)⟩
    · exact g1.elim
  · exact g1.elim
inductive IJ (X : Cx) (W : WX) : List Expr → List (EV → M D) → Prop where
  | nil : IJ X W [] []
  | cons {e : Expr} {f : EV → M D} {es : List Expr} {fs : List (EV → M D)} (h : IE X W e f) (r : IJ X W es fs) : IJ X W (e :: es) (f :: fs)
theorem IJ.pj : ∀ {es : List Expr} {fs : List (EV → M D)}, IJ X W es fs → PJ X es (fs.map (rE X W))
  | _, _, .nil => .nil
  | _, _, .cons h r => .cons h.pe r.pj
def mJs : List (EV → M D) → Str → EV → M D
  | [], acc => fun _ s => .ok (.str acc) s
  | f :: fs, acc => fun σ => bnd (f σ) fun x => match x with
    | .str y => if (acc ++ y).length ≤ lim then mJs fs (acc ++ y) σ else bad
    | _ => bad
theorem js : ∀ (fs : List (EV → M D)) (acc : Str) {σ : SV} {H : Hp} {Q : VK}, rE X W (mJs fs acc) σ H Q → tJs (fs.map (rE X W)) acc σ H fun out H1 => Q (.str out) H1
  | [], acc, σ, H, Q, ⟨m, σd, s, hR, hS, hG⟩ => Go.ok (a := D.str acc) hG hR (.str _)
  | f :: fs, acc, σ, H, Q, ⟨m, σd, s, hR, hS, hG⟩ => by
    refine ⟨m, σd, s, hR, hS, (Go.bnd (rel := RV X.K) hG).imp fun x H1 ⟨m1, d, s1, e1, r1, v1, g1⟩ => ?_⟩
    split at g1
    · cases v1
      split at g1
      · rename_i hl
        exact ⟨_, rfl, lim_le hl, js fs _ ⟨m1, σd, s1, r1, hS.mono e1.pre e1.same, g1⟩⟩
      · exact g1.elim
    · exact g1.elim
theorem ie_joined {v1 v2 : Expr} {rest : List Expr} {fs : List (EV → M D)} (h : IJ X W (v1 :: v2 :: rest) fs) : IE X W (.JoinedStr (v1 :: v2 :: rest) pos) (mJs fs Str.empty) :=
  ⟨pe_mono (pe_joined h.pj) fun σ H Q hw => js fs Str.empty hw⟩
end
end RQ

/-! data as a whole: equal, shown -/
namespace RQ
open PySem PySem.Spec PyProof.Rows L2 TL
theorem allM_map {α β γ : Type} {f : β → Option γ} {g : α → β} {h : α → γ} : ∀ {xs : List α}, (∀ x ∈ xs, f (g x) = some (h x)) → allM f (xs.map g) = some (xs.map h)
  | [], _ => rfl
  | x :: xs, H => by
    rw [List.map_cons]
    unfold allM
    rw [H x List.mem_cons_self, allM_map fun y hy => H y (List.mem_cons_of_mem _ hy)]
    rfl
theorem toP_lst {α : Type} {s : Sto} {n : Nat} {f : α → D} {g : α → PyData} {xs : List α} (h : ∀ a ∈ xs, toP n s (f a) = some (g a)) : toP (n + 1) s (.lst (xs.map f)) = some (.list (xs.map g)) := by
  unfold toP
  simp only
  rw [allM_map h]
  rfl
theorem toP_tup {α : Type} {s : Sto} {n : Nat} {f : α → D} {g : α → PyData} {xs : List α} (h : ∀ a ∈ xs, toP n s (f a) = some (g a)) : toP (n + 1) s (.tup (xs.map f)) = some (.tuple (xs.map g)) := by
  unfold toP
  simp only
  rw [allM_map h]
  rfl
theorem lay_all {α : Type} {g : α → PyData} : ∀ {xs : List α}, (∀ a ∈ xs, (g a).canLay0 = true) → PyData.canLayAll0 (xs.map g) = true
  | [], _ => rfl
  | x :: xs, h => by
    rw [List.map_cons]
    simp only [PyData.canLayAll0, h x List.mem_cons_self, lay_all fun y hy => h y (List.mem_cons_of_mem _ hy), Bool.and_self]
theorem lay_list {α : Type} {g : α → PyData} {xs : List α} (h : ∀ a ∈ xs, (g a).canLay0 = true) : (PyData.list (xs.map g)).canLay0 = true := lay_all h
theorem lay_tuple {α : Type} {g : α → PyData} {xs : List α} (h : ∀ a ∈ xs, (g a).canLay0 = true) : (PyData.tuple (xs.map g)).canLay0 = true := lay_all h
theorem dEq_same {s : Sto} {x y : D} {p : PyData} (hx : dat s x = some p) (hy : dat s y = some p) (hc : p.canLay0 = true) : dEqB s x y = some true := by
  unfold dEqB
  cases e : sEq x y with
  | none => simp only [hx, hy, hc, and_self, ↓reduceIte, SeqAt.eqv_refl p hc]
  | some b =>
    unfold sEq at e
    split at e
    · cases e; cases hx; cases hy; simp
    · cases e; cases hx; cases hy; simp
    · cases e; cases hx; cases hy; simp
    · cases e
theorem eq_same {s : Sto} {x y : D} {p : PyData} (hx : dat s x = some p) (hy : dat s y = some p) (hc : p.canLay0 = true) : dEq x y s = .ok (.bl true) s := by unfold dEq; rw [dEq_same hx hy hc]
theorem ne_same {s : Sto} {x y : D} {p : PyData} (hx : dat s x = some p) (hy : dat s y = some p) (hc : p.canLay0 = true) : dNe x y s = .ok (.bl false) s := by unfold dNe; rw [dEq_same hx hy hc]; rfl
theorem eq_diff {s : Sto} {x y : D} {p q : PyData} (h0 : sEq x y = none) (hx : dat s x = some p) (hy : dat s y = some q) (hc : p.canLay0 = true) (hd : q.canLay0 = true) {b : Bool} (he : PyData.eqv p q = b) : dEqB s x y = some b := by
  unfold dEqB
  simp only [h0, hx, hy, hc, hd, and_self, ↓reduceIte, he]
theorem rdat_of {s : Sto} {x : D} {p : PyData} (h : dat s x = some p) : rdat s x = some p := by
  unfold rdat
  split
  · cases h
  · exact h
end RQ

/-! own ==, != with any right side; repr, str by an own __repr__ -/
namespace RQ
open PySem PySem.Spec PyProof.Rows L2
/-- no built-in type comes first in a comparison with an instance of C -/
structure NFC (K : PySem.W.Frag) (C : Addr) : Prop where
  own : PySem.W.notFirst K C (.ref C) = true
  non : PySem.W.notFirst K C (.type "NoneType") = true
  bl : PySem.W.notFirst K C (.type "bool") = true
  int : PySem.W.notFirst K C (.type "int") = true
  str : PySem.W.notFirst K C (.type "str") = true
  tup : PySem.W.notFirst K C (.type "tuple") = true
  lst : PySem.W.notFirst K C (.type "list") = true
  dic : PySem.W.notFirst K C (.type "dict") = true
theorem NFC.of {K : PySem.W.Frag} {C : Addr} (h : NFC K C) {s : Sto} {x : D} {t : String} (e : tyN s x = some t) : PySem.W.notFirst K C (.type t) = true := by
  unfold tyN at e
  split at e
  · cases e; exact h.non
  · cases e; exact h.bl
  · cases e; exact h.int
  · cases e; exact h.str
  · cases e; exact h.tup
  · cases e; exact h.lst
  · cases e; exact h.lst
  · cases e; exact h.dic
  · split at e
    · cases e; exact h.lst
    · cases e; exact h.dic
    · cases e
  · cases e
def rhs (c : Str) (y : D) (s : Sto) : Bool := match insV s y with | some (c2, _) => c2 == c | none => (tyN s y).isSome
def lhs (c : Str) (x y : D) (s : Sto) : Bool := isC c x s && rhs c y s
section
variable {X : Cx} {k : Nat} {f C : Addr} {c : Str} {F : List D → M D}
theorem rhs_at {pins : List (Addr × Obj)} {σ : SV} {sh : Shared} {m : MM} {s : Sto} {H : Hp} {y : D} {u : V} {u' : Value} (hm : X.mg c = some (.ref C)) (nf : NFC X.K C) (I : Inv X pins σ H sh) (hR : R X.K X.mg m s H) (ry : RV X.K m (hid m H) y u) (ru : RelV u u') (h : rhs c y s = true) :
    ∃ tb, PySem.W.Looks (model X.prog X.w) sh.heap (typeOf u') tb ∧ PySem.W.notFirst X.K C tb = true := by
  unfold rhs at h
  split at h
  · rename_i c2 f2 e
    have q := eq_of_beq h
    subst q
    obtain ⟨b, C2, dy, hs, rfl, h3, h4, _⟩ := insV_at hR ry e
    rw [hm] at h3
    cases h3
    obtain rfl : u' = Value.ref b := ru
    obtain ⟨oy, oe, J'⟩ := inst_at I h4
    exact ⟨_, J'.type, nf.own⟩
  · obtain ⟨t, ht⟩ := Option.isSome_iff_exists.mp h
    obtain ⟨P, hk, hp, _⟩ := kit_of I ru (tyN_ok hR ry ht)
    exact ⟨_, hk.ty _ _ I.kIn hp, nf.of ht⟩
def dOwnE (c : Str) (F : List D → M D) (o : D → D → M D) (x y : D) : M D := fun s => if lhs c x y s = true then nox (F [x, y]) s else o x y s
def dOwnN (c : Str) (F : List D → M D) (o : D → D → M D) (x y : D) : M D := fun s => if lhs c x y s = true then notR (F [x, y] s) else o x y s
theorem oi_eqE {o : D → D → M D} (ob : OpI X (compareOp .Eq) o) (hm : X.mg c = some (.ref C)) (nf : NFC X.K C) (hs : PySem.W.findIn X.K (.ref C) "__eq__" = some (some (.ref f))) (hf : PySem.W.isFn X.K (.ref f) = true)
    (G : FnJ X.prog X.w X.K X.mg X.base k f F) (hr : Room k X.A) (hgd : X.A.guards = some []) : OpI X (compareOp .Eq) (dOwnE c F o) := by
  intro pins sh σ H v u v' u' Q I rv ru ⟨m, x, y, s, hR, hx, hy, hg⟩
  unfold dOwnE at hg
  split at hg
  · rename_i hb
    rw [lhs, Bool.and_eq_true] at hb
    obtain ⟨a, dx, gs, rfl, h1⟩ := isC_at hm hR hx hb.1
    obtain ⟨tb, hl, hn⟩ := rhs_at hm nf I hR hy ru hb.2
    obtain rfl : v' = Value.ref a := rv
    obtain ⟨ox, od, J⟩ := inst_at I h1
    obtain ⟨m', hF⟩ := I.fr
    show wpAny _ _ (richCompare .Eq _ _) _ _ _
    refine PySem.W.cmp_K (op := .Eq) (tb := tb) hr.units0 hF I.ok.mod.kin J hl hn hs hf (wpAny_mono (callN (vs := [.ref a, u]) G hr hgd I.env0 I (.cons rfl (.cons ru .nil)) hR (.cons hx (.cons hy .nil)) hg) (fun w s' z => ?_) fun _ _ z => z)
    obtain ⟨z', H', I', rz, qz⟩ := z
    exact back_of rz ⟨z', H', I', rz, qz⟩
  · exact ob pins sh σ H v u v' u' Q I rv ru ⟨m, x, y, s, hR, hx, hy, hg⟩
theorem oi_neE {o : D → D → M D} (ob : OpI X (compareOp .NotEq) o) (hm : X.mg c = some (.ref C)) (nf : NFC X.K C) (hs : PySem.W.findIn X.K (.ref C) "__eq__" = some (some (.ref f))) (hf : PySem.W.isFn X.K (.ref f) = true)
    (hne : PySem.W.findIn X.K (.ref C) "__ne__" = some (some (.builtin "object.__ne__"))) (hob : PySem.W.subIn X.K (.ref C) (.type "object") = some true)
    (G : FnJ X.prog X.w X.K X.mg X.base k f F) (hr : Room (k + 1) X.A) (hgd : X.A.guards = some []) : OpI X (compareOp .NotEq) (dOwnN c F o) := by
  intro pins sh σ H v u v' u' Q I rv ru ⟨m, x, y, s, hR, hx, hy, hg⟩
  unfold dOwnN at hg
  split at hg
  · rename_i hb
    rw [lhs, Bool.and_eq_true] at hb
    obtain ⟨a, dx, gs, rfl, h1⟩ := isC_at hm hR hx hb.1
    obtain ⟨tb, hl, hn⟩ := rhs_at hm nf I hR hy ru hb.2
    obtain rfl : v' = Value.ref a := rv
    obtain ⟨ox, od, J⟩ := inst_at I h1
    have hg2 : Go W0 X.K X.mg [] (RV X.K) m H (nox (F [x, y]) s) (fun w H' => ∃ kk, w = .bl kk ∧ Q (.bl (!kk)) H') := by
      unfold notR at hg
      unfold nox
      cases q : F [x, y] s with
      | ok d s' =>
        rw [q] at hg
        intro w m' H' ee rr vv
        cases d with
        | bl kk =>
          cases vv
          exact ⟨kk, rfl, hg _ m' H' ee rr (.bl _)⟩
        | _ => exact hg.elim
      | exc c' fs' s' => rw [q] at hg; exact hg.elim
      | bad => rw [q] at hg; exact hg.elim
    have hin : PySem.W.Looks (model X.prog X.w) sh.heap (isInstance (.ref a) (.type "object")) true := J.type.andThen (PySem.W.looks_subIn I.kIn hob)
    have hbd : ∀ self, PySem.W.Looks (model X.prog X.w) sh.heap (bindSpecial (.builtin "object.__ne__") self) (.builtin "object.__ne__", [self]) := fun self => PySem.W.Looks.of_pure (bind_ne self)
    show wpAny _ _ (richCompare .NotEq _ _) _ _ _
    refine ne_own (tb := tb) (by have := hr.units; omega) I.kIn J hl hn hne hs hf hbd hin (wpAny_mono (callN (vs := [.ref a, u]) G hr.in1 hgd I.env0.in1 I (.cons rfl (.cons ru .nil)) hR (.cons hx (.cons hy .nil)) hg2) (fun w s' z => ?_) fun _ _ z => z)
    obtain ⟨z', H', I', rz, kk, rfl, qz⟩ := z
    cases (show w = Value.bool kk from rz)
    exact ⟨kk, rfl, .bl (!kk), H', I', rfl, qz⟩
  · exact ob pins sh σ H v u v' u' Q I rv ru ⟨m, x, y, s, hR, hx, hy, hg⟩
/-! ### repr, str -/
def strO (r : Res D) : Res D := match r with | .ok (.str z) s => .ok (.str z) s | _ => .bad
def cReprO (c : Str) (F : List D → M D) (g : List D → M D) (xs : List D) : M D := fun s => match xs with
  | [x] => if isC c x s = true then strO (F [x] s) else g [x] s
  | xs => g xs s
theorem strO_go {m : MM} {s : Sto} {H : Hp} {x : D} {Q : VK} (hg : Go W0 X.K X.mg [] (RV X.K) m H (strO (F [x] s)) Q) : Go W0 X.K X.mg [] (RV X.K) m H (nox (F [x]) s) (fun w H' => ∃ z, w = .str z ∧ Q (.str z) H') := by
  unfold strO at hg
  unfold nox
  cases q : F [x] s with
  | ok d s' =>
    rw [q] at hg
    intro w m' H' ee rr vv
    cases d with
    | str z =>
      cases vv
      exact ⟨z, rfl, hg _ m' H' ee rr (.str _)⟩
    | _ => exact hg.elim
  | exc c' fs' s' => rw [q] at hg; exact hg.elim
  | bad => rw [q] at hg; exact hg.elim
theorem ci_reprO {g : List D → M D} (cg : CallI X (.builtin "repr") g) (hm : X.mg c = some (.ref C)) (hs : PySem.W.findIn X.K (.ref C) "__repr__" = some (some (.ref f))) (hf : PySem.W.isFn X.K (.ref f) = true)
    (G : FnJ X.prog X.w X.K X.mg X.base k f F) (hr : Room (k + 1) X.A) (hgd : X.A.guards = some []) : CallI X (.builtin "repr") (cReprO c F g) := by
  intro pins sh σ H vs us Q I rs ⟨m, xs, s, hR, hx, hg⟩
  unfold cReprO at hg
  split at hg
  · rename_i x
    split at hg
    · rename_i hc
      obtain ⟨v, rfl, q⟩ := rv1 hx
      obtain ⟨a, dx, gs, rfl, h1⟩ := isC_at hm hR q hc
      cases rs with
      | cons r1 r2 =>
        cases r2
        obtain rfl : _ = Value.ref a := r1
        obtain ⟨ox, od, J⟩ := inst_at I h1
        obtain ⟨m', hF⟩ := I.fr
        refine PySem.W.repr_K hr.in1.units0 hF I.ok.mod.kin J hs hf (wpAny_mono (callN (vs := [.ref a]) G hr.in1 hgd I.env0.in1 I (.cons rfl .nil) hR (.cons q .nil) (strO_go hg)) (fun w s' z => ?_) fun _ _ z => z)
        obtain ⟨z', H', I', rz, zz, rfl, qz⟩ := z
        obtain ⟨t, rfl⟩ := rz
        exact ⟨.str zz, H', I', ⟨t, rfl⟩, qz⟩
    · exact cg pins sh σ H vs us Q I rs ⟨m, _, s, hR, hx, hg⟩
  · exact cg pins sh σ H vs us Q I rs ⟨m, _, s, hR, hx, hg⟩
theorem ci_strO {g : List D → M D} (cg : CallI X (.type "str") g) (hm : X.mg c = some (.ref C)) (hs : PySem.W.findIn X.K (.ref C) "__str__" = some (some (.builtin "object.__str__"))) (hmro : PySem.W.mroIn X.K C (.type "object") = some true)
    (hrp : PySem.W.findIn X.K (.ref C) "__repr__" = some (some (.ref f))) (hf : PySem.W.isFn X.K (.ref f) = true)
    (G : FnJ X.prog X.w X.K X.mg X.base k f F) (hr : Room (k + 3) X.A) (hgd : X.A.guards = some []) : CallI X (.type "str") (cReprO c F g) := by
  intro pins sh σ H vs us Q I rs ⟨m, xs, s, hR, hx, hg⟩
  unfold cReprO at hg
  split at hg
  · rename_i x
    split at hg
    · rename_i hc
      obtain ⟨v, rfl, q⟩ := rv1 hx
      obtain ⟨a, dx, gs, rfl, h1⟩ := isC_at hm hR q hc
      cases rs with
      | cons r1 r2 =>
        cases r2
        obtain rfl : _ = Value.ref a := r1
        obtain ⟨ox, od, J⟩ := inst_at I h1
        refine PySem.W.kfo_call hr.in1.in1.units0 hr.in1.in1.in1.units0 I.kIn J hs hmro hrp hf (wpAny_mono (callN (vs := [.ref a]) G hr.in1.in1.in1 hgd I.env0.in1.in1.in1 I (.cons rfl .nil) hR (.cons q .nil) (strO_go hg)) (fun w s' z => ?_) fun _ _ z => z)
        obtain ⟨z', H', I', rz, zz, rfl, qz⟩ := z
        obtain ⟨t, rfl⟩ := rz
        exact ⟨.str zz, H', I', ⟨t, rfl⟩, qz⟩
    · exact cg pins sh σ H vs us Q I rs ⟨m, _, s, hR, hx, hg⟩
  · exact cg pins sh σ H vs us Q I rs ⟨m, _, s, hR, hx, hg⟩
end
end RQ

/-! reckoning: f-strings, keywords, own operators and reprs -/
namespace RQ
open PySem PySem.Spec PyProof.Rows L2 TL
def kJs (fs : List (EV → M D)) (acc : Str) (σ : EV) (x : D) : M D := match x with
  | .str y => if (acc ++ y).length ≤ lim then mJs fs (acc ++ y) σ else bad
  | _ => bad
section
variable {σ : EV} {s : Sto}
theorem e_fmt (f : EV → M D) : mFmt f σ s = (f σ s).bnd kFmt := rfl
theorem k_fmt (y : Str) : kFmt (.str y) s = if y.length ≤ lim then .ok (.str y) s else .bad := rfl
theorem k_fmtI (i : Int) : kFmt (.int i) s = if i.natAbs.log2 < 1920 then .ok (.str (Str.ofString (toString i))) s else .bad := rfl
theorem e_js (f : EV → M D) (fs : List (EV → M D)) (acc : Str) : mJs (f :: fs) acc σ s = (f σ s).bnd (kJs fs acc σ) := rfl
theorem k_js (fs : List (EV → M D)) (acc y : Str) : kJs fs acc σ (.str y) s = if (acc ++ y).length ≤ lim then mJs fs (acc ++ y) σ s else .bad := by
  show (if (acc ++ y).length ≤ lim then mJs fs (acc ++ y) σ else bad) s = _
  split <;> rfl
theorem e_js0 (acc : Str) : mJs [] acc σ s = .ok (.str acc) s := rfl
theorem q_callK (n q : Nat) (F : List D → M D) (fs gs : EV → M (List D)) : mCallK n q F fs gs σ s = (fs σ s).bnd fun xs => bnd (gs σ) fun ys s => if xs.length = n ∧ ys.length = q then F (xs ++ ys) s else .bad := rfl
theorem q_divmod (i j : Int) : cDivmod [.int i, .int j] s = if 0 < j ∧ j < 1073741824 then .ok (.tup [.int (i / j), .int (i % j)]) s else .bad := rfl
theorem q_strO (z : Str) : strO (.ok (.str z) s) = .ok (.str z) s := rfl
theorem q_reprO (c : Str) (F g : List D → M D) (x : D) : cReprO c F g [x] s = if isC c x s = true then strO (F [x] s) else g [x] s := rfl
theorem q_isCint (c : Str) (i : Int) : isC c (.int i) s = false := rfl
theorem q_isCbl (c : Str) (b : Bool) : isC c (.bl b) s = false := rfl
theorem q_isCstr (c : Str) (b : Str) : isC c (.str b) s = false := rfl
theorem q_isCtup (c : Str) (b : List D) : isC c (.tup b) s = false := rfl
theorem q_isClst (c : Str) (b : List D) : isC c (.lst b) s = false := rfl
theorem q_isCnon (c : Str) : isC c .non s = false := rfl
theorem q_ownE (c : Str) (F : List D → M D) (o : D → D → M D) (x y : D) : dOwnE c F o x y s = if lhs c x y s = true then noxR (F [x, y] s) else o x y s := by unfold dOwnE; rw [e_nox]
theorem q_ownN (c : Str) (F : List D → M D) (o : D → D → M D) (x y : D) : dOwnN c F o x y s = if lhs c x y s = true then notR (F [x, y] s) else o x y s := rfl
theorem q_lhs (c : Str) (x y : D) : lhs c x y s = (isC c x s && rhs c y s) := rfl
theorem q_rins (c c1 : Str) (fs : List (Str × D)) : rhs c (.ins c1 fs) s = (c1 == c) := rfl
theorem q_rint (c : Str) (i : Int) : rhs c (.int i) s = true := rfl
theorem q_rbl (c : Str) (b : Bool) : rhs c (.bl b) s = true := rfl
theorem q_rstr (c : Str) (b : Str) : rhs c (.str b) s = true := rfl
theorem q_rtup (c : Str) (b : List D) : rhs c (.tup b) s = true := rfl
theorem q_rlst (c : Str) (b : List D) : rhs c (.lst b) s = true := rfl
theorem q_rnon (c : Str) : rhs c .non s = true := rfl
theorem q_mulL (a : List D) (k : Int) : dMul (.lst a) (.int k) s = if 0 ≤ k ∧ a.length * k.toNat ≤ lim ∧ k ≤ lim then .ok (.lst (List.replicate k.toNat a).flatten) s else .bad := rfl
theorem q_pow (k : Nat) (hk : k ≤ 1000) : dPow (.int 10) (.int k) s = .ok (.int (10 ^ k)) s := by
  rw [u_pow, if_pos ⟨by omega, by omega, by decide⟩]
  rfl
theorem q_intB (b : Bool) : cInt [.bl b] s = .ok (.int (if b = true then 1 else 0)) s := rfl
theorem q_intI (i : Int) : cInt [.int i] s = .ok (.int i) s := rfl
theorem q_sum (ns : List Int) : cSum [.lst (ns.map D.int)] s = .ok (.int ns.sum) s := by
  unfold cSum asLL asL
  simp only [allM_map_int]
theorem q_all (bs : List Bool) : cAll [.lst (bs.map D.bl)] s = .ok (.bl (bs.all id)) s := by
  unfold cAll asLL asL
  simp only [allM_map_bl]
theorem q_any (bs : List Bool) : cAny [.lst (bs.map D.bl)] s = .ok (.bl (bs.any id)) s := by
  unfold cAny asLL asL
  simp only [allM_map_bl]
theorem q_neS (z : Str) : dNe (.str z) (.str z) s = .ok (.bl false) s := by rw [v_neS, beq_self_eq_true]; rfl
theorem q_step {g : TF} {t : EV → M Bool} {e : EV → M D} {σ2 : EV} {d y : D} {ds acc : List D} {s1 s2 : Sto} (h1 : g d σ = some σ2) (h2 : t σ2 s = .ok true s1) (h3 : e σ2 s1 = .ok y s2) (hl : acc.length < lim) :
    cmpL g t e σ (d :: ds) acc s = cmpL g t e σ ds (acc ++ [y]) s2 := by
  conv => lhs; unfold cmpL
  simp only [h1, h2, h3, hl, ↓reduceIte]
theorem q_end {g : TF} {t : EV → M Bool} {e : EV → M D} {acc : List D} : cmpL g t e σ [] acc s = .ok acc s := rfl
end
theorem slen (x y : Str) : (x ++ y).length = x.length + y.length := by show (x.cps ++ y.cps).size = _; rw [Array.size_append]; rfl
theorem q_at {α : Type} {xs : List α} {f : α → D} {i : Int} (h0 : 0 ≤ i) (h1 : i < xs.length) : ∃ a, xs[i.toNat]? = some a ∧ atI (xs.map f) i = some (f a) := by
  have hl : i.toNat < xs.length := by omega
  refine ⟨xs[i.toNat], List.getElem?_eq_getElem hl, ?_⟩
  rw [at_nat _ h0, List.getElem?_map, List.getElem?_eq_getElem hl]
  rfl
theorem repl_map {α : Type} (f : α → D) (rows : List α) : ∀ n : Nat, (List.replicate n (rows.map f)).flatten = ((List.replicate n rows).flatten).map f
  | 0 => rfl
  | n + 1 => by rw [List.replicate_succ, List.replicate_succ, List.flatten_cons, List.flatten_cons, List.map_append, repl_map f rows n]
theorem repl_len {α : Type} (rows : List α) (n : Nat) : (List.replicate n rows).flatten.length = n * rows.length := by rw [List.length_flatten, List.map_replicate, List.sum_replicate_nat]
theorem repl_mem {α : Type} {rows : List α} {n : Nat} {r : α} (h : r ∈ (List.replicate n rows).flatten) : r ∈ rows := by
  rw [List.mem_flatten] at h
  obtain ⟨l, hl, hr⟩ := h
  rw [List.mem_replicate] at hl
  rw [hl.2] at hr
  exact hr
end RQ

namespace RQ.Lw
open PySem PySem.Spec PyProof.Rows L2
def topS (i : Nat) : Stmt := PySem.Challenge.pw_rowqueue_k86_lanes_as_maps.main.body.getD i (.Pass ⟨0, 0, 0, 0⟩)
abbrev st_figures : Stmt := topS 2
theorem sc_figures : FnScope ["number", "whole", "found"] ["number"] (defScope st_figures) := ⟨rfl, rfl, rfl, by decide +kernel, rfl, by decide +kernel, by decide +kernel⟩
abbrev st_Lane_init : Stmt := inClass (topS 3) 0
theorem sc_Lane_init : FnScope ["self", "rows", "low", "shift", "service", "gap"] ["self", "rows"] (defScope st_Lane_init) := ⟨rfl, rfl, rfl, by decide +kernel, rfl, by decide +kernel, by decide +kernel⟩
abbrev st_Lane_least : Stmt := inClass (topS 3) 1
theorem sc_Lane_least : FnScope ["self"] ["self"] (defScope st_Lane_least) := ⟨rfl, rfl, rfl, by decide +kernel, rfl, by decide +kernel, by decide +kernel⟩
abbrev st_Lane_drift : Stmt := inClass (topS 3) 2
theorem sc_Lane_drift : FnScope ["self"] ["self"] (defScope st_Lane_drift) := ⟨rfl, rfl, rfl, by decide +kernel, rfl, by decide +kernel, by decide +kernel⟩
abbrev st_Lane_call : Stmt := inClass (topS 3) 3
theorem sc_Lane_call : FnScope ["self", "wait"] ["self", "wait"] (defScope st_Lane_call) := ⟨rfl, rfl, rfl, by decide +kernel, rfl, by decide +kernel, by decide +kernel⟩
abbrev st_Lane_eq : Stmt := inClass (topS 3) 4
theorem sc_Lane_eq : FnScope ["self", "other"] ["self", "other"] (defScope st_Lane_eq) := ⟨rfl, rfl, rfl, by decide +kernel, rfl, by decide +kernel, by decide +kernel⟩
abbrev st_l_bag : Stmt := topS 6
theorem sc_l_bag : FnScope ["_law_script", "_law_cell"] ["_law_script"] (defScope st_l_bag) := ⟨rfl, rfl, rfl, by decide +kernel, rfl, by decide +kernel, by decide +kernel⟩
abbrev st_l_take : Stmt := topS 7
theorem sc_l_take : FnScope ["_law_bag_here", "_law_many", "_law_first", "_law_second", "_law_cell", "_law_value"] ["_law_bag_here", "_law_many"] (defScope st_l_take) := ⟨rfl, rfl, rfl, by decide +kernel, rfl, by decide +kernel, by decide +kernel⟩
abbrev st_l_wait : Stmt := topS 10
theorem sc_l_wait : FnScope ["_law_rows", "_law_wait_here", "_law_service", "_law_gap"] ["_law_rows", "_law_wait_here"] (defScope st_l_wait) := ⟨rfl, rfl, rfl, by decide +kernel, rfl, by decide +kernel, by decide +kernel⟩
abbrev st_Lane_repr : Stmt := inClass (topS 3) 5
theorem sc_Lane_repr : FnScope ["self"] ["self"] (defScope st_Lane_repr) := ⟨rfl, rfl, rfl, by decide +kernel, rfl, by decide +kernel, by decide +kernel⟩
abbrev st_l_number : Stmt := topS 8
theorem sc_l_number : FnScope ["_law_bag_here", "_law_way"] ["_law_bag_here"] (defScope st_l_number) := ⟨rfl, rfl, rfl, by decide +kernel, rfl, by decide +kernel, by decide +kernel⟩
abbrev st_lane_of : Stmt := topS 4
theorem sc_lane_of : FnScope ["least", "drift"] ["least", "drift"] (defScope st_lane_of) := ⟨rfl, rfl, rfl, by decide +kernel, rfl, by decide +kernel, by decide +kernel⟩
abbrev st_l_served : Stmt := topS 9
theorem sc_l_served : FnScope ["_law_bag_here", "_law_top", "_law_found", "_law_k", "_law_service", "_law_gap"] ["_law_bag_here", "_law_top"] (defScope st_l_served) := ⟨rfl, rfl, rfl, by decide +kernel, rfl, by decide +kernel, by decide +kernel⟩
abbrev st_Lane_mul : Stmt := inClass (topS 3) 6
theorem sc_Lane_mul : FnScope ["self", "other"] ["self", "other"] (defScope st_Lane_mul) := ⟨rfl, rfl, rfl, by decide +kernel, rfl, by decide +kernel, by decide +kernel⟩
abbrev st_l_lane : Stmt := topS 12
theorem sc_l_lane : FnScope ["_law_rows", "_law_found", "_law_row"] ["_law_rows"] (defScope st_l_lane) := ⟨rfl, rfl, rfl, by decide +kernel, rfl, by decide +kernel, by decide +kernel⟩
abbrev st_l_lane_right : Stmt := topS 11
theorem sc_l_lane_right : FnScope ["_law_bag_here", "_law_lane_here", "_law_rows", "_law_shift", "_law_great", "_law_wait_here", "_law_service", "_law_gap"] ["_law_bag_here", "_law_lane_here", "_law_rows"] (defScope st_l_lane_right) := ⟨rfl, rfl, rfl, by decide +kernel, rfl, by decide +kernel, by decide +kernel⟩
abbrev st_law : Stmt := topS 13
theorem sc_law : FnScope ["_law_script", "_law_bag_here", "_law_some", "_law_lanes", "_law_pairs", "_law_three", "_law_more", "_law_lane_here", "_law_a", "_law_b", "_law_c", "_law_rows", "_law_at"] ["_law_script"] (defScope st_law) := ⟨rfl, rfl, rfl, by decide +kernel, rfl, by decide +kernel, by decide +kernel⟩
/-! the mirrors -/
noncomputable def S_figures_1 : SM :=
  (sPar 1 2 (mC cAbs (aCons (vGet 0) aNil)) (cst (.str "")))
noncomputable def S_figures_3 : SM :=
  (sSet 2 (m2 dAdd (mSl dSl (mC cStr (aCons (m2 dAdd (m2 dPow (cst (.int 10)) (cst (.int 60))) (m2 dMod (vGet 1) (m2 dPow (cst (.int 10)) (cst (.int 60))))) aNil)) (oSo (cst (.int 1))) oNo) (vGet 2)))
noncomputable def S_figures_4 : SM :=
  (sSet 1 (m2 dDiv (vGet 1) (m2 dPow (cst (.int 10)) (cst (.int 60)))))
noncomputable def S_figures_2 : SM :=
  (whlS (tst (m2 dGe (vGet 1) (m2 dPow (cst (.int 10)) (cst (.int 60)))))
  (sSeq S_figures_3
  S_figures_4) big)
noncomputable def S_figures_5 : SM :=
  (sRt (m2 dAdd (m2 dAdd (m2 dMul (cst (.str "-")) (mC cInt (aCons (m2 dLt (vGet 0) (cst (.int 0))) aNil))) (mC cStr (aCons (vGet 1) aNil))) (vGet 2)))
noncomputable def B_figures : SM :=
  (sSeq S_figures_1
  (sSeq S_figures_2
  S_figures_5))
noncomputable def m_figures : List D → M D := runB 3 B_figures
noncomputable def S_Lane_init_1 : SM :=
  (sAsg (tTup (tCns (tNm 2) (tCns (tNm 3) tNil))) (fun σ => bnd ((aCons (cst (.int 0)) (aCons (cst (.int 0)) aNil)) σ) kTup))
noncomputable def S_Lane_init_3 : SM :=
  (sSet 2 (mC cMax (aCons (cst (.int 0)) (aCons (m2 dSub (m2 dAdd (vGet 2) (vGet 4)) (vGet 5)) aNil))))
noncomputable def S_Lane_init_4 : SM :=
  (sSet 3 (m2 dSub (m2 dAdd (vGet 3) (vGet 4)) (vGet 5)))
noncomputable def S_Lane_init_2 : SM :=
  (sFor (mSrc (vGet 1)) (tTup (tCns (tNm 4) (tCns (tNm 5) tNil)))
  (sSeq S_Lane_init_3
  S_Lane_init_4))
noncomputable def S_Lane_init_5 : SM :=
  (sAsgH (hTup 2 (hsCns (hFld ["Lane"] "low" (vGet 0)) (hsCns (hFld ["Lane"] "shift" (vGet 0)) hsNil))) (fun σ => bnd ((aCons (vGet 2) (aCons (vGet 3) aNil)) σ) kTup))
noncomputable def B_Lane_init : SM :=
  (sSeq S_Lane_init_1
  (sSeq S_Lane_init_2
  S_Lane_init_5))
noncomputable def m_Lane_init : List D → M D := runB 6 B_Lane_init
noncomputable def S_Lane_least_1 : SM :=
  (sRt (mFld ["Lane"] "low" (vGet 0)))
noncomputable def B_Lane_least : SM :=
  S_Lane_least_1
noncomputable def m_Lane_least : List D → M D := runB 1 B_Lane_least
noncomputable def S_Lane_drift_1 : SM :=
  (sRt (mFld ["Lane"] "shift" (vGet 0)))
noncomputable def B_Lane_drift : SM :=
  S_Lane_drift_1
noncomputable def m_Lane_drift : List D → M D := runB 1 B_Lane_drift
noncomputable def S_Lane_call_1 : SM :=
  (sRt (mC cMax (aCons (mFld ["Lane"] "low" (vGet 0)) (aCons (m2 dAdd (vGet 1) (mFld ["Lane"] "shift" (vGet 0))) aNil))))
noncomputable def B_Lane_call : SM :=
  S_Lane_call_1
noncomputable def m_Lane_call : List D → M D := runB 2 B_Lane_call
noncomputable def S_Lane_eq_1 : SM :=
  (sRt (vAnd (mIsi [("Lane", true)] (vGet 1)) (vAnd (m2 dEq (mFld ["Lane"] "low" (vGet 0)) (mFld ["Lane"] "low" (vGet 1))) (m2 dEq (mFld ["Lane"] "shift" (vGet 0)) (mFld ["Lane"] "shift" (vGet 1))))))
noncomputable def B_Lane_eq : SM :=
  S_Lane_eq_1
noncomputable def m_Lane_eq : List D → M D := runB 2 B_Lane_eq
noncomputable def E_l_bag_1_30 : EV → M D :=
  (mC cAbs (aCons (vGet 1) aNil))
noncomputable def S_l_bag_1 : SM :=
  (sRt (fun σ => bnd ((aCons (cst (.int 0)) (aCons (cst (.int 1234567891)) (aCons (cst (.int 0)) (aCons (mLc [1] (mSrc (mSl dSl (vGet 0) oNo (oSo (cst (.int 63))))) (tNm 1) yes E_l_bag_1_30 kF) aNil)))) σ) kLstS))
noncomputable def B_l_bag : SM :=
  S_l_bag_1
noncomputable def m_l_bag : List D → M D := runB 2 B_l_bag
noncomputable def S_l_take_2 : SM :=
  (sSet 4 (cst (.int 0)))
noncomputable def S_l_take_4 : SM :=
  (sSet 4 (m2 dIx (m2 dIx (vGet 0) (cst (.int 3))) (m2 dIx (vGet 0) (cst (.int 2)))))
noncomputable def S_l_take_3 : SM :=
  (sIf (tst (m2 dLt (m2 dIx (vGet 0) (cst (.int 2))) (mC cLen (aCons (m2 dIx (vGet 0) (cst (.int 3))) aNil))))
  S_l_take_4
  sNx)
noncomputable def S_l_take_5 : SM :=
  (sAugIx dAddI (vGet 0) (cst (.int 2)) (cst (.int 1)))
noncomputable def S_l_take_7 : SM :=
  (sSetIx (vGet 4) (vGet 0) (cst (.int 0)))
noncomputable def S_l_take_6 : SM :=
  (sIf (tst (m2 dGe (vGet 4) (cst (.int 1000000000000000000))))
  S_l_take_7
  sNx)
noncomputable def S_l_take_8 : SM :=
  (sSetIx (m2 dMod (m2 dAdd (m2 dAdd (m2 dMul (m2 dIx (vGet 0) (cst (.int 1))) (cst (.int 48271))) (m2 dMod (vGet 4) (cst (.int 2147483647)))) (m2 dMul (cst (.int 7919)) (m2 dIx (vGet 0) (cst (.int 2))))) (cst (.int 2147483647))) (vGet 0) (cst (.int 1)))
noncomputable def S_l_take_1 : SM :=
  (sIf (tst (m2 dEq (m2 dIx (vGet 0) (cst (.int 0))) (cst (.int 0))))
  (sSeq S_l_take_2
  (sSeq S_l_take_3
  (sSeq S_l_take_5
  (sSeq S_l_take_6
  S_l_take_8))))
  sNx)
noncomputable def S_l_take_10 : SM :=
  (sSet 5 (m2 dMod (m2 dIx (vGet 0) (cst (.int 0))) (vGet 1)))
noncomputable def S_l_take_11 : SM :=
  (sSetIx (m2 dDiv (m2 dIx (vGet 0) (cst (.int 0))) (vGet 1)) (vGet 0) (cst (.int 0)))
noncomputable def S_l_take_12 : SM :=
  (sRt (vGet 5))
noncomputable def S_l_take_9 : SM :=
  (sIf (tst (m2 dGt (m2 dIx (vGet 0) (cst (.int 0))) (cst (.int 0))))
  (sSeq S_l_take_10
  (sSeq S_l_take_11
  S_l_take_12))
  sNx)
noncomputable def S_l_take_13 : SM :=
  (sSet 2 (m2 dMod (m2 dMul (m2 dAdd (m2 dIx (vGet 0) (cst (.int 1))) (cst (.int 1))) (cst (.int 39373))) (cst (.int 1000000007))))
noncomputable def S_l_take_14 : SM :=
  (sSet 3 (m2 dMod (m2 dMul (m2 dMod (m2 dMul (vGet 2) (vGet 2)) (cst (.int 998244353))) (cst (.int 30011))) (cst (.int 998244353))))
noncomputable def S_l_take_16 : SM :=
  (sRt (m2 dMod (m2 dAdd (m2 dMul (vGet 3) (cst (.int 1000000007))) (vGet 2)) (vGet 1)))
noncomputable def S_l_take_15 : SM :=
  (sIf (tst (m2 dGt (vGet 1) (cst (.int 1000000))))
  S_l_take_16
  sNx)
noncomputable def S_l_take_17 : SM :=
  (sRt (m2 dMod (m2 dDiv (vGet 3) (cst (.int 7))) (vGet 1)))
noncomputable def B_l_take : SM :=
  (sSeq S_l_take_1
  (sSeq S_l_take_9
  (sSeq S_l_take_13
  (sSeq S_l_take_14
  (sSeq S_l_take_15
  S_l_take_17)))))
noncomputable def m_l_take : List D → M D := runB 6 B_l_take
noncomputable def S_l_wait_2 : SM :=
  (sSet 1 (mC cMax (aCons (cst (.int 0)) (aCons (m2 dSub (m2 dAdd (vGet 1) (vGet 2)) (vGet 3)) aNil))))
noncomputable def S_l_wait_1 : SM :=
  (sFor (mSrc (vGet 0)) (tTup (tCns (tNm 2) (tCns (tNm 3) tNil)))
  S_l_wait_2)
noncomputable def S_l_wait_3 : SM :=
  (sRt (vGet 1))
noncomputable def B_l_wait : SM :=
  (sSeq S_l_wait_1
  S_l_wait_3)
noncomputable def m_l_wait : List D → M D := runB 4 B_l_wait
noncomputable def S_Lane_repr_1 : SM :=
  (sRt (mJs ((cst (.str "Lane(")) :: ((mFmt (mCall 1 m_figures (aCons (mFld ["Lane"] "low" (vGet 0)) aNil))) :: ((cst (.str ", ")) :: ((mFmt (mCall 1 m_figures (aCons (mFld ["Lane"] "shift" (vGet 0)) aNil))) :: ((cst (.str ")")) :: []))))) Str.empty))
noncomputable def B_Lane_repr : SM :=
  S_Lane_repr_1
noncomputable def m_Lane_repr : List D → M D := runB 1 B_Lane_repr
noncomputable def S_l_number_1 : SM :=
  (sSet 1 (mCall 2 m_l_take (aCons (vGet 0) (aCons (cst (.int 6)) aNil))))
noncomputable def S_l_number_2 : SM :=
  (sRt (m2 dIx (fun σ => bnd ((aCons (mCall 2 m_l_take (aCons (vGet 0) (aCons (cst (.int 4)) aNil))) (aCons (mCall 2 m_l_take (aCons (vGet 0) (aCons (cst (.int 10)) aNil))) (aCons (mCall 2 m_l_take (aCons (vGet 0) (aCons (cst (.int 10)) aNil))) (aCons (cst (.int 0)) (aCons (mCall 2 m_l_take (aCons (vGet 0) (aCons (m2 dAdd (m2 dPow (cst (.int 10)) (cst (.int 18))) (cst (.int 1))) aNil))) (aCons (m2 dPow (cst (.int 10)) (cst (.int 18))) aNil)))))) σ) kLst) (vGet 1)))
noncomputable def B_l_number : SM :=
  (sSeq S_l_number_1
  S_l_number_2)
noncomputable def m_l_number : List D → M D := runB 2 B_l_number
noncomputable def S_lane_of_1 : SM :=
  (sRt (fzE (mMkE "Lane" (starF 1 m_Lane_init) (aCons (fun σ => bnd ((aCons (cst (.int 0)) (aCons (m2 dSub (vGet 0) (vGet 1)) aNil)) σ) kTup) (aCons (fun σ => bnd ((aCons (vGet 0) (aCons (cst (.int 0)) aNil)) σ) kTup) aNil)))))
noncomputable def B_lane_of : SM :=
  S_lane_of_1
noncomputable def m_lane_of : List D → M D := runB 2 B_lane_of
noncomputable def S_l_served_1 : SM :=
  (sSet 2 (fun σ => bnd (aNil σ) kLstS))
noncomputable def S_l_served_3 : SM :=
  (sPar 4 5 (mCall 1 m_l_number (aCons (vGet 0) aNil)) (mCall 1 m_l_number (aCons (vGet 0) aNil)))
noncomputable def S_l_served_4 : SM :=
  (sEx (mM "list" mAppend (vGet 2) (aCons (m2 dIx (fun σ => bnd ((aCons (fun σ => bnd ((aCons (vGet 4) (aCons (vGet 5) aNil)) σ) kTup) (aCons (fun σ => bnd ((aCons (vGet 4) (aCons (vGet 4) aNil)) σ) kTup) (aCons (fun σ => bnd ((aCons (vGet 5) (aCons (vGet 4) aNil)) σ) kTup) aNil))) σ) kLst) (mCall 2 m_l_take (aCons (vGet 0) (aCons (cst (.int 3)) aNil)))) aNil)))
noncomputable def S_l_served_2 : SM :=
  (sFor (mRng1 (mCall 2 m_l_take (aCons (vGet 0) (aCons (m2 dAdd (vGet 1) (cst (.int 1))) aNil)))) (tNm 3)
  (sSeq S_l_served_3
  S_l_served_4))
noncomputable def S_l_served_5 : SM :=
  (sRt (vGet 2))
noncomputable def B_l_served : SM :=
  (sSeq S_l_served_1
  (sSeq S_l_served_2
  S_l_served_5))
noncomputable def m_l_served : List D → M D := fzF (runB 6 B_l_served)
noncomputable def S_Lane_mul_1 : SM :=
  (sRt (mCall 2 m_lane_of (aCons (mC cMax (aCons (mFld ["Lane"] "low" (vGet 1)) (aCons (m2 dAdd (mFld ["Lane"] "low" (vGet 0)) (mFld ["Lane"] "shift" (vGet 1))) aNil))) (aCons (m2 dAdd (mFld ["Lane"] "shift" (vGet 0)) (mFld ["Lane"] "shift" (vGet 1))) aNil))))
noncomputable def B_Lane_mul : SM :=
  S_Lane_mul_1
noncomputable def m_Lane_mul : List D → M D := runB 2 B_Lane_mul
noncomputable def S_l_lane_2 : SM :=
  (sRt (fzE (fun _ => mMk "Lane" (starF 1 m_Lane_init) [])))
noncomputable def S_l_lane_1 : SM :=
  (sIf (tst (m2 dEq (mC cLen (aCons (vGet 0) aNil)) (cst (.int 0))))
  S_l_lane_2
  sNx)
noncomputable def S_l_lane_3 : SM :=
  (sSet 1 (fzE (mMkE "Lane" (starF 1 m_Lane_init) (aCons (m2 dIx (vGet 0) (cst (.int 0))) aNil))))
noncomputable def S_l_lane_5 : SM :=
  (sSet 1 (m2 (dOwn "Lane" (arN 2 m_Lane_mul) dMul) (vGet 1) (fzE (mMkE "Lane" (starF 1 m_Lane_init) (aCons (vGet 2) aNil)))))
noncomputable def S_l_lane_4 : SM :=
  (sFor (mSrc (mSl dSl (vGet 0) (oSo (cst (.int 1))) oNo)) (tNm 2)
  S_l_lane_5)
noncomputable def S_l_lane_6 : SM :=
  (sRt (vGet 1))
noncomputable def B_l_lane : SM :=
  (sSeq S_l_lane_1
  (sSeq S_l_lane_3
  (sSeq S_l_lane_4
  S_l_lane_6)))
noncomputable def m_l_lane : List D → M D := runB 3 B_l_lane
noncomputable def E_l_lane_right_1_21 : EV → M D :=
  (m2 dSub (vGet 6) (vGet 7))
noncomputable def S_l_lane_right_1 : SM :=
  (sSet 3 (mC cSum (aCons (mLc [6, 7] (mSrc (vGet 2)) (tTup (tCns (tNm 6) (tCns (tNm 7) tNil))) yes E_l_lane_right_1_21 kF) aNil)))
noncomputable def S_l_lane_right_3 : SM :=
  (sRt (cst (.bl false)))
noncomputable def S_l_lane_right_2 : SM :=
  (sIf (tst (m2 dNe (mC cRepr (aCons (fun σ => bnd ((aCons (mProp [("Lane", (arN 1 m_Lane_least))] (vGet 1)) (aCons (mProp [("Lane", (arN 1 m_Lane_drift))] (vGet 1)) aNil)) σ) kLst) aNil)) (mC cRepr (aCons (fun σ => bnd ((aCons (mCall 2 m_l_wait (aCons (vGet 2) (aCons (cst (.int 0)) aNil))) (aCons (vGet 3) aNil)) σ) kLst) aNil))))
  S_l_lane_right_3
  sNx)
noncomputable def S_l_lane_right_5 : SM :=
  (sRt (cst (.bl false)))
noncomputable def S_l_lane_right_4 : SM :=
  (sIf (mOr (tst (m2 dNe (mC (cReprO "Lane" (arN 1 m_Lane_repr) cRepr) (aCons (vGet 1) aNil)) (m2 dAdd (m2 dAdd (m2 dAdd (m2 dAdd (cst (.str "Lane(")) (mC (cReprO "Lane" (arN 1 m_Lane_repr) cStr) (aCons (mCall 2 m_l_wait (aCons (vGet 2) (aCons (cst (.int 0)) aNil))) aNil))) (cst (.str ", "))) (mC (cReprO "Lane" (arN 1 m_Lane_repr) cStr) (aCons (vGet 3) aNil))) (cst (.str ")"))))) (tst (m2 dNe (mC (cReprO "Lane" (arN 1 m_Lane_repr) cStr) (aCons (vGet 1) aNil)) (mC (cReprO "Lane" (arN 1 m_Lane_repr) cRepr) (aCons (vGet 1) aNil)))))
  S_l_lane_right_5
  sNx)
noncomputable def S_l_lane_right_6 : SM :=
  (sSet 4 (m2 dIx (fun σ => bnd ((aCons (mCall 2 m_l_take (aCons (vGet 0) (aCons (m2 dPow (cst (.int 10)) (cst (.int 21))) aNil))) (aCons (m2 dSub (m2 dPow (cst (.int 10)) (cst (.int 40))) (cst (.int 1))) aNil)) σ) kLst) (mCall 2 m_l_take (aCons (vGet 0) (aCons (cst (.int 2)) aNil)))))
noncomputable def S_l_lane_right_9 : SM :=
  (sRt (cst (.bl false)))
noncomputable def S_l_lane_right_8 : SM :=
  (sIf (tst (m2 dNe (mC cRepr (aCons (fun σ => bnd ((aCons (mCallO "Lane" (arN 2 m_Lane_call) (vGet 1) (aCons (vGet 5) aNil)) (aCons (mCallO "Lane" (arN 2 m_Lane_call) (vGet 1) (aCons (vGet 5) aNil)) aNil)) σ) kLst) aNil)) (mC cRepr (aCons (m2 dMul (fun σ => bnd ((aCons (mCall 2 m_l_wait (aCons (vGet 2) (aCons (vGet 5) aNil))) aNil) σ) kLst) (cst (.int 2))) aNil))))
  S_l_lane_right_9
  sNx)
noncomputable def S_l_lane_right_7 : SM :=
  (sFor (mSrc (fun σ => bnd ((aCons (cst (.int 0)) (aCons (cst (.int 1)) (aCons (mCall 2 m_l_take (aCons (vGet 0) (aCons (cst (.int 50)) aNil))) (aCons (vGet 4) (aCons (mCall 1 m_l_number (aCons (vGet 0) aNil)) aNil))))) σ) kLst)) (tNm 5)
  S_l_lane_right_8)
noncomputable def S_l_lane_right_10 : SM :=
  (sRt (vAnd (m2 (dOwnN "Lane" (arN 2 m_Lane_eq) dNe) (vGet 1) (fun σ => bnd ((aCons (mProp [("Lane", (arN 1 m_Lane_least))] (vGet 1)) (aCons (mProp [("Lane", (arN 1 m_Lane_drift))] (vGet 1)) aNil)) σ) kTup)) (m2 (dOwnN "Lane" (arN 2 m_Lane_eq) dNe) (vGet 1) (fun σ => bnd (aNil σ) kLst))))
noncomputable def B_l_lane_right : SM :=
  (sSeq S_l_lane_right_1
  (sSeq S_l_lane_right_2
  (sSeq S_l_lane_right_4
  (sSeq S_l_lane_right_6
  (sSeq S_l_lane_right_7
  S_l_lane_right_10)))))
noncomputable def m_l_lane_right : List D → M D := runB 8 B_l_lane_right
noncomputable def S_law_1 : SM :=
  (sSet 1 (mCall 1 m_l_bag (aCons (vGet 0) aNil)))
noncomputable def S_law_2 : SM :=
  (sSet 2 (fun σ => bnd ((aCons (mCall 2 m_l_served (aCons (vGet 1) (aCons (cst (.int 30)) aNil))) (aCons (mCall 2 m_l_served (aCons (vGet 1) (aCons (cst (.int 30)) aNil))) aNil)) σ) kLstS))
noncomputable def S_law_4 : SM :=
  (sSetIx (mSl dSl (m2 dMul (m2 dIx (vGet 2) (cst (.int 0))) (cst (.int 400))) oNo (oSo (cst (.int 400)))) (vGet 2) (cst (.int 0)))
noncomputable def S_law_3 : SM :=
  (sIf (mAnd (tst (m2 dNe (m2 dIx (vGet 2) (cst (.int 0))) (fun σ => bnd (aNil σ) kLst))) (tst (m2 dEq (mCall 2 m_l_take (aCons (vGet 1) (aCons (cst (.int 8)) aNil))) (cst (.int 0)))))
  S_law_4
  sNx)
noncomputable def E_law_5_17 : EV → M D :=
  (mCall 1 m_l_lane (aCons (vGet 11) aNil))
noncomputable def S_law_5 : SM :=
  (sSet 3 (mLc [11] (mSrc (vGet 2)) (tNm 11) yes E_law_5_17 kF))
noncomputable def E_law_6_15 : EV → M D :=
  (mCall 3 m_l_lane_right (aCons (vGet 1) (aCons (m2 dIx (vGet 3) (vGet 12)) (aCons (m2 dIx (vGet 2) (vGet 12)) aNil))))
noncomputable def S_law_7 : SM :=
  (sRt (cst (.bl false)))
noncomputable def S_law_6 : SM :=
  (sIf (mNot (tst (mC cAll (aCons (mLc [12] (mRng1 (cst (.int 2))) (tNm 12) yes E_law_6_15 kF) aNil))))
  S_law_7
  sNx)
noncomputable def S_law_9 : SM :=
  (sRt (cst (.bl false)))
noncomputable def S_law_8 : SM :=
  (sIf (mNot (tst (mCall 3 m_l_lane_right (aCons (vGet 1) (aCons (m2 (dOwn "Lane" (arN 2 m_Lane_mul) dMul) (m2 dIx (vGet 3) (cst (.int 0))) (m2 dIx (vGet 3) (cst (.int 1)))) (aCons (m2 dAdd (m2 dIx (vGet 2) (cst (.int 0))) (m2 dIx (vGet 2) (cst (.int 1)))) aNil))))))
  S_law_9
  sNx)
noncomputable def S_law_11 : SM :=
  (sRt (cst (.bl false)))
noncomputable def S_law_10 : SM :=
  (sIf (mOr (tst (m2 (dOwnN "Lane" (arN 2 m_Lane_eq) dNe) (m2 (dOwn "Lane" (arN 2 m_Lane_mul) dMul) (m2 dIx (vGet 3) (cst (.int 0))) (fzE (fun _ => mMk "Lane" (starF 1 m_Lane_init) []))) (m2 dIx (vGet 3) (cst (.int 0))))) (tst (m2 (dOwnN "Lane" (arN 2 m_Lane_eq) dNe) (m2 (dOwn "Lane" (arN 2 m_Lane_mul) dMul) (fzE (fun _ => mMk "Lane" (starF 1 m_Lane_init) [])) (m2 dIx (vGet 3) (cst (.int 0)))) (m2 dIx (vGet 3) (cst (.int 0))))))
  S_law_11
  sNx)
noncomputable def E_law_12_17 : EV → M D :=
  (fun σ => bnd ((aCons (mProp [("Lane", (arN 1 m_Lane_least))] (vGet 7)) (aCons (mProp [("Lane", (arN 1 m_Lane_drift))] (vGet 7)) aNil)) σ) kTup)
noncomputable def S_law_12 : SM :=
  (sSet 4 (mLc [7] (mSrc (vGet 3)) (tNm 7) yes E_law_12_17 kF))
noncomputable def S_law_14 : SM :=
  (sRt (cst (.bl false)))
noncomputable def S_law_13 : SM :=
  (sIf (mOr (tst (m2 (dOwnN "Lane" (arN 2 m_Lane_eq) dNe) (m2 (dOwnE "Lane" (arN 2 m_Lane_eq) dEq) (m2 dIx (vGet 3) (cst (.int 0))) (m2 dIx (vGet 3) (cst (.int 1)))) (m2 (dOwnE "Lane" (arN 2 m_Lane_eq) dEq) (m2 dIx (vGet 4) (cst (.int 0))) (m2 dIx (vGet 4) (cst (.int 1)))))) (mNot (tst (m2 (dOwnE "Lane" (arN 2 m_Lane_eq) dEq) (m2 dIx (vGet 3) (cst (.int 0))) (mCall 1 m_l_lane (aCons (m2 dIx (vGet 2) (cst (.int 0))) aNil))))))
  S_law_14
  sNx)
noncomputable def S_law_15 : SM :=
  (sSet 5 (m2 dAdd (mSl dSl (m2 dIx (vGet 2) (cst (.int 0))) oNo (oSo (cst (.int 3)))) (fun σ => bnd ((aCons (fun σ => bnd ((aCons (cst (.int 2)) (aCons (cst (.int 1)) aNil)) σ) kTup) (aCons (fun σ => bnd ((aCons (cst (.int 0)) (aCons (cst (.int 3)) aNil)) σ) kTup) (aCons (fun σ => bnd ((aCons (cst (.int 1)) (aCons (cst (.int 1)) aNil)) σ) kTup) aNil))) σ) kLst)))
noncomputable def S_law_17 : SM :=
  (sRt (cst (.bl false)))
noncomputable def S_law_16 : SM :=
  (sIf (mNot (tst (mCall 3 m_l_lane_right (aCons (vGet 1) (aCons (fzE (mMkE "Lane" (starF 1 m_Lane_init) (aCons (m2 dIx (vGet 5) (cst (.int 0))) (aCons (m2 dIx (vGet 5) (cst (.int 1))) (aCons (m2 dIx (vGet 5) (cst (.int 2))) aNil))))) (aCons (mSl dSl (vGet 5) oNo (oSo (cst (.int 3)))) aNil))))))
  S_law_17
  sNx)
noncomputable def S_law_18 : SM :=
  (sAsg (tLst (tCns (tNm 8) (tCns (tNm 9) (tCns (tNm 10) tNil)))) (mSl dSl (vGet 5) oNo (oSo (cst (.int 3)))))
noncomputable def S_law_19 : SM :=
  (sSet 6 (fun σ => bnd ((aCons (vGet 8) (aCons (vGet 9) (aCons (vGet 10) (aCons (fun σ => bnd ((aCons (cst (.int 5)) (aCons (cst (.int 2)) aNil)) σ) kTup) (aCons (fun σ => bnd ((aCons (cst (.int 0)) (aCons (cst (.int 4)) aNil)) σ) kTup) (aCons (fun σ => bnd ((aCons (cst (.int 7)) (aCons (cst (.int 7)) aNil)) σ) kTup) (aCons (fun σ => bnd ((aCons (cst (.int 1)) (aCons (cst (.int 0)) aNil)) σ) kTup) (aCons (vGet 8) (aCons (vGet 9) (aCons (vGet 10) (aCons (fun σ => bnd ((aCons (cst (.int 0)) (aCons (cst (.int 9)) aNil)) σ) kTup) (aCons (fun σ => bnd ((aCons (m2 dPow (cst (.int 10)) (cst (.int 18))) (aCons (m2 dPow (cst (.int 10)) (cst (.int 18))) aNil)) σ) kTup) aNil)))))))))))) σ) kLst))
noncomputable def S_law_20 : SM :=
  (sSet 7 (fzE (mMkE "Lane" (starF 1 m_Lane_init) (aCons (vGet 8) (aCons (vGet 9) (aCons (vGet 10) (aCons (fun σ => bnd ((aCons (cst (.int 5)) (aCons (cst (.int 2)) aNil)) σ) kTup) (aCons (fun σ => bnd ((aCons (cst (.int 0)) (aCons (cst (.int 4)) aNil)) σ) kTup) (aCons (fun σ => bnd ((aCons (cst (.int 7)) (aCons (cst (.int 7)) aNil)) σ) kTup) (aCons (fun σ => bnd ((aCons (cst (.int 1)) (aCons (cst (.int 0)) aNil)) σ) kTup) (aCons (vGet 8) (aCons (vGet 9) (aCons (vGet 10) (aCons (fun σ => bnd ((aCons (cst (.int 0)) (aCons (cst (.int 9)) aNil)) σ) kTup) (aCons (fun σ => bnd ((aCons (m2 dPow (cst (.int 10)) (cst (.int 18))) (aCons (m2 dPow (cst (.int 10)) (cst (.int 18))) aNil)) σ) kTup) aNil)))))))))))))))
noncomputable def S_law_21 : SM :=
  (sRt (mCall 3 m_l_lane_right (aCons (vGet 1) (aCons (vGet 7) (aCons (vGet 6) aNil)))))
noncomputable def B_law : SM :=
  (sSeq S_law_1
  (sSeq S_law_2
  (sSeq S_law_3
  (sSeq S_law_5
  (sSeq S_law_6
  (sSeq S_law_8
  (sSeq S_law_10
  (sSeq S_law_12
  (sSeq S_law_13
  (sSeq S_law_15
  (sSeq S_law_16
  (sSeq S_law_18
  (sSeq S_law_19
  (sSeq S_law_20
  S_law_21))))))))))))))
noncomputable def m_law : List D → M D := runB 13 B_law
/-! instances that stay, read -/
theorem fd_Lane_low {x0 x1 : D} {s : Sto} : gFld ["Lane"] "low" (.ins "Lane" [("low", x0), ("shift", x1)]) s = .ok x0 s := by
  rw [i_gfld, if_pos (by decide +kernel)]
  simp only [List.lookup_cons, beq_self_eq_true, f_o1]
theorem fd_Lane_shift {x0 x1 : D} {s : Sto} : gFld ["Lane"] "shift" (.ins "Lane" [("low", x0), ("shift", x1)]) s = .ok x1 s := by
  rw [i_gfld, if_pos (by decide +kernel)]
  simp only [List.lookup_cons, (show (("shift" : Str) == ("low" : Str)) = false by decide +kernel), beq_self_eq_true, f_o1]
theorem pr_Lane_drift {x0 x1 : D} {s : Sto} : gProp [("Lane", (arN 1 m_Lane_drift))] (.ins "Lane" [("low", x0), ("shift", x1)]) s = noxR ((arN 1 m_Lane_drift) [(.ins "Lane" [("low", x0), ("shift", x1)])] s) := by
  rw [i_gprop]
  simp only [List.lookup_cons, beq_self_eq_true, i_propI]
theorem pr_Lane_least {x0 x1 : D} {s : Sto} : gProp [("Lane", (arN 1 m_Lane_least))] (.ins "Lane" [("low", x0), ("shift", x1)]) s = noxR ((arN 1 m_Lane_least) [(.ins "Lane" [("low", x0), ("shift", x1)])] s) := by
  rw [i_gprop]
  simp only [List.lookup_cons, beq_self_eq_true, i_propI]
theorem is_Lane_11099 {x0 x1 : D} {s : Sto} : gIsi [("Lane", true)] (.ins "Lane" [("low", x0), ("shift", x1)]) s = .ok (.bl true) s := by
  rw [i_gisi, show List.lookup ("Lane" : Str) ([("Lane", true)] : ITab) = some true by decide +kernel]
  rfl
theorem bo_Lane {x0 x1 y0 y1 : D} {s : Sto} : both "Lane" (.ins "Lane" [("low", x0), ("shift", x1)]) (.ins "Lane" [("low", y0), ("shift", y1)]) s = true := by rw [i_both]; decide +kernel
theorem ic_Lane {x0 x1 : D} {s : Sto} : isC "Lane" (.ins "Lane" [("low", x0), ("shift", x1)]) s = true := by rw [i_isC]; decide +kernel
/-! what the top has left -/
structure Txt (K : PySem.W.Frag) (mg : Str → Option Value) where
  a_figures : Addr
  d_figures : FuncData
  F_figures : Fn K "figures" "figures" st_figures a_figures d_figures
  g_figures : mg "figures" = some (.ref a_figures)
  b_figures : Binds K d_figures ["number"] []
  a_Lane_init : Addr
  d_Lane_init : FuncData
  F_Lane_init : Fn K "__init__" "Lane.__init__" st_Lane_init a_Lane_init d_Lane_init
  b_Lane_init : ∀ us rest : List Value, us.length = 1 → bindArgs d_Lane_init ⟨us ++ rest, []⟩ = (newTuple rest >>= fun t => pure ((["self"] : List Str).zip us ++ [(("rows" : Str), t)]))
  a_Lane_least : Addr
  d_Lane_least : FuncData
  F_Lane_least : Fn K "least" "Lane.least" st_Lane_least a_Lane_least d_Lane_least
  b_Lane_least : Binds K d_Lane_least ["self"] []
  a_Lane_drift : Addr
  d_Lane_drift : FuncData
  F_Lane_drift : Fn K "drift" "Lane.drift" st_Lane_drift a_Lane_drift d_Lane_drift
  b_Lane_drift : Binds K d_Lane_drift ["self"] []
  a_Lane_call : Addr
  d_Lane_call : FuncData
  F_Lane_call : Fn K "__call__" "Lane.__call__" st_Lane_call a_Lane_call d_Lane_call
  b_Lane_call : Binds K d_Lane_call ["self", "wait"] []
  a_Lane_eq : Addr
  d_Lane_eq : FuncData
  F_Lane_eq : Fn K "__eq__" "Lane.__eq__" st_Lane_eq a_Lane_eq d_Lane_eq
  b_Lane_eq : Binds K d_Lane_eq ["self", "other"] []
  a_l_bag : Addr
  d_l_bag : FuncData
  F_l_bag : Fn K "_law_bag" "_law_bag" st_l_bag a_l_bag d_l_bag
  g_l_bag : mg "_law_bag" = some (.ref a_l_bag)
  b_l_bag : Binds K d_l_bag ["_law_script"] []
  a_l_take : Addr
  d_l_take : FuncData
  F_l_take : Fn K "_law_take" "_law_take" st_l_take a_l_take d_l_take
  g_l_take : mg "_law_take" = some (.ref a_l_take)
  b_l_take : Binds K d_l_take ["_law_bag_here", "_law_many"] []
  a_l_wait : Addr
  d_l_wait : FuncData
  F_l_wait : Fn K "_law_wait" "_law_wait" st_l_wait a_l_wait d_l_wait
  g_l_wait : mg "_law_wait" = some (.ref a_l_wait)
  b_l_wait : Binds K d_l_wait ["_law_rows", "_law_wait_here"] []
  a_Lane_repr : Addr
  d_Lane_repr : FuncData
  F_Lane_repr : Fn K "__repr__" "Lane.__repr__" st_Lane_repr a_Lane_repr d_Lane_repr
  b_Lane_repr : Binds K d_Lane_repr ["self"] []
  a_l_number : Addr
  d_l_number : FuncData
  F_l_number : Fn K "_law_number" "_law_number" st_l_number a_l_number d_l_number
  g_l_number : mg "_law_number" = some (.ref a_l_number)
  b_l_number : Binds K d_l_number ["_law_bag_here"] []
  a_lane_of : Addr
  d_lane_of : FuncData
  F_lane_of : Fn K "lane_of" "lane_of" st_lane_of a_lane_of d_lane_of
  g_lane_of : mg "lane_of" = some (.ref a_lane_of)
  b_lane_of : Binds K d_lane_of ["least", "drift"] []
  a_l_served : Addr
  d_l_served : FuncData
  F_l_served : Fn K "_law_served" "_law_served" st_l_served a_l_served d_l_served
  g_l_served : mg "_law_served" = some (.ref a_l_served)
  b_l_served : Binds K d_l_served ["_law_bag_here", "_law_top"] []
  a_Lane_mul : Addr
  d_Lane_mul : FuncData
  F_Lane_mul : Fn K "__mul__" "Lane.__mul__" st_Lane_mul a_Lane_mul d_Lane_mul
  b_Lane_mul : Binds K d_Lane_mul ["self", "other"] []
  a_l_lane : Addr
  d_l_lane : FuncData
  F_l_lane : Fn K "_law_lane" "_law_lane" st_l_lane a_l_lane d_l_lane
  g_l_lane : mg "_law_lane" = some (.ref a_l_lane)
  b_l_lane : Binds K d_l_lane ["_law_rows"] []
  a_l_lane_right : Addr
  d_l_lane_right : FuncData
  F_l_lane_right : Fn K "_law_lane_right" "_law_lane_right" st_l_lane_right a_l_lane_right d_l_lane_right
  g_l_lane_right : mg "_law_lane_right" = some (.ref a_l_lane_right)
  b_l_lane_right : Binds K d_l_lane_right ["_law_bag_here", "_law_lane_here", "_law_rows"] []
  a_law : Addr
  d_law : FuncData
  F_law : Fn K "law" "law" st_law a_law d_law
  g_law : mg "law" = some (.ref a_law)
  b_law : Binds K d_law ["_law_script"] []
  C_Lane : Addr
  g_Lane : mg "Lane" = some (.ref C_Lane)
  n_Lane : PySem.W.nsIn K mainGlobals "Lane" = some (some (.ref C_Lane))
  mk_Lane : Mk K C_Lane a_Lane_init
  pa_Lane_drift : Addr
  pp_Lane_drift : PropOf K C_Lane "drift" pa_Lane_drift a_Lane_drift
  cl_Lane : Cls K C_Lane
  pa_Lane_least : Addr
  pp_Lane_least : PropOf K C_Lane "least" pa_Lane_least a_Lane_least
  wa_Lane_repr : PySem.W.findIn K (.ref C_Lane) "__repr__" = some (some (.ref a_Lane_repr))
  wi_Lane_repr : PySem.W.isFn K (.ref a_Lane_repr) = true
  rs_Lane : PySem.W.findIn K (.ref C_Lane) "__str__" = some (some (.builtin "object.__str__"))
  ro_Lane : PySem.W.mroIn K C_Lane (.type "object") = some true
  co_Lane : StX.CallO K C_Lane a_Lane_call
  wa_Lane_eq : PySem.W.findIn K (.ref C_Lane) "__eq__" = some (some (.ref a_Lane_eq))
  wi_Lane_eq : PySem.W.isFn K (.ref a_Lane_eq) = true
  nfc_Lane : NFC K C_Lane
  ne_Lane : PySem.W.findIn K (.ref C_Lane) "__ne__" = some (some (.builtin "object.__ne__"))
  so_Lane : PySem.W.subIn K (.ref C_Lane) (.type "object") = some true
  wa_Lane_mul : PySem.W.findIn K (.ref C_Lane) "__mul__" = some (some (.ref a_Lane_mul))
  wi_Lane_mul : PySem.W.isFn K (.ref a_Lane_mul) = true
  sf_Lane : PySem.W.selfFirst K C_Lane = true
  na_Lane_shift : NoAttr K C_Lane "shift"
  na_Lane_low : NoAttr K C_Lane "low"
  ci_Lane : CIs K C_Lane
  kt_Lane_Lane : PySem.W.kitOne K (.ref C_Lane) (.ref C_Lane) = some true
  kc_Lane : KitC K C_Lane
  z_abs : mg "abs" = none
  z_str : mg "str" = none
  z_int : mg "int" = none
  z_len : mg "len" = none
  z_range : mg "range" = none
  z_max : mg "max" = none
  z_sum : mg "sum" = none
  z_repr : mg "repr" = none
  z_all : mg "all" = none
  z_isinstance : mg "isinstance" = none
section
variable {P : Program} {w : World} {K : PySem.W.Frag} {mg : Str → Option Value} {base : Heap}
theorem fn_figures (T : Txt K mg) : FnI P w K mg base 1 T.a_figures T.d_figures ["number"] m_figures := by
  refine fn_i (k := 0) (n := 3) (B := B_figures) rfl T.F_figures sc_figures fun cdv A outer s H E hr hgd => ?_
  exact ISs.cast (iss_cons (is_par (i := 1) (j := 2) rfl sc_figures.nd rfl rfl (by decide) rfl rfl (ie_callB ci_abs (by rfl) T.z_abs bt_abs (ia_cons (iv 0) ia_nil)) ie_str)
    (iss_cons (is_while big (passes_of rfl) (it_cmp oi_ge (iv 1) (ie_op oi_pow ie_int ie_int))
    (iss_cons (is_set (i := 2) sc_figures.nd rfl (.inl rfl) (ie_op oi_add (ie_slice si_sl (ie_callTy ci_str (by rfl) T.z_str bt_str (ia_cons (ie_op oi_add (ie_op oi_pow ie_int ie_int) (ie_op oi_mod (iv 1) (ie_op oi_pow ie_int ie_int))) ia_nil)) (io_some ie_int) io_none) (iv 2)))
    (iss_one (is_set (i := 1) sc_figures.nd rfl (.inl rfl) (ie_op oi_div (iv 1) (ie_op oi_pow ie_int ie_int))))))
    (iss_one (is_ret (ie_op oi_add (ie_op oi_add (ie_op oi_mul ie_str (ie_callTy ci_int (by rfl) T.z_int bt_int (ia_cons (ie_cmp oi_lt (iv 0) ie_int) ia_nil))) (ie_callTy ci_str (by rfl) T.z_str bt_str (ia_cons (iv 1) ia_nil))) (iv 2)))))) rfl
theorem fn_Lane_init (T : Txt K mg) : FnJ P w K mg base 1 T.a_Lane_init (starF 1 m_Lane_init) := by
  refine fn_istar (k := 0) (n := 6) (ps := ["self"]) (pv := "rows") (B := B_Lane_init) rfl rfl T.F_Lane_init sc_Lane_init StX.cxUp T.b_Lane_init fun cdv A outer s H E hr hgd => ?_
  exact ISs.cast (iss_cons (is_asg (vs := [2, 3]) (ie_tup (ia_cons ie_int (ia_cons ie_int ia_nil))) (ig_tup rfl (igs_cons (ig_name (vs := [2, 3]) (i := 2) sc_Lane_init.nd rfl (.inl rfl)) (igs_cons (ig_name (vs := [2, 3]) (i := 3) sc_Lane_init.nd rfl (.inl rfl)) igs_nil))))
    (iss_cons (is_for (vs := [4, 5]) (passes_of rfl) rfl (ii_seq (iv 1)) (ig_tup rfl (igs_cons (ig_name (vs := [4, 5]) (i := 4) sc_Lane_init.nd rfl (.inl rfl)) (igs_cons (ig_name (vs := [4, 5]) (i := 5) sc_Lane_init.nd rfl (.inl rfl)) igs_nil)))
    (iss_cons (is_set (i := 2) sc_Lane_init.nd rfl (.inl rfl) (ie_callB (ci_max rfl) (by rfl) T.z_max bt_max (ia_cons ie_int (ia_cons (ie_op oi_sub (ie_op oi_add (iv 2) (iv 4)) (iv 5)) ia_nil))))
    (iss_one (is_set (i := 3) sc_Lane_init.nd rfl (.inl rfl) (ie_op oi_sub (ie_op oi_add (iv 3) (iv 4)) (iv 5))))))
    (iss_one (is_asgH (ie_tup (ia_cons (iv 2) (ia_cons (iv 3) ia_nil))) (ih_tup rfl (ihs_cons (ih_fld (clsFC T.g_Lane T.cl_Lane T.na_Lane_low clsF0) (iv 0)) (ihs_cons (ih_fld (clsFC T.g_Lane T.cl_Lane T.na_Lane_shift clsF0) (iv 0)) ihs_nil))))))) rfl
theorem fn_Lane_least (T : Txt K mg) : FnI P w K mg base 1 T.a_Lane_least T.d_Lane_least ["self"] m_Lane_least := by
  refine fn_i (k := 0) (n := 1) (B := B_Lane_least) rfl T.F_Lane_least sc_Lane_least fun cdv A outer s H E hr hgd => ?_
  exact ISs.cast (iss_one (is_ret (ie_fld (clsFC T.g_Lane T.cl_Lane T.na_Lane_low clsF0) (iv 0)))) rfl
theorem fn_Lane_drift (T : Txt K mg) : FnI P w K mg base 1 T.a_Lane_drift T.d_Lane_drift ["self"] m_Lane_drift := by
  refine fn_i (k := 0) (n := 1) (B := B_Lane_drift) rfl T.F_Lane_drift sc_Lane_drift fun cdv A outer s H E hr hgd => ?_
  exact ISs.cast (iss_one (is_ret (ie_fld (clsFC T.g_Lane T.cl_Lane T.na_Lane_shift clsF0) (iv 0)))) rfl
theorem fn_Lane_call (T : Txt K mg) : FnI P w K mg base 1 T.a_Lane_call T.d_Lane_call ["self", "wait"] m_Lane_call := by
  refine fn_i (k := 0) (n := 2) (B := B_Lane_call) rfl T.F_Lane_call sc_Lane_call fun cdv A outer s H E hr hgd => ?_
  exact ISs.cast (iss_one (is_ret (ie_callB (ci_max rfl) (by rfl) T.z_max bt_max (ia_cons (ie_fld (clsFC T.g_Lane T.cl_Lane T.na_Lane_low clsF0) (iv 0)) (ia_cons (ie_op oi_add (iv 1) (ie_fld (clsFC T.g_Lane T.cl_Lane T.na_Lane_shift clsF0) (iv 0))) ia_nil))))) rfl
theorem fn_Lane_eq (T : Txt K mg) : FnI P w K mg base 1 T.a_Lane_eq T.d_Lane_eq ["self", "other"] m_Lane_eq := by
  refine fn_i (k := 0) (n := 2) (B := B_Lane_eq) rfl T.F_Lane_eq sc_Lane_eq fun cdv A outer s H E hr hgd => ?_
  exact ISs.cast (iss_one (is_ret (ie_and (ie_isiC (tabC T.g_Lane T.cl_Lane T.ci_Lane T.kt_Lane_Lane tab0) T.kc_Lane (by rfl) T.z_isinstance (by rfl) T.g_Lane (iv 1)) (ie_and (ie_cmp (oi_eq hr.units) (ie_fld (clsFC T.g_Lane T.cl_Lane T.na_Lane_low clsF0) (iv 0)) (ie_fld (clsFC T.g_Lane T.cl_Lane T.na_Lane_low clsF0) (iv 1))) (ie_one (ie_cmp (oi_eq hr.units) (ie_fld (clsFC T.g_Lane T.cl_Lane T.na_Lane_shift clsF0) (iv 0)) (ie_fld (clsFC T.g_Lane T.cl_Lane T.na_Lane_shift clsF0) (iv 1)))))))) rfl
theorem fn_l_bag (T : Txt K mg) : FnI P w K mg base 1 T.a_l_bag T.d_l_bag ["_law_script"] m_l_bag := by
  refine fn_i (k := 0) (n := 2) (B := B_l_bag) rfl T.F_l_bag sc_l_bag fun cdv A outer s H E hr hgd => ?_
  exact ISs.cast (iss_one (is_ret (ie_lstS (ia_cons ie_int (ia_cons ie_int (ia_cons ie_int (ia_cons (ie_lc lck_F rfl sc_l_bag.nd (ii_seq (ie_slice si_sl (iv 0) io_none (io_some ie_int))) (blkOk_by (N := ["_law_script", "_law_cell"]) (sc := (defScope st_l_bag)) (own := [("_law_cell", 1)]) (by decide +kernel)) (fun _ _ _ _ _ => (ig_name (vs := _) (i := 1) sc_l_bag.nd rfl (.inl rfl))) (fun _ _ _ _ _ => its_nil) (fun _ _ _ _ _ => (ie_callB ci_abs (by rfl) T.z_abs bt_abs (ia_cons (iv 1) ia_nil)))) ia_nil))))))) rfl
theorem fn_l_take (T : Txt K mg) : FnI P w K mg base 1 T.a_l_take T.d_l_take ["_law_bag_here", "_law_many"] m_l_take := by
  refine fn_i (k := 0) (n := 6) (B := B_l_take) rfl T.F_l_take sc_l_take fun cdv A outer s H E hr hgd => ?_
  exact ISs.cast (iss_cons (is_if (it_cmp (oi_eq hr.units) (ie_ix xi_ix (iv 0) ie_int) ie_int)
    (iss_cons (is_set (i := 4) sc_l_take.nd rfl (.inl rfl) ie_int)
    (iss_cons (is_if (it_cmp oi_lt (ie_ix xi_ix (iv 0) ie_int) (ie_callB ci_len (by rfl) T.z_len bt_len (ia_cons (ie_ix xi_ix (iv 0) ie_int) ia_nil)))
    (iss_one (is_set (i := 4) sc_l_take.nd rfl (.inl rfl) (ie_ix xi_ix (ie_ix xi_ix (iv 0) ie_int) (ie_ix xi_ix (iv 0) ie_int))))
    iss_nil)
    (iss_cons (is_augix (iv 0) ie_int pi_add ie_int)
    (iss_cons (is_if (it_cmp oi_ge (iv 4) ie_int)
    (iss_one (is_setix (iv 4) (iv 0) ie_int))
    iss_nil)
    (iss_one (is_setix (ie_op oi_mod (ie_op oi_add (ie_op oi_add (ie_op oi_mul (ie_ix xi_ix (iv 0) ie_int) ie_int) (ie_op oi_mod (iv 4) ie_int)) (ie_op oi_mul ie_int (ie_ix xi_ix (iv 0) ie_int))) ie_int) (iv 0) ie_int))))))
    iss_nil)
    (iss_cons (is_if (it_cmp oi_gt (ie_ix xi_ix (iv 0) ie_int) ie_int)
    (iss_cons (is_set (i := 5) sc_l_take.nd rfl (.inl rfl) (ie_op oi_mod (ie_ix xi_ix (iv 0) ie_int) (iv 1)))
    (iss_cons (is_setix (ie_op oi_div (ie_ix xi_ix (iv 0) ie_int) (iv 1)) (iv 0) ie_int)
    (iss_one (is_ret (iv 5)))))
    iss_nil)
    (iss_cons (is_set (i := 2) sc_l_take.nd rfl (.inl rfl) (ie_op oi_mod (ie_op oi_mul (ie_op oi_add (ie_ix xi_ix (iv 0) ie_int) ie_int) ie_int) ie_int))
    (iss_cons (is_set (i := 3) sc_l_take.nd rfl (.inl rfl) (ie_op oi_mod (ie_op oi_mul (ie_op oi_mod (ie_op oi_mul (iv 2) (iv 2)) ie_int) ie_int) ie_int))
    (iss_cons (is_if (it_cmp oi_gt (iv 1) ie_int)
    (iss_one (is_ret (ie_op oi_mod (ie_op oi_add (ie_op oi_mul (iv 3) ie_int) (iv 2)) (iv 1))))
    iss_nil)
    (iss_one (is_ret (ie_op oi_mod (ie_op oi_div (iv 3) ie_int) (iv 1))))))))) rfl
theorem fn_l_wait (T : Txt K mg) : FnI P w K mg base 1 T.a_l_wait T.d_l_wait ["_law_rows", "_law_wait_here"] m_l_wait := by
  refine fn_i (k := 0) (n := 4) (B := B_l_wait) rfl T.F_l_wait sc_l_wait fun cdv A outer s H E hr hgd => ?_
  exact ISs.cast (iss_cons (is_for (vs := [2, 3]) (passes_of rfl) rfl (ii_seq (iv 0)) (ig_tup rfl (igs_cons (ig_name (vs := [2, 3]) (i := 2) sc_l_wait.nd rfl (.inl rfl)) (igs_cons (ig_name (vs := [2, 3]) (i := 3) sc_l_wait.nd rfl (.inl rfl)) igs_nil)))
    (iss_one (is_set (i := 1) sc_l_wait.nd rfl (.inl rfl) (ie_callB (ci_max rfl) (by rfl) T.z_max bt_max (ia_cons ie_int (ia_cons (ie_op oi_sub (ie_op oi_add (iv 1) (iv 2)) (iv 3)) ia_nil))))))
    (iss_one (is_ret (iv 1)))) rfl
theorem fn_Lane_repr (T : Txt K mg) : FnI P w K mg base 2 T.a_Lane_repr T.d_Lane_repr ["self"] m_Lane_repr := by
  refine fn_i (k := 1) (n := 1) (B := B_Lane_repr) rfl T.F_Lane_repr sc_Lane_repr fun cdv A outer s H E hr hgd => ?_
  exact ISs.cast (iss_one (is_ret (ie_joined (.cons ie_str (.cons (ie_fmt (ie_callN (n := 1) (fn_figures T) (hr.mono (by decide)) hgd (takes_of rfl rfl rfl rfl) (by rfl) T.g_figures T.F_figures.kp T.b_figures (ia_cons (ie_fld (clsFC T.g_Lane T.cl_Lane T.na_Lane_low clsF0) (iv 0)) ia_nil))) (.cons ie_str (.cons (ie_fmt (ie_callN (n := 1) (fn_figures T) (hr.mono (by decide)) hgd (takes_of rfl rfl rfl rfl) (by rfl) T.g_figures T.F_figures.kp T.b_figures (ia_cons (ie_fld (clsFC T.g_Lane T.cl_Lane T.na_Lane_shift clsF0) (iv 0)) ia_nil))) (.cons ie_str .nil)))))))) rfl
theorem fn_l_number (T : Txt K mg) : FnI P w K mg base 2 T.a_l_number T.d_l_number ["_law_bag_here"] m_l_number := by
  refine fn_i (k := 1) (n := 2) (B := B_l_number) rfl T.F_l_number sc_l_number fun cdv A outer s H E hr hgd => ?_
  exact ISs.cast (iss_cons (is_set (i := 1) sc_l_number.nd rfl (.inl rfl) (ie_callN (n := 2) (fn_l_take T) (hr.mono (by decide)) hgd (takes_of rfl rfl rfl rfl) (by rfl) T.g_l_take T.F_l_take.kp T.b_l_take (ia_cons (iv 0) (ia_cons ie_int ia_nil))))
    (iss_one (is_ret (ie_ix xi_ix (ie_lst (ia_cons (ie_callN (n := 2) (fn_l_take T) (hr.mono (by decide)) hgd (takes_of rfl rfl rfl rfl) (by rfl) T.g_l_take T.F_l_take.kp T.b_l_take (ia_cons (iv 0) (ia_cons ie_int ia_nil))) (ia_cons (ie_callN (n := 2) (fn_l_take T) (hr.mono (by decide)) hgd (takes_of rfl rfl rfl rfl) (by rfl) T.g_l_take T.F_l_take.kp T.b_l_take (ia_cons (iv 0) (ia_cons ie_int ia_nil))) (ia_cons (ie_callN (n := 2) (fn_l_take T) (hr.mono (by decide)) hgd (takes_of rfl rfl rfl rfl) (by rfl) T.g_l_take T.F_l_take.kp T.b_l_take (ia_cons (iv 0) (ia_cons ie_int ia_nil))) (ia_cons ie_int (ia_cons (ie_callN (n := 2) (fn_l_take T) (hr.mono (by decide)) hgd (takes_of rfl rfl rfl rfl) (by rfl) T.g_l_take T.F_l_take.kp T.b_l_take (ia_cons (iv 0) (ia_cons (ie_op oi_add (ie_op oi_pow ie_int ie_int) ie_int) ia_nil))) (ia_cons (ie_op oi_pow ie_int ie_int) ia_nil))))))) (iv 1))))) rfl
theorem fn_lane_of (T : Txt K mg) : FnI P w K mg base 3 T.a_lane_of T.d_lane_of ["least", "drift"] m_lane_of := by
  refine fn_i (k := 2) (n := 2) (B := B_lane_of) rfl T.F_lane_of sc_lane_of fun cdv A outer s H E hr hgd => ?_
  exact ISs.cast (iss_one (is_ret (ie_fz (ie_make T.mk_Lane (fn_Lane_init T) (hr.mono (by decide)) hgd (takes_of rfl rfl rfl rfl) (by rfl) T.g_Lane T.n_Lane (ia_cons (ie_tup (ia_cons ie_int (ia_cons (ie_op oi_sub (iv 0) (iv 1)) ia_nil))) (ia_cons (ie_tup (ia_cons (iv 0) (ia_cons ie_int ia_nil))) ia_nil)))))) rfl
theorem fn_l_served (T : Txt K mg) : FnI P w K mg base 3 T.a_l_served T.d_l_served ["_law_bag_here", "_law_top"] m_l_served := by
  refine FnI.fz (fn_i (k := 2) (n := 6) (B := B_l_served) rfl T.F_l_served sc_l_served fun cdv A outer s H E hr hgd => ?_)
  exact ISs.cast (iss_cons (is_set (i := 2) sc_l_served.nd rfl (.inl rfl) (ie_lstS ia_nil))
    (iss_cons (is_for (vs := [3]) (passes_of rfl) rfl (ii_range1 (by rfl) T.z_range (ie_callN (n := 2) (fn_l_take T) (hr.mono (by decide)) hgd (takes_of rfl rfl rfl rfl) (by rfl) T.g_l_take T.F_l_take.kp T.b_l_take (ia_cons (iv 0) (ia_cons (ie_op oi_add (iv 1) ie_int) ia_nil)))) (ig_name (vs := [3]) (i := 3) sc_l_served.nd rfl (.inl rfl))
    (iss_cons (is_par (i := 4) (j := 5) rfl sc_l_served.nd rfl rfl (by decide) rfl rfl (ie_callN (n := 1) (fn_l_number T) (hr.mono (by decide)) hgd (takes_of rfl rfl rfl rfl) (by rfl) T.g_l_number T.F_l_number.kp T.b_l_number (ia_cons (iv 0) ia_nil)) (ie_callN (n := 1) (fn_l_number T) (hr.mono (by decide)) hgd (takes_of rfl rfl rfl rfl) (by rfl) T.g_l_number T.F_l_number.kp T.b_l_number (ia_cons (iv 0) ia_nil)))
    (iss_one (is_expr (ie_bm PySem.F.plainAttrs_list PySem.F.slot_list_append PySem.F.type_list_append mi_append (iv 2) (ia_cons (ie_ix xi_ix (ie_lst (ia_cons (ie_tup (ia_cons (iv 4) (ia_cons (iv 5) ia_nil))) (ia_cons (ie_tup (ia_cons (iv 4) (ia_cons (iv 4) ia_nil))) (ia_cons (ie_tup (ia_cons (iv 5) (ia_cons (iv 4) ia_nil))) ia_nil)))) (ie_callN (n := 2) (fn_l_take T) (hr.mono (by decide)) hgd (takes_of rfl rfl rfl rfl) (by rfl) T.g_l_take T.F_l_take.kp T.b_l_take (ia_cons (iv 0) (ia_cons ie_int ia_nil)))) ia_nil))))))
    (iss_one (is_ret (iv 2))))) rfl
theorem fn_Lane_mul (T : Txt K mg) : FnI P w K mg base 4 T.a_Lane_mul T.d_Lane_mul ["self", "other"] m_Lane_mul := by
  refine fn_i (k := 3) (n := 2) (B := B_Lane_mul) rfl T.F_Lane_mul sc_Lane_mul fun cdv A outer s H E hr hgd => ?_
  exact ISs.cast (iss_one (is_ret (ie_callN (n := 2) (fn_lane_of T) (hr.mono (by decide)) hgd (takes_of rfl rfl rfl rfl) (by rfl) T.g_lane_of T.F_lane_of.kp T.b_lane_of (ia_cons (ie_callB (ci_max rfl) (by rfl) T.z_max bt_max (ia_cons (ie_fld (clsFC T.g_Lane T.cl_Lane T.na_Lane_low clsF0) (iv 1)) (ia_cons (ie_op oi_add (ie_fld (clsFC T.g_Lane T.cl_Lane T.na_Lane_low clsF0) (iv 0)) (ie_fld (clsFC T.g_Lane T.cl_Lane T.na_Lane_shift clsF0) (iv 1))) ia_nil))) (ia_cons (ie_op oi_add (ie_fld (clsFC T.g_Lane T.cl_Lane T.na_Lane_shift clsF0) (iv 0)) (ie_fld (clsFC T.g_Lane T.cl_Lane T.na_Lane_shift clsF0) (iv 1))) ia_nil))))) rfl
theorem fn_l_lane (T : Txt K mg) : FnI P w K mg base 5 T.a_l_lane T.d_l_lane ["_law_rows"] m_l_lane := by
  refine fn_i (k := 4) (n := 3) (B := B_l_lane) rfl T.F_l_lane sc_l_lane fun cdv A outer s H E hr hgd => ?_
  exact ISs.cast (iss_cons (is_if (it_cmp (oi_eq hr.units) (ie_callB ci_len (by rfl) T.z_len bt_len (ia_cons (iv 0) ia_nil)) ie_int)
    (iss_one (is_ret (ie_fz (ie_make0 T.mk_Lane (fn_Lane_init T) (hr.mono (by decide)) hgd (takes_of rfl rfl rfl rfl) (by rfl) T.g_Lane T.n_Lane))))
    iss_nil)
    (iss_cons (is_set (i := 1) sc_l_lane.nd rfl (.inl rfl) (ie_fz (ie_make T.mk_Lane (fn_Lane_init T) (hr.mono (by decide)) hgd (takes_of rfl rfl rfl rfl) (by rfl) T.g_Lane T.n_Lane (ia_cons (ie_ix xi_ix (iv 0) ie_int) ia_nil))))
    (iss_cons (is_for (vs := [2]) (passes_of rfl) rfl (ii_seq (ie_slice si_sl (iv 0) (io_some ie_int) io_none)) (ig_name (vs := [2]) (i := 2) sc_l_lane.nd rfl (.inl rfl))
    (iss_one (is_set (i := 1) sc_l_lane.nd rfl (.inl rfl) (ie_op (oi_own oi_mul T.g_Lane T.sf_Lane T.wa_Lane_mul T.wi_Lane_mul ((fn_Lane_mul T).j T.b_Lane_mul) (hr.mono (by decide)) hgd) (iv 1) (ie_fz (ie_make T.mk_Lane (fn_Lane_init T) (hr.mono (by decide)) hgd (takes_of rfl rfl rfl rfl) (by rfl) T.g_Lane T.n_Lane (ia_cons (iv 2) ia_nil)))))))
    (iss_one (is_ret (iv 1)))))) rfl
theorem fn_l_lane_right (T : Txt K mg) : FnI P w K mg base 6 T.a_l_lane_right T.d_l_lane_right ["_law_bag_here", "_law_lane_here", "_law_rows"] m_l_lane_right := by
  refine fn_i (k := 5) (n := 8) (B := B_l_lane_right) rfl T.F_l_lane_right sc_l_lane_right fun cdv A outer s H E hr hgd => ?_
  exact ISs.cast (iss_cons (is_set (i := 3) sc_l_lane_right.nd rfl (.inl rfl) (ie_callB (ci_sum rfl) (by rfl) T.z_sum bt_sum (ia_cons (ie_lc lck_F rfl sc_l_lane_right.nd (ii_seq (iv 2)) (blkOk_by (N := ["_law_bag_here", "_law_lane_here", "_law_rows", "_law_shift", "_law_great", "_law_wait_here", "_law_service", "_law_gap"]) (sc := (defScope st_l_lane_right)) (own := [("_law_service", 6), ("_law_gap", 7)]) (by decide +kernel)) (fun _ _ _ _ _ => (ig_tup rfl (igs_cons (ig_name (vs := _) (i := 6) sc_l_lane_right.nd rfl (.inl rfl)) (igs_cons (ig_name (vs := _) (i := 7) sc_l_lane_right.nd rfl (.inl rfl)) igs_nil)))) (fun _ _ _ _ _ => its_nil) (fun _ _ _ _ _ => (ie_op oi_sub (iv 6) (iv 7)))) ia_nil)))
    (iss_cons (is_if (it_cmp (oi_ne hr.units) (ie_callB (ci_repr hgd hr.units) (by rfl) T.z_repr bt_repr (ia_cons (ie_lst (ia_cons (ie_prop (k := 1) (propC T.g_Lane T.cl_Lane T.pp_Lane_least ((fn_Lane_least T).j T.b_Lane_least) (by decide) prop0) (hr.mono (by decide)) hgd (iv 1)) (ia_cons (ie_prop (k := 1) (propC T.g_Lane T.cl_Lane T.pp_Lane_drift ((fn_Lane_drift T).j T.b_Lane_drift) (by decide) prop0) (hr.mono (by decide)) hgd (iv 1)) ia_nil))) ia_nil)) (ie_callB (ci_repr hgd hr.units) (by rfl) T.z_repr bt_repr (ia_cons (ie_lst (ia_cons (ie_callN (n := 2) (fn_l_wait T) (hr.mono (by decide)) hgd (takes_of rfl rfl rfl rfl) (by rfl) T.g_l_wait T.F_l_wait.kp T.b_l_wait (ia_cons (iv 2) (ia_cons ie_int ia_nil))) (ia_cons (iv 3) ia_nil))) ia_nil)))
    (iss_one (is_ret ie_bl))
    iss_nil)
    (iss_cons (is_if (IW.it (iw_or (it_cmp (oi_ne hr.units) (ie_callB (ci_reprO (ci_repr hgd hr.units) T.g_Lane T.wa_Lane_repr T.wi_Lane_repr ((fn_Lane_repr T).j T.b_Lane_repr) (hr.mono (by decide)) hgd) (by rfl) T.z_repr bt_repr (ia_cons (iv 1) ia_nil)) (ie_op oi_add (ie_op oi_add (ie_op oi_add (ie_op oi_add ie_str (ie_callTy (ci_strO ci_str T.g_Lane T.rs_Lane T.ro_Lane T.wa_Lane_repr T.wi_Lane_repr ((fn_Lane_repr T).j T.b_Lane_repr) (hr.mono (by decide)) hgd) (by rfl) T.z_str bt_str (ia_cons (ie_callN (n := 2) (fn_l_wait T) (hr.mono (by decide)) hgd (takes_of rfl rfl rfl rfl) (by rfl) T.g_l_wait T.F_l_wait.kp T.b_l_wait (ia_cons (iv 2) (ia_cons ie_int ia_nil))) ia_nil))) ie_str) (ie_callTy (ci_strO ci_str T.g_Lane T.rs_Lane T.ro_Lane T.wa_Lane_repr T.wi_Lane_repr ((fn_Lane_repr T).j T.b_Lane_repr) (hr.mono (by decide)) hgd) (by rfl) T.z_str bt_str (ia_cons (iv 3) ia_nil))) ie_str)) (iw_or1 (it_cmp (oi_ne hr.units) (ie_callTy (ci_strO ci_str T.g_Lane T.rs_Lane T.ro_Lane T.wa_Lane_repr T.wi_Lane_repr ((fn_Lane_repr T).j T.b_Lane_repr) (hr.mono (by decide)) hgd) (by rfl) T.z_str bt_str (ia_cons (iv 1) ia_nil)) (ie_callB (ci_reprO (ci_repr hgd hr.units) T.g_Lane T.wa_Lane_repr T.wi_Lane_repr ((fn_Lane_repr T).j T.b_Lane_repr) (hr.mono (by decide)) hgd) (by rfl) T.z_repr bt_repr (ia_cons (iv 1) ia_nil))))))
    (iss_one (is_ret ie_bl))
    iss_nil)
    (iss_cons (is_set (i := 4) sc_l_lane_right.nd rfl (.inl rfl) (ie_ix xi_ix (ie_lst (ia_cons (ie_callN (n := 2) (fn_l_take T) (hr.mono (by decide)) hgd (takes_of rfl rfl rfl rfl) (by rfl) T.g_l_take T.F_l_take.kp T.b_l_take (ia_cons (iv 0) (ia_cons (ie_op oi_pow ie_int ie_int) ia_nil))) (ia_cons (ie_op oi_sub (ie_op oi_pow ie_int ie_int) ie_int) ia_nil))) (ie_callN (n := 2) (fn_l_take T) (hr.mono (by decide)) hgd (takes_of rfl rfl rfl rfl) (by rfl) T.g_l_take T.F_l_take.kp T.b_l_take (ia_cons (iv 0) (ia_cons ie_int ia_nil)))))
    (iss_cons (is_for (vs := [5]) (passes_of rfl) rfl (ii_seq (ie_lst (ia_cons ie_int (ia_cons ie_int (ia_cons (ie_callN (n := 2) (fn_l_take T) (hr.mono (by decide)) hgd (takes_of rfl rfl rfl rfl) (by rfl) T.g_l_take T.F_l_take.kp T.b_l_take (ia_cons (iv 0) (ia_cons ie_int ia_nil))) (ia_cons (iv 4) (ia_cons (ie_callN (n := 1) (fn_l_number T) (hr.mono (by decide)) hgd (takes_of rfl rfl rfl rfl) (by rfl) T.g_l_number T.F_l_number.kp T.b_l_number (ia_cons (iv 0) ia_nil)) ia_nil))))))) (ig_name (vs := [5]) (i := 5) sc_l_lane_right.nd rfl (.inl rfl))
    (iss_one (is_if (it_cmp (oi_ne hr.units) (ie_callB (ci_repr hgd hr.units) (by rfl) T.z_repr bt_repr (ia_cons (ie_lst (ia_cons (ie_callO T.g_Lane T.co_Lane ((fn_Lane_call T).j T.b_Lane_call) (hr.mono (by decide)) hgd (takes_of rfl rfl rfl rfl) (iv 1) (ia_cons (iv 5) ia_nil)) (ia_cons (ie_callO T.g_Lane T.co_Lane ((fn_Lane_call T).j T.b_Lane_call) (hr.mono (by decide)) hgd (takes_of rfl rfl rfl rfl) (iv 1) (ia_cons (iv 5) ia_nil)) ia_nil))) ia_nil)) (ie_callB (ci_repr hgd hr.units) (by rfl) T.z_repr bt_repr (ia_cons (ie_op oi_mul (ie_lst (ia_cons (ie_callN (n := 2) (fn_l_wait T) (hr.mono (by decide)) hgd (takes_of rfl rfl rfl rfl) (by rfl) T.g_l_wait T.F_l_wait.kp T.b_l_wait (ia_cons (iv 2) (ia_cons (iv 5) ia_nil))) ia_nil)) ie_int) ia_nil)))
    (iss_one (is_ret ie_bl))
    iss_nil)))
    (iss_one (is_ret (ie_and (ie_cmp (oi_neE (oi_ne hr.units) T.g_Lane T.nfc_Lane T.wa_Lane_eq T.wi_Lane_eq T.ne_Lane T.so_Lane ((fn_Lane_eq T).j T.b_Lane_eq) (hr.mono (by decide)) hgd) (iv 1) (ie_tup (ia_cons (ie_prop (k := 1) (propC T.g_Lane T.cl_Lane T.pp_Lane_least ((fn_Lane_least T).j T.b_Lane_least) (by decide) prop0) (hr.mono (by decide)) hgd (iv 1)) (ia_cons (ie_prop (k := 1) (propC T.g_Lane T.cl_Lane T.pp_Lane_drift ((fn_Lane_drift T).j T.b_Lane_drift) (by decide) prop0) (hr.mono (by decide)) hgd (iv 1)) ia_nil)))) (ie_one (ie_cmp (oi_neE (oi_ne hr.units) T.g_Lane T.nfc_Lane T.wa_Lane_eq T.wi_Lane_eq T.ne_Lane T.so_Lane ((fn_Lane_eq T).j T.b_Lane_eq) (hr.mono (by decide)) hgd) (iv 1) (ie_lst ia_nil))))))))))) rfl
theorem fn_law (T : Txt K mg) : FnI P w K mg base 7 T.a_law T.d_law ["_law_script"] m_law := by
  refine fn_i (k := 6) (n := 13) (B := B_law) rfl T.F_law sc_law fun cdv A outer s H E hr hgd => ?_
  exact ISs.cast (iss_cons (is_set (i := 1) sc_law.nd rfl (.inr rfl) (ie_callN (n := 1) (fn_l_bag T) (hr.mono (by decide)) hgd (takes_of rfl rfl rfl rfl) (by rfl) T.g_l_bag T.F_l_bag.kp T.b_l_bag (ia_cons (iv 0) ia_nil)))
    (iss_cons (is_set (i := 2) sc_law.nd rfl (.inr rfl) (ie_lstS (ia_cons (ie_callN (n := 2) (fn_l_served T) (hr.mono (by decide)) hgd (takes_of rfl rfl rfl rfl) (by rfl) T.g_l_served T.F_l_served.kp T.b_l_served (ia_cons (iv 1) (ia_cons ie_int ia_nil))) (ia_cons (ie_callN (n := 2) (fn_l_served T) (hr.mono (by decide)) hgd (takes_of rfl rfl rfl rfl) (by rfl) T.g_l_served T.F_l_served.kp T.b_l_served (ia_cons (iv 1) (ia_cons ie_int ia_nil))) ia_nil))))
    (iss_cons (is_if (IW.it (iw_and (it_cmp (oi_ne hr.units) (ie_ix xi_ix (iv 2) ie_int) (ie_lst ia_nil)) (iw_and1 (it_cmp (oi_eq hr.units) (ie_callN (n := 2) (fn_l_take T) (hr.mono (by decide)) hgd (takes_of rfl rfl rfl rfl) (by rfl) T.g_l_take T.F_l_take.kp T.b_l_take (ia_cons (iv 1) (ia_cons ie_int ia_nil))) ie_int))))
    (iss_one (is_setix (ie_slice si_sl (ie_op oi_mul (ie_ix xi_ix (iv 2) ie_int) ie_int) io_none (io_some ie_int)) (iv 2) ie_int))
    iss_nil)
    (iss_cons (is_set (i := 3) sc_law.nd rfl (.inr rfl) (ie_lc lck_F rfl sc_law.nd (ii_seq (iv 2)) (blkOk_by (N := ["_law_script", "_law_bag_here", "_law_some", "_law_lanes", "_law_pairs", "_law_three", "_law_more", "_law_lane_here", "_law_a", "_law_b", "_law_c", "_law_rows", "_law_at"]) (sc := (defScope st_law)) (own := [("_law_rows", 11)]) (by decide +kernel)) (fun _ _ _ _ _ => (ig_name (vs := _) (i := 11) sc_law.nd rfl (.inl rfl))) (fun _ _ _ _ _ => its_nil) (fun _ _ _ _ _ => (ie_callN (n := 1) (fn_l_lane T) (hr.mono (by decide)) hgd takes0 (by rfl) T.g_l_lane T.F_l_lane.kp T.b_l_lane (ia_cons (iv 11) ia_nil)))))
    (iss_cons (is_if (it_not (it_val (ie_callB (ci_all rfl) (by rfl) T.z_all bt_all (ia_cons (ie_lc lck_F rfl sc_law.nd (ii_range1 (by rfl) T.z_range ie_int) (blkOk_by (N := ["_law_script", "_law_bag_here", "_law_some", "_law_lanes", "_law_pairs", "_law_three", "_law_more", "_law_lane_here", "_law_a", "_law_b", "_law_c", "_law_rows", "_law_at"]) (sc := (defScope st_law)) (own := [("_law_at", 12)]) (by decide +kernel)) (fun _ _ _ _ _ => (ig_name (vs := _) (i := 12) sc_law.nd rfl (.inl rfl))) (fun _ _ _ _ _ => its_nil) (fun _ _ _ _ _ => (ie_callN (n := 3) (fn_l_lane_right T) (hr.mono (by decide)) hgd takes0 (by rfl) T.g_l_lane_right T.F_l_lane_right.kp T.b_l_lane_right (ia_cons (iv 1) (ia_cons (ie_ix xi_ix (iv 3) (iv 12)) (ia_cons (ie_ix xi_ix (iv 2) (iv 12)) ia_nil)))))) ia_nil))))
    (iss_one (is_ret ie_bl))
    iss_nil)
    (iss_cons (is_if (it_not (it_val (ie_callN (n := 3) (fn_l_lane_right T) (hr.mono (by decide)) hgd (takes_of rfl rfl rfl rfl) (by rfl) T.g_l_lane_right T.F_l_lane_right.kp T.b_l_lane_right (ia_cons (iv 1) (ia_cons (ie_op (oi_own oi_mul T.g_Lane T.sf_Lane T.wa_Lane_mul T.wi_Lane_mul ((fn_Lane_mul T).j T.b_Lane_mul) (hr.mono (by decide)) hgd) (ie_ix xi_ix (iv 3) ie_int) (ie_ix xi_ix (iv 3) ie_int)) (ia_cons (ie_op oi_add (ie_ix xi_ix (iv 2) ie_int) (ie_ix xi_ix (iv 2) ie_int)) ia_nil))))))
    (iss_one (is_ret ie_bl))
    iss_nil)
    (iss_cons (is_if (IW.it (iw_or (it_cmp (oi_neE (oi_ne hr.units) T.g_Lane T.nfc_Lane T.wa_Lane_eq T.wi_Lane_eq T.ne_Lane T.so_Lane ((fn_Lane_eq T).j T.b_Lane_eq) (hr.mono (by decide)) hgd) (ie_op (oi_own oi_mul T.g_Lane T.sf_Lane T.wa_Lane_mul T.wi_Lane_mul ((fn_Lane_mul T).j T.b_Lane_mul) (hr.mono (by decide)) hgd) (ie_ix xi_ix (iv 3) ie_int) (ie_fz (ie_make0 T.mk_Lane (fn_Lane_init T) (hr.mono (by decide)) hgd (takes_of rfl rfl rfl rfl) (by rfl) T.g_Lane T.n_Lane))) (ie_ix xi_ix (iv 3) ie_int)) (iw_or1 (it_cmp (oi_neE (oi_ne hr.units) T.g_Lane T.nfc_Lane T.wa_Lane_eq T.wi_Lane_eq T.ne_Lane T.so_Lane ((fn_Lane_eq T).j T.b_Lane_eq) (hr.mono (by decide)) hgd) (ie_op (oi_own oi_mul T.g_Lane T.sf_Lane T.wa_Lane_mul T.wi_Lane_mul ((fn_Lane_mul T).j T.b_Lane_mul) (hr.mono (by decide)) hgd) (ie_fz (ie_make0 T.mk_Lane (fn_Lane_init T) (hr.mono (by decide)) hgd (takes_of rfl rfl rfl rfl) (by rfl) T.g_Lane T.n_Lane)) (ie_ix xi_ix (iv 3) ie_int)) (ie_ix xi_ix (iv 3) ie_int)))))
    (iss_one (is_ret ie_bl))
    iss_nil)
    (iss_cons (is_setLc (i := 4) lck_F rfl sc_law.nd rfl rfl (sw_true rfl rfl rfl (by decide +kernel)) (ii_seq (iv 3)) (blkOk_by (N := ["_law_script", "_law_bag_here", "_law_some", "_law_lanes", "_law_pairs", "_law_three", "_law_more", "_law_lane_here", "_law_a", "_law_b", "_law_c", "_law_rows", "_law_at"]) (sc := (defScope st_law)) (own := [("_law_lane_here", 7)]) (by decide +kernel)) (fun _ _ _ _ _ => (ig_name (vs := _) (i := 7) sc_law.nd rfl (.inl rfl))) (fun _ _ _ _ _ => its_nil) (fun _ _ _ _ _ => (ie_tup (ia_cons (ie_prop (k := 1) (propC T.g_Lane T.cl_Lane T.pp_Lane_least ((fn_Lane_least T).j T.b_Lane_least) (by decide) prop0) (hr.mono (by decide)) hgd (iv 7)) (ia_cons (ie_prop (k := 1) (propC T.g_Lane T.cl_Lane T.pp_Lane_drift ((fn_Lane_drift T).j T.b_Lane_drift) (by decide) prop0) (hr.mono (by decide)) hgd (iv 7)) ia_nil)))))
    (iss_cons (is_if (IW.it (iw_or (it_cmp (oi_neE (oi_ne hr.units) T.g_Lane T.nfc_Lane T.wa_Lane_eq T.wi_Lane_eq T.ne_Lane T.so_Lane ((fn_Lane_eq T).j T.b_Lane_eq) (hr.mono (by decide)) hgd) (ie_cmp (oi_eqE (oi_eq hr.units) T.g_Lane T.nfc_Lane T.wa_Lane_eq T.wi_Lane_eq ((fn_Lane_eq T).j T.b_Lane_eq) (hr.mono (by decide)) hgd) (ie_ix xi_ix (iv 3) ie_int) (ie_ix xi_ix (iv 3) ie_int)) (ie_cmp (oi_eqE (oi_eq hr.units) T.g_Lane T.nfc_Lane T.wa_Lane_eq T.wi_Lane_eq ((fn_Lane_eq T).j T.b_Lane_eq) (hr.mono (by decide)) hgd) (ie_ix xi_ix (iv 4) ie_int) (ie_ix xi_ix (iv 4) ie_int))) (iw_or1 (it_not (it_cmp (oi_eqE (oi_eq hr.units) T.g_Lane T.nfc_Lane T.wa_Lane_eq T.wi_Lane_eq ((fn_Lane_eq T).j T.b_Lane_eq) (hr.mono (by decide)) hgd) (ie_ix xi_ix (iv 3) ie_int) (ie_callN (n := 1) (fn_l_lane T) (hr.mono (by decide)) hgd (takes_of rfl rfl rfl rfl) (by rfl) T.g_l_lane T.F_l_lane.kp T.b_l_lane (ia_cons (ie_ix xi_ix (iv 2) ie_int) ia_nil)))))))
    (iss_one (is_ret ie_bl))
    iss_nil)
    (iss_cons (is_set (i := 5) sc_law.nd rfl (.inl rfl) (ie_op oi_add (ie_slice si_sl (ie_ix xi_ix (iv 2) ie_int) io_none (io_some ie_int)) (ie_lst (ia_cons (ie_tup (ia_cons ie_int (ia_cons ie_int ia_nil))) (ia_cons (ie_tup (ia_cons ie_int (ia_cons ie_int ia_nil))) (ia_cons (ie_tup (ia_cons ie_int (ia_cons ie_int ia_nil))) ia_nil))))))
    (iss_cons (is_if (it_not (it_val (ie_callN (n := 3) (fn_l_lane_right T) (hr.mono (by decide)) hgd (takes_of rfl rfl rfl rfl) (by rfl) T.g_l_lane_right T.F_l_lane_right.kp T.b_l_lane_right (ia_cons (iv 1) (ia_cons (ie_fz (ie_make T.mk_Lane (fn_Lane_init T) (hr.mono (by decide)) hgd (takes_of rfl rfl rfl rfl) (by rfl) T.g_Lane T.n_Lane (ia_cons (ie_ix xi_ix (iv 5) ie_int) (ia_cons (ie_ix xi_ix (iv 5) ie_int) (ia_cons (ie_ix xi_ix (iv 5) ie_int) ia_nil))))) (ia_cons (ie_slice si_sl (iv 5) io_none (io_some ie_int)) ia_nil))))))
    (iss_one (is_ret ie_bl))
    iss_nil)
    (iss_cons (is_asg (vs := [8, 9, 10]) (ie_slice si_sl (iv 5) io_none (io_some ie_int)) (ig_lst rfl (igs_cons (ig_name (vs := [8, 9, 10]) (i := 8) sc_law.nd rfl (.inl rfl)) (igs_cons (ig_name (vs := [8, 9, 10]) (i := 9) sc_law.nd rfl (.inl rfl)) (igs_cons (ig_name (vs := [8, 9, 10]) (i := 10) sc_law.nd rfl (.inl rfl)) igs_nil)))))
    (iss_cons (is_set (i := 6) sc_law.nd rfl (.inl rfl) (ie_lst (ia_cons (iv 8) (ia_cons (iv 9) (ia_cons (iv 10) (ia_cons (ie_tup (ia_cons ie_int (ia_cons ie_int ia_nil))) (ia_cons (ie_tup (ia_cons ie_int (ia_cons ie_int ia_nil))) (ia_cons (ie_tup (ia_cons ie_int (ia_cons ie_int ia_nil))) (ia_cons (ie_tup (ia_cons ie_int (ia_cons ie_int ia_nil))) (ia_cons (iv 8) (ia_cons (iv 9) (ia_cons (iv 10) (ia_cons (ie_tup (ia_cons ie_int (ia_cons ie_int ia_nil))) (ia_cons (ie_tup (ia_cons (ie_op oi_pow ie_int ie_int) (ia_cons (ie_op oi_pow ie_int ie_int) ia_nil))) ia_nil))))))))))))))
    (iss_cons (is_set (i := 7) sc_law.nd rfl (.inl rfl) (ie_fz (ie_make T.mk_Lane (fn_Lane_init T) (hr.mono (by decide)) hgd (takes_of rfl rfl rfl rfl) (by rfl) T.g_Lane T.n_Lane (ia_cons (iv 8) (ia_cons (iv 9) (ia_cons (iv 10) (ia_cons (ie_tup (ia_cons ie_int (ia_cons ie_int ia_nil))) (ia_cons (ie_tup (ia_cons ie_int (ia_cons ie_int ia_nil))) (ia_cons (ie_tup (ia_cons ie_int (ia_cons ie_int ia_nil))) (ia_cons (ie_tup (ia_cons ie_int (ia_cons ie_int ia_nil))) (ia_cons (iv 8) (ia_cons (iv 9) (ia_cons (iv 10) (ia_cons (ie_tup (ia_cons ie_int (ia_cons ie_int ia_nil))) (ia_cons (ie_tup (ia_cons (ie_op oi_pow ie_int ie_int) (ia_cons (ie_op oi_pow ie_int ie_int) ia_nil))) ia_nil)))))))))))))))
    (iss_one (is_ret (ie_callN (n := 3) (fn_l_lane_right T) (hr.mono (by decide)) hgd (takes_of rfl rfl rfl rfl) (by rfl) T.g_l_lane_right T.F_l_lane_right.kp T.b_l_lane_right (ia_cons (iv 1) (ia_cons (iv 7) (ia_cons (iv 6) ia_nil)))))))))))))))))))) rfl
end
/-! from what the head tells -/
def txt_mk {K : PySem.W.Frag} {h : Heap} {mg : Str → Option Value} (X : K.In h) (G : h.Ns mainGlobals mg)
    {C0 : Addr} (aC0 : PySem.W.nsIn K mainGlobals "Lane" = some (some (.ref C0)))
    {od0 an0 : Option Addr} {sl0 : Array (Option Value)} {oc0 kV0 dc0 pm0 cd0 ct0 : Value} {f0 : Addr} 
    (a0 : PySem.W.nsIn K mainGlobals "figures" = some (some (.ref f0))) (l0 : K.lookup f0 = some ⟨oc0, od0, .func (PySem.W.fnOf "figures" "figures" (defArgs st_figures) (defBody st_figures) (defScope st_figures) .none kV0 dc0 pm0 an0 cd0 ct0), sl0⟩) (c0 : PySem.W.codeIn K cd0 "figures" = true) (k0 : PySem.W.keepIn K (.ref f0) = true)
    {od1 an1 : Option Addr} {sl1 : Array (Option Value)} {oc1 kV1 dc1 pm1 cd1 ct1 : Value} {f1 : Addr} 
    (a1 : PySem.W.findIn K (.ref C0) "__init__" = some (some (.ref f1))) (i1 : PySem.W.isFn K (.ref f1) = true) (l1 : K.lookup f1 = some ⟨oc1, od1, .func (PySem.W.fnOf "__init__" "Lane.__init__" (defArgs st_Lane_init) (defBody st_Lane_init) (defScope st_Lane_init) .none kV1 dc1 pm1 an1 cd1 ct1), sl1⟩) (c1 : PySem.W.codeIn K cd1 "Lane.__init__" = true) (k1 : PySem.W.keepIn K (.ref f1) = true)
    {od2 an2 : Option Addr} {sl2 : Array (Option Value)} {oc2 kV2 dc2 pm2 cd2 ct2 : Value} {f2 : Addr} 
    {p2 : Addr} {r2 : List Value} (a2 : PySem.W.findIn K (.ref C0) "least" = some (some (.ref p2))) (rc2 : PySem.W.recIn K p2 "property" = some (.ref f2 :: r2)) (pg2 : PySem.W.specialIn K (.ref p2) "__get__" = some (some (.builtin "property.__get__"))) (pt2 : PySem.W.takesIn K (.ref p2) = some true) (l2 : K.lookup f2 = some ⟨oc2, od2, .func (PySem.W.fnOf "least" "Lane.least" (defArgs st_Lane_least) (defBody st_Lane_least) (defScope st_Lane_least) .none kV2 dc2 pm2 an2 cd2 ct2), sl2⟩) (c2 : PySem.W.codeIn K cd2 "Lane.least" = true) (k2 : PySem.W.keepIn K (.ref f2) = true)
    {od3 an3 : Option Addr} {sl3 : Array (Option Value)} {oc3 kV3 dc3 pm3 cd3 ct3 : Value} {f3 : Addr} 
    {p3 : Addr} {r3 : List Value} (a3 : PySem.W.findIn K (.ref C0) "drift" = some (some (.ref p3))) (rc3 : PySem.W.recIn K p3 "property" = some (.ref f3 :: r3)) (pg3 : PySem.W.specialIn K (.ref p3) "__get__" = some (some (.builtin "property.__get__"))) (pt3 : PySem.W.takesIn K (.ref p3) = some true) (l3 : K.lookup f3 = some ⟨oc3, od3, .func (PySem.W.fnOf "drift" "Lane.drift" (defArgs st_Lane_drift) (defBody st_Lane_drift) (defScope st_Lane_drift) .none kV3 dc3 pm3 an3 cd3 ct3), sl3⟩) (c3 : PySem.W.codeIn K cd3 "Lane.drift" = true) (k3 : PySem.W.keepIn K (.ref f3) = true)
    {od4 an4 : Option Addr} {sl4 : Array (Option Value)} {oc4 kV4 dc4 pm4 cd4 ct4 : Value} {f4 : Addr} 
    (a4 : PySem.W.findIn K (.ref C0) "__call__" = some (some (.ref f4))) (i4 : PySem.W.isFn K (.ref f4) = true) (l4 : K.lookup f4 = some ⟨oc4, od4, .func (PySem.W.fnOf "__call__" "Lane.__call__" (defArgs st_Lane_call) (defBody st_Lane_call) (defScope st_Lane_call) .none kV4 dc4 pm4 an4 cd4 ct4), sl4⟩) (c4 : PySem.W.codeIn K cd4 "Lane.__call__" = true) (k4 : PySem.W.keepIn K (.ref f4) = true)
    {od5 an5 : Option Addr} {sl5 : Array (Option Value)} {oc5 kV5 dc5 pm5 cd5 ct5 : Value} {f5 : Addr} 
    (a5 : PySem.W.findIn K (.ref C0) "__eq__" = some (some (.ref f5))) (i5 : PySem.W.isFn K (.ref f5) = true) (l5 : K.lookup f5 = some ⟨oc5, od5, .func (PySem.W.fnOf "__eq__" "Lane.__eq__" (defArgs st_Lane_eq) (defBody st_Lane_eq) (defScope st_Lane_eq) .none kV5 dc5 pm5 an5 cd5 ct5), sl5⟩) (c5 : PySem.W.codeIn K cd5 "Lane.__eq__" = true) (k5 : PySem.W.keepIn K (.ref f5) = true)
    {od6 an6 : Option Addr} {sl6 : Array (Option Value)} {oc6 kV6 dc6 pm6 cd6 ct6 : Value} {f6 : Addr} 
    (a6 : PySem.W.nsIn K mainGlobals "_law_bag" = some (some (.ref f6))) (l6 : K.lookup f6 = some ⟨oc6, od6, .func (PySem.W.fnOf "_law_bag" "_law_bag" (defArgs st_l_bag) (defBody st_l_bag) (defScope st_l_bag) .none kV6 dc6 pm6 an6 cd6 ct6), sl6⟩) (c6 : PySem.W.codeIn K cd6 "_law_bag" = true) (k6 : PySem.W.keepIn K (.ref f6) = true)
    {od7 an7 : Option Addr} {sl7 : Array (Option Value)} {oc7 kV7 dc7 pm7 cd7 ct7 : Value} {f7 : Addr} 
    (a7 : PySem.W.nsIn K mainGlobals "_law_take" = some (some (.ref f7))) (l7 : K.lookup f7 = some ⟨oc7, od7, .func (PySem.W.fnOf "_law_take" "_law_take" (defArgs st_l_take) (defBody st_l_take) (defScope st_l_take) .none kV7 dc7 pm7 an7 cd7 ct7), sl7⟩) (c7 : PySem.W.codeIn K cd7 "_law_take" = true) (k7 : PySem.W.keepIn K (.ref f7) = true)
    {od8 an8 : Option Addr} {sl8 : Array (Option Value)} {oc8 kV8 dc8 pm8 cd8 ct8 : Value} {f8 : Addr} 
    (a8 : PySem.W.nsIn K mainGlobals "_law_wait" = some (some (.ref f8))) (l8 : K.lookup f8 = some ⟨oc8, od8, .func (PySem.W.fnOf "_law_wait" "_law_wait" (defArgs st_l_wait) (defBody st_l_wait) (defScope st_l_wait) .none kV8 dc8 pm8 an8 cd8 ct8), sl8⟩) (c8 : PySem.W.codeIn K cd8 "_law_wait" = true) (k8 : PySem.W.keepIn K (.ref f8) = true)
    {od9 an9 : Option Addr} {sl9 : Array (Option Value)} {oc9 kV9 dc9 pm9 cd9 ct9 : Value} {f9 : Addr} 
    (a9 : PySem.W.findIn K (.ref C0) "__repr__" = some (some (.ref f9))) (i9 : PySem.W.isFn K (.ref f9) = true) (l9 : K.lookup f9 = some ⟨oc9, od9, .func (PySem.W.fnOf "__repr__" "Lane.__repr__" (defArgs st_Lane_repr) (defBody st_Lane_repr) (defScope st_Lane_repr) .none kV9 dc9 pm9 an9 cd9 ct9), sl9⟩) (c9 : PySem.W.codeIn K cd9 "Lane.__repr__" = true) (k9 : PySem.W.keepIn K (.ref f9) = true)
    {od10 an10 : Option Addr} {sl10 : Array (Option Value)} {oc10 kV10 dc10 pm10 cd10 ct10 : Value} {f10 : Addr} 
    (a10 : PySem.W.nsIn K mainGlobals "_law_number" = some (some (.ref f10))) (l10 : K.lookup f10 = some ⟨oc10, od10, .func (PySem.W.fnOf "_law_number" "_law_number" (defArgs st_l_number) (defBody st_l_number) (defScope st_l_number) .none kV10 dc10 pm10 an10 cd10 ct10), sl10⟩) (c10 : PySem.W.codeIn K cd10 "_law_number" = true) (k10 : PySem.W.keepIn K (.ref f10) = true)
    {od11 an11 : Option Addr} {sl11 : Array (Option Value)} {oc11 kV11 dc11 pm11 cd11 ct11 : Value} {f11 : Addr} 
    (a11 : PySem.W.nsIn K mainGlobals "lane_of" = some (some (.ref f11))) (l11 : K.lookup f11 = some ⟨oc11, od11, .func (PySem.W.fnOf "lane_of" "lane_of" (defArgs st_lane_of) (defBody st_lane_of) (defScope st_lane_of) .none kV11 dc11 pm11 an11 cd11 ct11), sl11⟩) (c11 : PySem.W.codeIn K cd11 "lane_of" = true) (k11 : PySem.W.keepIn K (.ref f11) = true)
    {od12 an12 : Option Addr} {sl12 : Array (Option Value)} {oc12 kV12 dc12 pm12 cd12 ct12 : Value} {f12 : Addr} 
    (a12 : PySem.W.nsIn K mainGlobals "_law_served" = some (some (.ref f12))) (l12 : K.lookup f12 = some ⟨oc12, od12, .func (PySem.W.fnOf "_law_served" "_law_served" (defArgs st_l_served) (defBody st_l_served) (defScope st_l_served) .none kV12 dc12 pm12 an12 cd12 ct12), sl12⟩) (c12 : PySem.W.codeIn K cd12 "_law_served" = true) (k12 : PySem.W.keepIn K (.ref f12) = true)
    {od13 an13 : Option Addr} {sl13 : Array (Option Value)} {oc13 kV13 dc13 pm13 cd13 ct13 : Value} {f13 : Addr} 
    (a13 : PySem.W.findIn K (.ref C0) "__mul__" = some (some (.ref f13))) (i13 : PySem.W.isFn K (.ref f13) = true) (l13 : K.lookup f13 = some ⟨oc13, od13, .func (PySem.W.fnOf "__mul__" "Lane.__mul__" (defArgs st_Lane_mul) (defBody st_Lane_mul) (defScope st_Lane_mul) .none kV13 dc13 pm13 an13 cd13 ct13), sl13⟩) (c13 : PySem.W.codeIn K cd13 "Lane.__mul__" = true) (k13 : PySem.W.keepIn K (.ref f13) = true)
    {od14 an14 : Option Addr} {sl14 : Array (Option Value)} {oc14 kV14 dc14 pm14 cd14 ct14 : Value} {f14 : Addr} 
    (a14 : PySem.W.nsIn K mainGlobals "_law_lane" = some (some (.ref f14))) (l14 : K.lookup f14 = some ⟨oc14, od14, .func (PySem.W.fnOf "_law_lane" "_law_lane" (defArgs st_l_lane) (defBody st_l_lane) (defScope st_l_lane) .none kV14 dc14 pm14 an14 cd14 ct14), sl14⟩) (c14 : PySem.W.codeIn K cd14 "_law_lane" = true) (k14 : PySem.W.keepIn K (.ref f14) = true)
    {od15 an15 : Option Addr} {sl15 : Array (Option Value)} {oc15 kV15 dc15 pm15 cd15 ct15 : Value} {f15 : Addr} 
    (a15 : PySem.W.nsIn K mainGlobals "_law_lane_right" = some (some (.ref f15))) (l15 : K.lookup f15 = some ⟨oc15, od15, .func (PySem.W.fnOf "_law_lane_right" "_law_lane_right" (defArgs st_l_lane_right) (defBody st_l_lane_right) (defScope st_l_lane_right) .none kV15 dc15 pm15 an15 cd15 ct15), sl15⟩) (c15 : PySem.W.codeIn K cd15 "_law_lane_right" = true) (k15 : PySem.W.keepIn K (.ref f15) = true)
    {od16 an16 : Option Addr} {sl16 : Array (Option Value)} {oc16 kV16 dc16 pm16 cd16 ct16 : Value} {f16 : Addr} 
    (a16 : PySem.W.nsIn K mainGlobals "law" = some (some (.ref f16))) (l16 : K.lookup f16 = some ⟨oc16, od16, .func (PySem.W.fnOf "law" "law" (defArgs st_law) (defBody st_law) (defScope st_law) .none kV16 dc16 pm16 an16 cd16 ct16), sl16⟩) (c16 : PySem.W.codeIn K cd16 "law" = true) (k16 : PySem.W.keepIn K (.ref f16) = true)
    (mkC0 : PySem.W.makesIn K C0 = true)
    (kcC0 : PySem.W.keepIn K (.ref C0) = true)
    (pgC0 : PySem.W.plainGet K C0 Str.empty = true)
    (hdC0 : PySem.W.hasDictIn K C0 = true)
    (poC0 : PySem.W.plainOver K C0 = true)
    (saC0 : PySem.W.findIn K (.ref C0) "__setattr__" = some (some (.builtin "object.__setattr__")))
    (rsC0 : PySem.W.findIn K (.ref C0) "__str__" = some (some (.builtin "object.__str__")))
    (roC0 : PySem.W.mroIn K C0 (.type "object") = some true)
    (fiC0 : PySem.W.fnIn K f4 = true)
    (nfoC0 : PySem.W.notFirst K C0 (.ref C0) = true)
    (nfNoneTypeC0 : PySem.W.notFirst K C0 (.type "NoneType") = true)
    (nfboolC0 : PySem.W.notFirst K C0 (.type "bool") = true)
    (nfintC0 : PySem.W.notFirst K C0 (.type "int") = true)
    (nfstrC0 : PySem.W.notFirst K C0 (.type "str") = true)
    (nftupleC0 : PySem.W.notFirst K C0 (.type "tuple") = true)
    (nflistC0 : PySem.W.notFirst K C0 (.type "list") = true)
    (nfdictC0 : PySem.W.notFirst K C0 (.type "dict") = true)
    (neC0 : PySem.W.findIn K (.ref C0) "__ne__" = some (some (.builtin "object.__ne__")))
    (soC0 : PySem.W.subIn K (.ref C0) (.type "object") = some true)
    (sfC0 : PySem.W.selfFirst K C0 = true)
    (na0_shift : PySem.W.findIn K (.ref C0) "shift" = some none)
    (na0_low : PySem.W.findIn K (.ref C0) "low" = some none)
    (ciaC0 : PySem.W.findIn K (.ref C0) "__class__" = some (some (.builtin "object.__class__")))
    (cinC0 : PySem.W.specialIn K (.builtin "object.__class__") "__get__" = some (some (.builtin "getset_descriptor.__get__")))
    (citC0 : PySem.W.takesIn K (.builtin "object.__class__") = some true)
    (cimC0 : PySem.W.mroIn K C0 (.type "object") = some true)
    (kt0C0 : PySem.W.kitOne K (.ref C0) (.ref C0) = some true)
    (kcNoneTypeC0 : PySem.W.kitOne K (.type "NoneType") (.ref C0) = some false)
    (kcboolC0 : PySem.W.kitOne K (.type "bool") (.ref C0) = some false)
    (kcintC0 : PySem.W.kitOne K (.type "int") (.ref C0) = some false)
    (kcstrC0 : PySem.W.kitOne K (.type "str") (.ref C0) = some false)
    (kctupleC0 : PySem.W.kitOne K (.type "tuple") (.ref C0) = some false)
    (kclistC0 : PySem.W.kitOne K (.type "list") (.ref C0) = some false)
    (kcdictC0 : PySem.W.kitOne K (.type "dict") (.ref C0) = some false)
    (z0 : PySem.W.nsIn K mainGlobals "abs" = some none)
    (z1 : PySem.W.nsIn K mainGlobals "str" = some none)
    (z2 : PySem.W.nsIn K mainGlobals "int" = some none)
    (z3 : PySem.W.nsIn K mainGlobals "len" = some none)
    (z4 : PySem.W.nsIn K mainGlobals "range" = some none)
    (z5 : PySem.W.nsIn K mainGlobals "max" = some none)
    (z6 : PySem.W.nsIn K mainGlobals "sum" = some none)
    (z7 : PySem.W.nsIn K mainGlobals "repr" = some none)
    (z8 : PySem.W.nsIn K mainGlobals "all" = some none)
    (z9 : PySem.W.nsIn K mainGlobals "isinstance" = some none) : Txt K mg where

  C_Lane := C0
  g_Lane := PySem.W.mg_of X G aC0
  n_Lane := aC0
  a_figures := f0
  d_figures := _
  F_figures := ⟨⟨_, _, .none, _, _, _, _, _, _, _, rfl, l0, c0⟩, k0⟩
  g_figures := PySem.W.mg_of X G a0
  b_figures := (Binds.all fun us hl => match us, hl with | [_], _ => rfl)
  a_Lane_init := f1
  d_Lane_init := _
  F_Lane_init := ⟨⟨_, _, .none, _, _, _, _, _, _, _, rfl, l1, c1⟩, k1⟩
  b_Lane_init := (StX.bind_star1 (B := fun l => bindArgs (PySem.W.fnOf "__init__" "Lane.__init__" (defArgs st_Lane_init) (defBody st_Lane_init) (defScope st_Lane_init) .none kV1 dc1 pm1 an1 cd1 ct1) ⟨l, []⟩) (fun a0 => rfl) (fun a0 r rs => rfl))
  a_Lane_least := f2
  d_Lane_least := _
  F_Lane_least := ⟨⟨_, _, .none, _, _, _, _, _, _, _, rfl, l2, c2⟩, k2⟩
  b_Lane_least := (Binds.all fun us hl => match us, hl with | [_], _ => rfl)
  a_Lane_drift := f3
  d_Lane_drift := _
  F_Lane_drift := ⟨⟨_, _, .none, _, _, _, _, _, _, _, rfl, l3, c3⟩, k3⟩
  b_Lane_drift := (Binds.all fun us hl => match us, hl with | [_], _ => rfl)
  a_Lane_call := f4
  d_Lane_call := _
  F_Lane_call := ⟨⟨_, _, .none, _, _, _, _, _, _, _, rfl, l4, c4⟩, k4⟩
  b_Lane_call := (Binds.all fun us hl => match us, hl with | [_, _], _ => rfl)
  a_Lane_eq := f5
  d_Lane_eq := _
  F_Lane_eq := ⟨⟨_, _, .none, _, _, _, _, _, _, _, rfl, l5, c5⟩, k5⟩
  b_Lane_eq := (Binds.all fun us hl => match us, hl with | [_, _], _ => rfl)
  a_l_bag := f6
  d_l_bag := _
  F_l_bag := ⟨⟨_, _, .none, _, _, _, _, _, _, _, rfl, l6, c6⟩, k6⟩
  g_l_bag := PySem.W.mg_of X G a6
  b_l_bag := (Binds.all fun us hl => match us, hl with | [_], _ => rfl)
  a_l_take := f7
  d_l_take := _
  F_l_take := ⟨⟨_, _, .none, _, _, _, _, _, _, _, rfl, l7, c7⟩, k7⟩
  g_l_take := PySem.W.mg_of X G a7
  b_l_take := (Binds.all fun us hl => match us, hl with | [_, _], _ => rfl)
  a_l_wait := f8
  d_l_wait := _
  F_l_wait := ⟨⟨_, _, .none, _, _, _, _, _, _, _, rfl, l8, c8⟩, k8⟩
  g_l_wait := PySem.W.mg_of X G a8
  b_l_wait := (Binds.all fun us hl => match us, hl with | [_, _], _ => rfl)
  a_Lane_repr := f9
  d_Lane_repr := _
  F_Lane_repr := ⟨⟨_, _, .none, _, _, _, _, _, _, _, rfl, l9, c9⟩, k9⟩
  b_Lane_repr := (Binds.all fun us hl => match us, hl with | [_], _ => rfl)
  a_l_number := f10
  d_l_number := _
  F_l_number := ⟨⟨_, _, .none, _, _, _, _, _, _, _, rfl, l10, c10⟩, k10⟩
  g_l_number := PySem.W.mg_of X G a10
  b_l_number := (Binds.all fun us hl => match us, hl with | [_], _ => rfl)
  a_lane_of := f11
  d_lane_of := _
  F_lane_of := ⟨⟨_, _, .none, _, _, _, _, _, _, _, rfl, l11, c11⟩, k11⟩
  g_lane_of := PySem.W.mg_of X G a11
  b_lane_of := (Binds.all fun us hl => match us, hl with | [_, _], _ => rfl)
  a_l_served := f12
  d_l_served := _
  F_l_served := ⟨⟨_, _, .none, _, _, _, _, _, _, _, rfl, l12, c12⟩, k12⟩
  g_l_served := PySem.W.mg_of X G a12
  b_l_served := (Binds.all fun us hl => match us, hl with | [_, _], _ => rfl)
  a_Lane_mul := f13
  d_Lane_mul := _
  F_Lane_mul := ⟨⟨_, _, .none, _, _, _, _, _, _, _, rfl, l13, c13⟩, k13⟩
  b_Lane_mul := (Binds.all fun us hl => match us, hl with | [_, _], _ => rfl)
  a_l_lane := f14
  d_l_lane := _
  F_l_lane := ⟨⟨_, _, .none, _, _, _, _, _, _, _, rfl, l14, c14⟩, k14⟩
  g_l_lane := PySem.W.mg_of X G a14
  b_l_lane := (Binds.all fun us hl => match us, hl with | [_], _ => rfl)
  a_l_lane_right := f15
  d_l_lane_right := _
  F_l_lane_right := ⟨⟨_, _, .none, _, _, _, _, _, _, _, rfl, l15, c15⟩, k15⟩
  g_l_lane_right := PySem.W.mg_of X G a15
  b_l_lane_right := (Binds.all fun us hl => match us, hl with | [_, _, _], _ => rfl)
  a_law := f16
  d_law := _
  F_law := ⟨⟨_, _, .none, _, _, _, _, _, _, _, rfl, l16, c16⟩, k16⟩
  g_law := PySem.W.mg_of X G a16
  b_law := (Binds.all fun us hl => match us, hl with | [_], _ => rfl)
  mk_Lane := ⟨mkC0, a1, i1, kcC0⟩
  pa_Lane_drift := p3
  pp_Lane_drift := ⟨a3, pg3, pt3, _, rc3⟩
  cl_Lane := ⟨pgC0, hdC0, poC0, saC0⟩
  pa_Lane_least := p2
  pp_Lane_least := ⟨a2, pg2, pt2, _, rc2⟩
  wa_Lane_repr := a9
  wi_Lane_repr := i9
  rs_Lane := rsC0
  ro_Lane := roC0
  co_Lane := ⟨a4, i4, fiC0⟩
  wa_Lane_eq := a5
  wi_Lane_eq := i5
  nfc_Lane := ⟨nfoC0, nfNoneTypeC0, nfboolC0, nfintC0, nfstrC0, nftupleC0, nflistC0, nfdictC0⟩
  ne_Lane := neC0
  so_Lane := soC0
  wa_Lane_mul := a13
  wi_Lane_mul := i13
  sf_Lane := sfC0
  na_Lane_shift := na0_shift
  na_Lane_low := na0_low
  ci_Lane := ⟨ciaC0, cinC0, citC0, cimC0⟩
  kt_Lane_Lane := kt0C0
  kc_Lane := ⟨kcNoneTypeC0, kcboolC0, kcintC0, kcstrC0, kctupleC0, kclistC0, kcdictC0⟩
  z_abs := PySem.W.mg_none_of X G z0
  z_str := PySem.W.mg_none_of X G z1
  z_int := PySem.W.mg_none_of X G z2
  z_len := PySem.W.mg_none_of X G z3
  z_range := PySem.W.mg_none_of X G z4
  z_max := PySem.W.mg_none_of X G z5
  z_sum := PySem.W.mg_none_of X G z6
  z_repr := PySem.W.mg_none_of X G z7
  z_all := PySem.W.mg_none_of X G z8
  z_isinstance := PySem.W.mg_none_of X G z9
theorem all_mk {l : PySem.W.OpenLaw} {w : World} {K : PySem.W.Frag} {h : Heap} {mg : Str → Option Value} {fa : Addr} (X : K.In h) (G : h.Ns mainGlobals mg) (hfa : mg "law" = some (.ref fa))
    {C0 : Addr} (aC0 : PySem.W.nsIn K mainGlobals "Lane" = some (some (.ref C0)))
    {od0 an0 : Option Addr} {sl0 : Array (Option Value)} {oc0 kV0 dc0 pm0 cd0 ct0 : Value} {f0 : Addr} 
    (a0 : PySem.W.nsIn K mainGlobals "figures" = some (some (.ref f0))) (l0 : K.lookup f0 = some ⟨oc0, od0, .func (PySem.W.fnOf "figures" "figures" (defArgs st_figures) (defBody st_figures) (defScope st_figures) .none kV0 dc0 pm0 an0 cd0 ct0), sl0⟩) (c0 : PySem.W.codeIn K cd0 "figures" = true) (k0 : PySem.W.keepIn K (.ref f0) = true)
    {od1 an1 : Option Addr} {sl1 : Array (Option Value)} {oc1 kV1 dc1 pm1 cd1 ct1 : Value} {f1 : Addr} 
    (a1 : PySem.W.findIn K (.ref C0) "__init__" = some (some (.ref f1))) (i1 : PySem.W.isFn K (.ref f1) = true) (l1 : K.lookup f1 = some ⟨oc1, od1, .func (PySem.W.fnOf "__init__" "Lane.__init__" (defArgs st_Lane_init) (defBody st_Lane_init) (defScope st_Lane_init) .none kV1 dc1 pm1 an1 cd1 ct1), sl1⟩) (c1 : PySem.W.codeIn K cd1 "Lane.__init__" = true) (k1 : PySem.W.keepIn K (.ref f1) = true)
    {od2 an2 : Option Addr} {sl2 : Array (Option Value)} {oc2 kV2 dc2 pm2 cd2 ct2 : Value} {f2 : Addr} 
    {p2 : Addr} {r2 : List Value} (a2 : PySem.W.findIn K (.ref C0) "least" = some (some (.ref p2))) (rc2 : PySem.W.recIn K p2 "property" = some (.ref f2 :: r2)) (pg2 : PySem.W.specialIn K (.ref p2) "__get__" = some (some (.builtin "property.__get__"))) (pt2 : PySem.W.takesIn K (.ref p2) = some true) (l2 : K.lookup f2 = some ⟨oc2, od2, .func (PySem.W.fnOf "least" "Lane.least" (defArgs st_Lane_least) (defBody st_Lane_least) (defScope st_Lane_least) .none kV2 dc2 pm2 an2 cd2 ct2), sl2⟩) (c2 : PySem.W.codeIn K cd2 "Lane.least" = true) (k2 : PySem.W.keepIn K (.ref f2) = true)
    {od3 an3 : Option Addr} {sl3 : Array (Option Value)} {oc3 kV3 dc3 pm3 cd3 ct3 : Value} {f3 : Addr} 
    {p3 : Addr} {r3 : List Value} (a3 : PySem.W.findIn K (.ref C0) "drift" = some (some (.ref p3))) (rc3 : PySem.W.recIn K p3 "property" = some (.ref f3 :: r3)) (pg3 : PySem.W.specialIn K (.ref p3) "__get__" = some (some (.builtin "property.__get__"))) (pt3 : PySem.W.takesIn K (.ref p3) = some true) (l3 : K.lookup f3 = some ⟨oc3, od3, .func (PySem.W.fnOf "drift" "Lane.drift" (defArgs st_Lane_drift) (defBody st_Lane_drift) (defScope st_Lane_drift) .none kV3 dc3 pm3 an3 cd3 ct3), sl3⟩) (c3 : PySem.W.codeIn K cd3 "Lane.drift" = true) (k3 : PySem.W.keepIn K (.ref f3) = true)
    {od4 an4 : Option Addr} {sl4 : Array (Option Value)} {oc4 kV4 dc4 pm4 cd4 ct4 : Value} {f4 : Addr} 
    (a4 : PySem.W.findIn K (.ref C0) "__call__" = some (some (.ref f4))) (i4 : PySem.W.isFn K (.ref f4) = true) (l4 : K.lookup f4 = some ⟨oc4, od4, .func (PySem.W.fnOf "__call__" "Lane.__call__" (defArgs st_Lane_call) (defBody st_Lane_call) (defScope st_Lane_call) .none kV4 dc4 pm4 an4 cd4 ct4), sl4⟩) (c4 : PySem.W.codeIn K cd4 "Lane.__call__" = true) (k4 : PySem.W.keepIn K (.ref f4) = true)
    {od5 an5 : Option Addr} {sl5 : Array (Option Value)} {oc5 kV5 dc5 pm5 cd5 ct5 : Value} {f5 : Addr} 
    (a5 : PySem.W.findIn K (.ref C0) "__eq__" = some (some (.ref f5))) (i5 : PySem.W.isFn K (.ref f5) = true) (l5 : K.lookup f5 = some ⟨oc5, od5, .func (PySem.W.fnOf "__eq__" "Lane.__eq__" (defArgs st_Lane_eq) (defBody st_Lane_eq) (defScope st_Lane_eq) .none kV5 dc5 pm5 an5 cd5 ct5), sl5⟩) (c5 : PySem.W.codeIn K cd5 "Lane.__eq__" = true) (k5 : PySem.W.keepIn K (.ref f5) = true)
    {od6 an6 : Option Addr} {sl6 : Array (Option Value)} {oc6 kV6 dc6 pm6 cd6 ct6 : Value} {f6 : Addr} 
    (a6 : PySem.W.nsIn K mainGlobals "_law_bag" = some (some (.ref f6))) (l6 : K.lookup f6 = some ⟨oc6, od6, .func (PySem.W.fnOf "_law_bag" "_law_bag" (defArgs st_l_bag) (defBody st_l_bag) (defScope st_l_bag) .none kV6 dc6 pm6 an6 cd6 ct6), sl6⟩) (c6 : PySem.W.codeIn K cd6 "_law_bag" = true) (k6 : PySem.W.keepIn K (.ref f6) = true)
    {od7 an7 : Option Addr} {sl7 : Array (Option Value)} {oc7 kV7 dc7 pm7 cd7 ct7 : Value} {f7 : Addr} 
    (a7 : PySem.W.nsIn K mainGlobals "_law_take" = some (some (.ref f7))) (l7 : K.lookup f7 = some ⟨oc7, od7, .func (PySem.W.fnOf "_law_take" "_law_take" (defArgs st_l_take) (defBody st_l_take) (defScope st_l_take) .none kV7 dc7 pm7 an7 cd7 ct7), sl7⟩) (c7 : PySem.W.codeIn K cd7 "_law_take" = true) (k7 : PySem.W.keepIn K (.ref f7) = true)
    {od8 an8 : Option Addr} {sl8 : Array (Option Value)} {oc8 kV8 dc8 pm8 cd8 ct8 : Value} {f8 : Addr} 
    (a8 : PySem.W.nsIn K mainGlobals "_law_wait" = some (some (.ref f8))) (l8 : K.lookup f8 = some ⟨oc8, od8, .func (PySem.W.fnOf "_law_wait" "_law_wait" (defArgs st_l_wait) (defBody st_l_wait) (defScope st_l_wait) .none kV8 dc8 pm8 an8 cd8 ct8), sl8⟩) (c8 : PySem.W.codeIn K cd8 "_law_wait" = true) (k8 : PySem.W.keepIn K (.ref f8) = true)
    {od9 an9 : Option Addr} {sl9 : Array (Option Value)} {oc9 kV9 dc9 pm9 cd9 ct9 : Value} {f9 : Addr} 
    (a9 : PySem.W.findIn K (.ref C0) "__repr__" = some (some (.ref f9))) (i9 : PySem.W.isFn K (.ref f9) = true) (l9 : K.lookup f9 = some ⟨oc9, od9, .func (PySem.W.fnOf "__repr__" "Lane.__repr__" (defArgs st_Lane_repr) (defBody st_Lane_repr) (defScope st_Lane_repr) .none kV9 dc9 pm9 an9 cd9 ct9), sl9⟩) (c9 : PySem.W.codeIn K cd9 "Lane.__repr__" = true) (k9 : PySem.W.keepIn K (.ref f9) = true)
    {od10 an10 : Option Addr} {sl10 : Array (Option Value)} {oc10 kV10 dc10 pm10 cd10 ct10 : Value} {f10 : Addr} 
    (a10 : PySem.W.nsIn K mainGlobals "_law_number" = some (some (.ref f10))) (l10 : K.lookup f10 = some ⟨oc10, od10, .func (PySem.W.fnOf "_law_number" "_law_number" (defArgs st_l_number) (defBody st_l_number) (defScope st_l_number) .none kV10 dc10 pm10 an10 cd10 ct10), sl10⟩) (c10 : PySem.W.codeIn K cd10 "_law_number" = true) (k10 : PySem.W.keepIn K (.ref f10) = true)
    {od11 an11 : Option Addr} {sl11 : Array (Option Value)} {oc11 kV11 dc11 pm11 cd11 ct11 : Value} {f11 : Addr} 
    (a11 : PySem.W.nsIn K mainGlobals "lane_of" = some (some (.ref f11))) (l11 : K.lookup f11 = some ⟨oc11, od11, .func (PySem.W.fnOf "lane_of" "lane_of" (defArgs st_lane_of) (defBody st_lane_of) (defScope st_lane_of) .none kV11 dc11 pm11 an11 cd11 ct11), sl11⟩) (c11 : PySem.W.codeIn K cd11 "lane_of" = true) (k11 : PySem.W.keepIn K (.ref f11) = true)
    {od12 an12 : Option Addr} {sl12 : Array (Option Value)} {oc12 kV12 dc12 pm12 cd12 ct12 : Value} {f12 : Addr} 
    (a12 : PySem.W.nsIn K mainGlobals "_law_served" = some (some (.ref f12))) (l12 : K.lookup f12 = some ⟨oc12, od12, .func (PySem.W.fnOf "_law_served" "_law_served" (defArgs st_l_served) (defBody st_l_served) (defScope st_l_served) .none kV12 dc12 pm12 an12 cd12 ct12), sl12⟩) (c12 : PySem.W.codeIn K cd12 "_law_served" = true) (k12 : PySem.W.keepIn K (.ref f12) = true)
    {od13 an13 : Option Addr} {sl13 : Array (Option Value)} {oc13 kV13 dc13 pm13 cd13 ct13 : Value} {f13 : Addr} 
    (a13 : PySem.W.findIn K (.ref C0) "__mul__" = some (some (.ref f13))) (i13 : PySem.W.isFn K (.ref f13) = true) (l13 : K.lookup f13 = some ⟨oc13, od13, .func (PySem.W.fnOf "__mul__" "Lane.__mul__" (defArgs st_Lane_mul) (defBody st_Lane_mul) (defScope st_Lane_mul) .none kV13 dc13 pm13 an13 cd13 ct13), sl13⟩) (c13 : PySem.W.codeIn K cd13 "Lane.__mul__" = true) (k13 : PySem.W.keepIn K (.ref f13) = true)
    {od14 an14 : Option Addr} {sl14 : Array (Option Value)} {oc14 kV14 dc14 pm14 cd14 ct14 : Value} {f14 : Addr} 
    (a14 : PySem.W.nsIn K mainGlobals "_law_lane" = some (some (.ref f14))) (l14 : K.lookup f14 = some ⟨oc14, od14, .func (PySem.W.fnOf "_law_lane" "_law_lane" (defArgs st_l_lane) (defBody st_l_lane) (defScope st_l_lane) .none kV14 dc14 pm14 an14 cd14 ct14), sl14⟩) (c14 : PySem.W.codeIn K cd14 "_law_lane" = true) (k14 : PySem.W.keepIn K (.ref f14) = true)
    {od15 an15 : Option Addr} {sl15 : Array (Option Value)} {oc15 kV15 dc15 pm15 cd15 ct15 : Value} {f15 : Addr} 
    (a15 : PySem.W.nsIn K mainGlobals "_law_lane_right" = some (some (.ref f15))) (l15 : K.lookup f15 = some ⟨oc15, od15, .func (PySem.W.fnOf "_law_lane_right" "_law_lane_right" (defArgs st_l_lane_right) (defBody st_l_lane_right) (defScope st_l_lane_right) .none kV15 dc15 pm15 an15 cd15 ct15), sl15⟩) (c15 : PySem.W.codeIn K cd15 "_law_lane_right" = true) (k15 : PySem.W.keepIn K (.ref f15) = true)
    {od16 an16 : Option Addr} {sl16 : Array (Option Value)} {oc16 kV16 dc16 pm16 cd16 ct16 : Value} {f16 : Addr} 
    (a16 : PySem.W.nsIn K mainGlobals "law" = some (some (.ref f16))) (l16 : K.lookup f16 = some ⟨oc16, od16, .func (PySem.W.fnOf "law" "law" (defArgs st_law) (defBody st_law) (defScope st_law) .none kV16 dc16 pm16 an16 cd16 ct16), sl16⟩) (c16 : PySem.W.codeIn K cd16 "law" = true) (k16 : PySem.W.keepIn K (.ref f16) = true)
    (mkC0 : PySem.W.makesIn K C0 = true)
    (kcC0 : PySem.W.keepIn K (.ref C0) = true)
    (pgC0 : PySem.W.plainGet K C0 Str.empty = true)
    (hdC0 : PySem.W.hasDictIn K C0 = true)
    (poC0 : PySem.W.plainOver K C0 = true)
    (saC0 : PySem.W.findIn K (.ref C0) "__setattr__" = some (some (.builtin "object.__setattr__")))
    (rsC0 : PySem.W.findIn K (.ref C0) "__str__" = some (some (.builtin "object.__str__")))
    (roC0 : PySem.W.mroIn K C0 (.type "object") = some true)
    (fiC0 : PySem.W.fnIn K f4 = true)
    (nfoC0 : PySem.W.notFirst K C0 (.ref C0) = true)
    (nfNoneTypeC0 : PySem.W.notFirst K C0 (.type "NoneType") = true)
    (nfboolC0 : PySem.W.notFirst K C0 (.type "bool") = true)
    (nfintC0 : PySem.W.notFirst K C0 (.type "int") = true)
    (nfstrC0 : PySem.W.notFirst K C0 (.type "str") = true)
    (nftupleC0 : PySem.W.notFirst K C0 (.type "tuple") = true)
    (nflistC0 : PySem.W.notFirst K C0 (.type "list") = true)
    (nfdictC0 : PySem.W.notFirst K C0 (.type "dict") = true)
    (neC0 : PySem.W.findIn K (.ref C0) "__ne__" = some (some (.builtin "object.__ne__")))
    (soC0 : PySem.W.subIn K (.ref C0) (.type "object") = some true)
    (sfC0 : PySem.W.selfFirst K C0 = true)
    (na0_shift : PySem.W.findIn K (.ref C0) "shift" = some none)
    (na0_low : PySem.W.findIn K (.ref C0) "low" = some none)
    (ciaC0 : PySem.W.findIn K (.ref C0) "__class__" = some (some (.builtin "object.__class__")))
    (cinC0 : PySem.W.specialIn K (.builtin "object.__class__") "__get__" = some (some (.builtin "getset_descriptor.__get__")))
    (citC0 : PySem.W.takesIn K (.builtin "object.__class__") = some true)
    (cimC0 : PySem.W.mroIn K C0 (.type "object") = some true)
    (kt0C0 : PySem.W.kitOne K (.ref C0) (.ref C0) = some true)
    (kcNoneTypeC0 : PySem.W.kitOne K (.type "NoneType") (.ref C0) = some false)
    (kcboolC0 : PySem.W.kitOne K (.type "bool") (.ref C0) = some false)
    (kcintC0 : PySem.W.kitOne K (.type "int") (.ref C0) = some false)
    (kcstrC0 : PySem.W.kitOne K (.type "str") (.ref C0) = some false)
    (kctupleC0 : PySem.W.kitOne K (.type "tuple") (.ref C0) = some false)
    (kclistC0 : PySem.W.kitOne K (.type "list") (.ref C0) = some false)
    (kcdictC0 : PySem.W.kitOne K (.type "dict") (.ref C0) = some false)
    (z0 : PySem.W.nsIn K mainGlobals "abs" = some none)
    (z1 : PySem.W.nsIn K mainGlobals "str" = some none)
    (z2 : PySem.W.nsIn K mainGlobals "int" = some none)
    (z3 : PySem.W.nsIn K mainGlobals "len" = some none)
    (z4 : PySem.W.nsIn K mainGlobals "range" = some none)
    (z5 : PySem.W.nsIn K mainGlobals "max" = some none)
    (z6 : PySem.W.nsIn K mainGlobals "sum" = some none)
    (z7 : PySem.W.nsIn K mainGlobals "repr" = some none)
    (z8 : PySem.W.nsIn K mainGlobals "all" = some none)
    (z9 : PySem.W.nsIn K mainGlobals "isinstance" = some none) :
    ∃ fd : FuncData, (∀ (s : Shared) (v : Value), BindsTo s fd ⟨[v], []⟩ [("_law_script", v)]) ∧ ∀ base : Heap, FnI l.prog w K mg base 7 fa fd ["_law_script"] m_law := by
  have e := hfa.symm.trans (PySem.W.mg_of X G a16)
  cases e
  exact ⟨PySem.W.fnOf "law" "law" (defArgs st_law) (defBody st_law) (defScope st_law) .none kV16 dc16 pm16 an16 cd16 ct16, fun s v => .of_eq rfl, fun base => fn_law (txt_mk X G aC0 a0 l0 c0 k0 a1 i1 l1 c1 k1 a2 rc2 pg2 pt2 l2 c2 k2 a3 rc3 pg3 pt3 l3 c3 k3 a4 i4 l4 c4 k4 a5 i5 l5 c5 k5 a6 l6 c6 k6 a7 l7 c7 k7 a8 l8 c8 k8 a9 i9 l9 c9 k9 a10 l10 c10 k10 a11 l11 c11 k11 a12 l12 c12 k12 a13 i13 l13 c13 k13 a14 l14 c14 k14 a15 l15 c15 k15 a16 l16 c16 k16 mkC0 kcC0 pgC0 hdC0 poC0 saC0 rsC0 roC0 fiC0 nfoC0 nfNoneTypeC0 nfboolC0 nfintC0 nfstrC0 nftupleC0 nflistC0 nfdictC0 neC0 soC0 sfC0 na0_shift na0_low ciaC0 cinC0 citC0 cimC0 kt0C0 kcNoneTypeC0 kcboolC0 kcintC0 kcstrC0 kctupleC0 kclistC0 kcdictC0 z0 z1 z2 z3 z4 z5 z6 z7 z8 z9)⟩
end RQ.Lw

namespace RQ.Lw
open PySem L2 TL
/-! ### the law's bag of drawn numbers -/
structure Bag (s : Sto) (n b : Nat) : Prop where
  at' : ∃ (c seed k : Int) (cells : List Int), s[n]? = some (.lst [.int c, .int seed, .int k, .lst (cells.map D.int)]) ∧ 0 ≤ c ∧ 0 ≤ seed ∧ seed < 2147483647 ∧ 0 ≤ k ∧ k ≤ b ∧ ∀ x ∈ cells, 0 ≤ x
theorem mul_ok {i j : Int} (a b : Nat) (hi : i.natAbs < 2 ^ a) (hj : j.natAbs < 2 ^ b) (h0 : 0 < a) (h1 : 0 < b) (h : a + b ≤ 1000000) : mulOk i j := wide_mul hi hj h0 h1 h
def headB : SM :=
  (sIf (tst (m2 dEq (m2 dIx (vGet 0) (cst (.int 0))) (cst (.int 0))))
  (sSeq (sSet 4 (cst (.int 0)))
  (sSeq (sIf (tst (m2 dLt (m2 dIx (vGet 0) (cst (.int 2))) (mC cLen (aCons (m2 dIx (vGet 0) (cst (.int 3))) aNil))))
  (sSet 4 (m2 dIx (m2 dIx (vGet 0) (cst (.int 3))) (m2 dIx (vGet 0) (cst (.int 2)))))
  sNx)
  (sSeq (sAugIx dAddI (vGet 0) (cst (.int 2)) (cst (.int 1)))
  (sSeq (sIf (tst (m2 dGe (vGet 4) (cst (.int 1000000000000000000))))
  (sSetIx (vGet 4) (vGet 0) (cst (.int 0)))
  sNx)
  (sSetIx (m2 dMod (m2 dAdd (m2 dAdd (m2 dMul (m2 dIx (vGet 0) (cst (.int 1))) (cst (.int 48271))) (m2 dMod (vGet 4) (cst (.int 2147483647)))) (m2 dMul (cst (.int 7919)) (m2 dIx (vGet 0) (cst (.int 2))))) (cst (.int 2147483647))) (vGet 0) (cst (.int 1)))))))
  sNx)
def tailB : SM :=
  (sSeq (sIf (tst (m2 dGt (m2 dIx (vGet 0) (cst (.int 0))) (cst (.int 0))))
  (sSeq (sSet 5 (m2 dMod (m2 dIx (vGet 0) (cst (.int 0))) (vGet 1)))
  (sSeq (sSetIx (m2 dDiv (m2 dIx (vGet 0) (cst (.int 0))) (vGet 1)) (vGet 0) (cst (.int 0)))
  (sRt (vGet 5))))
  sNx)
  (sSeq (sSet 2 (m2 dMod (m2 dMul (m2 dAdd (m2 dIx (vGet 0) (cst (.int 1))) (cst (.int 1))) (cst (.int 39373))) (cst (.int 1000000007))))
  (sSeq (sSet 3 (m2 dMod (m2 dMul (m2 dMod (m2 dMul (vGet 2) (vGet 2)) (cst (.int 998244353))) (cst (.int 30011))) (cst (.int 998244353))))
  (sSeq (sIf (tst (m2 dGt (vGet 1) (cst (.int 1000000))))
  (sRt (m2 dMod (m2 dAdd (m2 dMul (vGet 3) (cst (.int 1000000007))) (vGet 2)) (vGet 1)))
  sNx)
  (sRt (m2 dMod (m2 dDiv (vGet 3) (cst (.int 7))) (vGet 1)))))))
theorem take_B : B_l_take = sSeq headB tailB := rfl
theorem tail_ok {s : Sto} {n : Nat} {many c seed k : Int} {r : D} (cell : Option D) (hs : s[n]? = some (.lst [.int c, .int seed, .int k, r])) (c0 : 0 ≤ c) (s0 : 0 ≤ seed) (s1 : seed < 2147483647) (hm : 0 < many) (hl : many.natAbs.log2 < 9000) :
    ∃ v c', (0 ≤ v ∧ v < many ∧ 0 ≤ c') ∧ retOf (tailB [some (.ref n), some (.int many), none, none, cell, none] s) = .ok (.int v) (s.set n (.lst [.int c', .int seed, .int k, r])) := by
  have hn : n < s.length := (List.getElem?_eq_some_iff.mp hs).1
  unfold tailB
  by_cases hc : 0 < c
  · refine ⟨c % many, c / many, ⟨Int.emod_nonneg _ (by omega), Int.emod_lt_of_pos _ hm, Int.ediv_nonneg c0 (by omega)⟩, ?_⟩
    have hd : 0 < many ∧ many.natAbs.log2 < 9000 := ⟨hm, hl⟩
    simp (disch := first | assumption | omega) only [e_bnd, ↓e_bok, e_bexc, e_ret, e_nox, ↓e_nok, e_cst, e_yes, e_m2, e_m1, e_tst, e_chn, e_and, e_or, e_not, e_vand, e_vor, e_vnot, e_mif, e_anil, e_acons, e_mC, e_call, e_mM, e_sl, e_ono, e_oso, e_dic1, ↓k_tst, ↓k_chnT, ↓k_chnF, ↓k_andT, ↓k_andF, ↓k_orT, ↓k_orF, ↓k_not, ↓k_oso, ↓k_asg, e_seq, ↓e_snx, ↓e_srt, ↓e_sbk, ↓e_sct, ↓e_lok, e_nxs, e_bks, e_cts, e_ex, e_rt, e_set, e_if, e_par, e_asg, f_setix, f_augix, e_sFor, e_forfix, e_src, e_rng1, e_enum, e_lc, e_cmpfix, f_get, ↓f_oo, ↓f_o1, f_ixR, f_ixO, f_ixL, f_ixSl, f_ixT, f_lenR, f_lenO, f_augR, f_setR, f_setO, f_goO, f_run, ↓f_rt, ↓f_nx, v_lenL, v_lenT, v_lenSl, v_addI, v_addII, v_sub, v_neg, v_eqI, v_eqS, v_eqB, v_neI, v_neS, v_lt, v_le, v_gt, v_ge, at_lit, ix_lit', Option.map_some, List.map_cons, List.map_nil, List.length_cons, List.length_nil, List.length_map, List.cons_append, List.nil_append, List.replicate, List.getElem?_cons_zero, List.getElem?_cons_succ, List.set_cons_zero, List.set_cons_succ, List.set_set, f_isi, f_isiO, f_isiB, v_slL, v_slSl, v_abs, v_max, v_min, v_kF, v_srcL, v_srcS, decide_true, decide_false, ↓reduceIte, Bool.false_eq_true, Bool.true_eq_false, Bool.not_true, Bool.not_false, Nat.reduceAdd, Nat.reduceSub, Nat.reduceLT, hs, hc, v_mod, v_div]
  · have e : s.set n (.lst [.int c, .int seed, .int k, r]) = s := by
      apply List.ext_getElem?
      intro i
      by_cases hi : i = n
      · subst hi; rw [List.getElem?_set_self hn, hs]
      · rw [List.getElem?_set_ne (Ne.symm hi)]
    have f1 : 0 ≤ (seed + 1) * 39373 % 1000000007 := Int.emod_nonneg _ (by decide)
    have f2 : (seed + 1) * 39373 % 1000000007 < 1000000007 := Int.emod_lt_of_pos _ (by decide)
    generalize hF : (seed + 1) * 39373 % 1000000007 = F at f1 f2
    have g1 : 0 ≤ F * F % 998244353 := Int.emod_nonneg _ (by decide)
    have g2 : F * F % 998244353 < 998244353 := Int.emod_lt_of_pos _ (by decide)
    generalize hG : F * F % 998244353 = G at g1 g2
    have h1 : 0 ≤ G * 30011 % 998244353 := Int.emod_nonneg _ (by decide)
    have h2 : G * 30011 % 998244353 < 998244353 := Int.emod_lt_of_pos _ (by decide)
    generalize hH : G * 30011 % 998244353 = S at h1 h2
    have m1 : mulOk (seed + 1) 39373 := mul_ok 40 40 (by omega) (by decide) (by decide) (by decide) (by decide)
    have m2' : mulOk F F := mul_ok 40 40 (by omega) (by omega) (by decide) (by decide) (by decide)
    have m3 : mulOk G 30011 := mul_ok 40 40 (by omega) (by decide) (by decide) (by decide) (by decide)
    have m4 : mulOk S 1000000007 := mul_ok 40 40 (by omega) (by decide) (by decide) (by decide) (by decide)
    have d7 : (0 : Int) < 7 ∧ (7 : Int).natAbs.log2 < 9000 := by decide
    by_cases hM : 1000000 < many
    · refine ⟨(S * 1000000007 + F) % many, c, ⟨Int.emod_nonneg _ (by omega), Int.emod_lt_of_pos _ hm, c0⟩, ?_⟩
      rw [e]
      simp (disch := first | assumption | omega | decide) only [e_bnd, ↓e_bok, e_bexc, e_ret, e_nox, ↓e_nok, e_cst, e_yes, e_m2, e_m1, e_tst, e_chn, e_and, e_or, e_not, e_vand, e_vor, e_vnot, e_mif, e_anil, e_acons, e_mC, e_call, e_mM, e_sl, e_ono, e_oso, e_dic1, ↓k_tst, ↓k_chnT, ↓k_chnF, ↓k_andT, ↓k_andF, ↓k_orT, ↓k_orF, ↓k_not, ↓k_oso, ↓k_asg, e_seq, ↓e_snx, ↓e_srt, ↓e_sbk, ↓e_sct, ↓e_lok, e_nxs, e_bks, e_cts, e_ex, e_rt, e_set, e_if, e_par, e_asg, f_setix, f_augix, e_sFor, e_forfix, e_src, e_rng1, e_enum, e_lc, e_cmpfix, f_get, ↓f_oo, ↓f_o1, f_ixR, f_ixO, f_ixL, f_ixSl, f_ixT, f_lenR, f_lenO, f_augR, f_setR, f_setO, f_goO, f_run, ↓f_rt, ↓f_nx, v_lenL, v_lenT, v_lenSl, v_addI, v_addII, v_sub, v_neg, v_eqI, v_eqS, v_eqB, v_neI, v_neS, v_lt, v_le, v_gt, v_ge, at_lit, ix_lit', Option.map_some, List.map_cons, List.map_nil, List.length_cons, List.length_nil, List.length_map, List.cons_append, List.nil_append, List.replicate, List.getElem?_cons_zero, List.getElem?_cons_succ, List.set_cons_zero, List.set_cons_succ, List.set_set, f_isi, f_isiO, f_isiB, v_slL, v_slSl, v_abs, v_max, v_min, v_kF, v_srcL, v_srcS, decide_true, decide_false, ↓reduceIte, Bool.false_eq_true, Bool.true_eq_false, Bool.not_true, Bool.not_false, Nat.reduceAdd, Nat.reduceSub, Nat.reduceLT, hs, hc, hM, v_mod, v_mul, hF, hG, hH]
    · refine ⟨S / 7 % many, c, ⟨Int.emod_nonneg _ (by omega), Int.emod_lt_of_pos _ hm, c0⟩, ?_⟩
      rw [e]
      simp (disch := first | assumption | omega | decide) only [e_bnd, ↓e_bok, e_bexc, e_ret, e_nox, ↓e_nok, e_cst, e_yes, e_m2, e_m1, e_tst, e_chn, e_and, e_or, e_not, e_vand, e_vor, e_vnot, e_mif, e_anil, e_acons, e_mC, e_call, e_mM, e_sl, e_ono, e_oso, e_dic1, ↓k_tst, ↓k_chnT, ↓k_chnF, ↓k_andT, ↓k_andF, ↓k_orT, ↓k_orF, ↓k_not, ↓k_oso, ↓k_asg, e_seq, ↓e_snx, ↓e_srt, ↓e_sbk, ↓e_sct, ↓e_lok, e_nxs, e_bks, e_cts, e_ex, e_rt, e_set, e_if, e_par, e_asg, f_setix, f_augix, e_sFor, e_forfix, e_src, e_rng1, e_enum, e_lc, e_cmpfix, f_get, ↓f_oo, ↓f_o1, f_ixR, f_ixO, f_ixL, f_ixSl, f_ixT, f_lenR, f_lenO, f_augR, f_setR, f_setO, f_goO, f_run, ↓f_rt, ↓f_nx, v_lenL, v_lenT, v_lenSl, v_addI, v_addII, v_sub, v_neg, v_eqI, v_eqS, v_eqB, v_neI, v_neS, v_lt, v_le, v_gt, v_ge, at_lit, ix_lit', Option.map_some, List.map_cons, List.map_nil, List.length_cons, List.length_nil, List.length_map, List.cons_append, List.nil_append, List.replicate, List.getElem?_cons_zero, List.getElem?_cons_succ, List.set_cons_zero, List.set_cons_succ, List.set_set, f_isi, f_isiO, f_isiB, v_slL, v_slSl, v_abs, v_max, v_min, v_kF, v_srcL, v_srcS, decide_true, decide_false, ↓reduceIte, Bool.false_eq_true, Bool.true_eq_false, Bool.not_true, Bool.not_false, Nat.reduceAdd, Nat.reduceSub, Nat.reduceLT, hs, hc, hM, v_mod, v_mul, v_div, hF, hG, hH]
theorem head_ok {s : Sto} {n : Nat} {many seed k : Int} {cells : List Int} (hs : s[n]? = some (.lst [.int 0, .int seed, .int k, .lst (cells.map D.int)])) (s0 : 0 ≤ seed) (s1 : seed < 2147483647) (k0 : 0 ≤ k) (kb : k ≤ 1000000000000) (hc : ∀ x ∈ cells, 0 ≤ x) :
    ∃ cell c1 seed1, headB [some (.ref n), some (.int many), none, none, none, none] s = .go .nx [some (.ref n), some (.int many), none, none, some (.int cell), none] (s.set n (.lst [.int c1, .int seed1, .int (k + 1), .lst (cells.map D.int)])) ∧ 0 ≤ c1 ∧ 0 ≤ seed1 ∧ seed1 < 2147483647 := by
  have hn : n < s.length := (List.getElem?_eq_some_iff.mp hs).1
  have m1 : mulOk seed 48271 := mul_ok 40 40 (by omega) (by decide) (by decide) (by decide) (by decide)
  have m2' : mulOk 7919 (k + 1) := mul_ok 40 50 (by decide) (by omega) (by decide) (by decide) (by decide)
  have at3 : atI (cells.map D.int) k = (cells[k.toNat]?).map D.int := by rw [at_nat _ k0, List.getElem?_map]
  have hset : ∀ o : O, (s.set n o)[n]? = some o := fun o => List.getElem?_set_self hn
  unfold headB
  obtain ⟨cell, c0, hcell⟩ : ∃ cell : Int, 0 ≤ cell ∧ ((k < (cells.length : Int) ∧ cells[k.toNat]? = some cell) ∨ (¬ k < (cells.length : Int) ∧ cell = 0)) := by
    by_cases hk : k < (cells.length : Int)
    · have hl : k.toNat < cells.length := by omega
      exact ⟨cells[k.toNat], hc _ (List.getElem_mem hl), .inl ⟨hk, List.getElem?_eq_getElem hl⟩⟩
    · exact ⟨0, by decide, .inr ⟨hk, rfl⟩⟩
  by_cases hbig : 1000000000000000000 ≤ cell
  · refine ⟨cell, cell, (seed * 48271 + cell % 2147483647 + 7919 * (k + 1)) % 2147483647, ?_, c0, Int.emod_nonneg _ (by decide), Int.emod_lt_of_pos _ (by decide)⟩
    rcases hcell with ⟨hk, hce⟩ | ⟨hk, rfl⟩
    · simp (disch := first | assumption | omega | decide) only [e_bnd, ↓e_bok, e_bexc, e_ret, e_nox, ↓e_nok, e_cst, e_yes, e_m2, e_m1, e_tst, e_chn, e_and, e_or, e_not, e_vand, e_vor, e_vnot, e_mif, e_anil, e_acons, e_mC, e_call, e_mM, e_sl, e_ono, e_oso, e_dic1, ↓k_tst, ↓k_chnT, ↓k_chnF, ↓k_andT, ↓k_andF, ↓k_orT, ↓k_orF, ↓k_not, ↓k_oso, ↓k_asg, e_seq, ↓e_snx, ↓e_srt, ↓e_sbk, ↓e_sct, ↓e_lok, e_nxs, e_bks, e_cts, e_ex, e_rt, e_set, e_if, e_par, e_asg, f_setix, f_augix, e_sFor, e_forfix, e_src, e_rng1, e_enum, e_lc, e_cmpfix, f_get, ↓f_oo, ↓f_o1, f_ixR, f_ixO, f_ixL, f_ixSl, f_ixT, f_lenR, f_lenO, f_augR, f_setR, f_setO, f_goO, f_run, ↓f_rt, ↓f_nx, v_lenL, v_lenT, v_lenSl, v_addI, v_addII, v_sub, v_neg, v_eqI, v_eqS, v_eqB, v_neI, v_neS, v_lt, v_le, v_gt, v_ge, at_lit, ix_lit', Option.map_some, List.map_cons, List.map_nil, List.length_cons, List.length_nil, List.length_map, List.cons_append, List.nil_append, List.replicate, List.getElem?_cons_zero, List.getElem?_cons_succ, List.set_cons_zero, List.set_cons_succ, List.set_set, f_isi, f_isiO, f_isiB, v_slL, v_slSl, v_abs, v_max, v_min, v_kF, v_srcL, v_srcS, decide_true, decide_false, ↓reduceIte, Bool.false_eq_true, Bool.true_eq_false, Bool.not_true, Bool.not_false, Nat.reduceAdd, Nat.reduceSub, Nat.reduceLT, hs, hset, hk, at3, hce, hbig, beq_self_eq_true, v_mod, v_mul]
    · exact absurd hbig (by decide)
  · refine ⟨cell, 0, (seed * 48271 + cell % 2147483647 + 7919 * (k + 1)) % 2147483647, ?_, by decide, Int.emod_nonneg _ (by decide), Int.emod_lt_of_pos _ (by decide)⟩
    rcases hcell with ⟨hk, hce⟩ | ⟨hk, rfl⟩
    · simp (disch := first | assumption | omega | decide) only [e_bnd, ↓e_bok, e_bexc, e_ret, e_nox, ↓e_nok, e_cst, e_yes, e_m2, e_m1, e_tst, e_chn, e_and, e_or, e_not, e_vand, e_vor, e_vnot, e_mif, e_anil, e_acons, e_mC, e_call, e_mM, e_sl, e_ono, e_oso, e_dic1, ↓k_tst, ↓k_chnT, ↓k_chnF, ↓k_andT, ↓k_andF, ↓k_orT, ↓k_orF, ↓k_not, ↓k_oso, ↓k_asg, e_seq, ↓e_snx, ↓e_srt, ↓e_sbk, ↓e_sct, ↓e_lok, e_nxs, e_bks, e_cts, e_ex, e_rt, e_set, e_if, e_par, e_asg, f_setix, f_augix, e_sFor, e_forfix, e_src, e_rng1, e_enum, e_lc, e_cmpfix, f_get, ↓f_oo, ↓f_o1, f_ixR, f_ixO, f_ixL, f_ixSl, f_ixT, f_lenR, f_lenO, f_augR, f_setR, f_setO, f_goO, f_run, ↓f_rt, ↓f_nx, v_lenL, v_lenT, v_lenSl, v_addI, v_addII, v_sub, v_neg, v_eqI, v_eqS, v_eqB, v_neI, v_neS, v_lt, v_le, v_gt, v_ge, at_lit, ix_lit', Option.map_some, List.map_cons, List.map_nil, List.length_cons, List.length_nil, List.length_map, List.cons_append, List.nil_append, List.replicate, List.getElem?_cons_zero, List.getElem?_cons_succ, List.set_cons_zero, List.set_cons_succ, List.set_set, f_isi, f_isiO, f_isiB, v_slL, v_slSl, v_abs, v_max, v_min, v_kF, v_srcL, v_srcS, decide_true, decide_false, ↓reduceIte, Bool.false_eq_true, Bool.true_eq_false, Bool.not_true, Bool.not_false, Nat.reduceAdd, Nat.reduceSub, Nat.reduceLT, hs, hset, hk, at3, hce, hbig, beq_self_eq_true, v_mod, v_mul]
    · simp (disch := first | assumption | omega | decide) only [e_bnd, ↓e_bok, e_bexc, e_ret, e_nox, ↓e_nok, e_cst, e_yes, e_m2, e_m1, e_tst, e_chn, e_and, e_or, e_not, e_vand, e_vor, e_vnot, e_mif, e_anil, e_acons, e_mC, e_call, e_mM, e_sl, e_ono, e_oso, e_dic1, ↓k_tst, ↓k_chnT, ↓k_chnF, ↓k_andT, ↓k_andF, ↓k_orT, ↓k_orF, ↓k_not, ↓k_oso, ↓k_asg, e_seq, ↓e_snx, ↓e_srt, ↓e_sbk, ↓e_sct, ↓e_lok, e_nxs, e_bks, e_cts, e_ex, e_rt, e_set, e_if, e_par, e_asg, f_setix, f_augix, e_sFor, e_forfix, e_src, e_rng1, e_enum, e_lc, e_cmpfix, f_get, ↓f_oo, ↓f_o1, f_ixR, f_ixO, f_ixL, f_ixSl, f_ixT, f_lenR, f_lenO, f_augR, f_setR, f_setO, f_goO, f_run, ↓f_rt, ↓f_nx, v_lenL, v_lenT, v_lenSl, v_addI, v_addII, v_sub, v_neg, v_eqI, v_eqS, v_eqB, v_neI, v_neS, v_lt, v_le, v_gt, v_ge, at_lit, ix_lit', Option.map_some, List.map_cons, List.map_nil, List.length_cons, List.length_nil, List.length_map, List.cons_append, List.nil_append, List.replicate, List.getElem?_cons_zero, List.getElem?_cons_succ, List.set_cons_zero, List.set_cons_succ, List.set_set, f_isi, f_isiO, f_isiB, v_slL, v_slSl, v_abs, v_max, v_min, v_kF, v_srcL, v_srcS, decide_true, decide_false, ↓reduceIte, Bool.false_eq_true, Bool.true_eq_false, Bool.not_true, Bool.not_false, Nat.reduceAdd, Nat.reduceSub, Nat.reduceLT, hs, hset, hk, hbig, beq_self_eq_true, v_mod, v_mul]
theorem take_ok {s : Sto} {n b : Nat} {many : Int} (h : Bag s n b) (hb : b ≤ 1000000000000) (hm : 0 < many) (hl : many.natAbs.log2 < 9000) :
    ∃ v o, m_l_take [.ref n, .int many] s = .ok (.int v) (s.set n o) ∧ 0 ≤ v ∧ v < many ∧ Bag (s.set n o) n (b + 1) := by
  obtain ⟨c, seed, k, cells, hs, c0, s0, s1, k0, kb, hc⟩ := h.at'
  have hn : n < s.length := (List.getElem?_eq_some_iff.mp hs).1
  unfold m_l_take
  rw [f_run, take_B]
  simp only [List.map_cons, List.map_nil, List.length_cons, List.length_nil, List.cons_append, List.nil_append, List.replicate, Nat.reduceAdd, Nat.reduceSub]
  rw [e_seq]
  by_cases hc0 : c = 0
  · subst hc0
    obtain ⟨cell, c1, seed1, h1, h2, h3, h4⟩ := head_ok (many := many) hs s0 s1 k0 (by omega) hc
    have hs1 : (s.set n (.lst [.int c1, .int seed1, .int (k + 1), .lst (cells.map D.int)]))[n]? = some (.lst [.int c1, .int seed1, .int (k + 1), .lst (cells.map D.int)]) := List.getElem?_set_self hn
    obtain ⟨v, c', ⟨q1, q2, q3⟩, q4⟩ := tail_ok (some (.int cell)) hs1 h2 h3 h4 hm hl
    rw [h1, e_snx, q4, List.set_set]
    exact ⟨v, _, rfl, q1, q2, ⟨c', seed1, k + 1, cells, List.getElem?_set_self hn, q3, h3, h4, by omega, by omega, hc⟩⟩
  · have hcb : (c == 0) = false := beq_eq_false_iff_ne.mpr hc0
    obtain ⟨v, c', ⟨q1, q2, q3⟩, q4⟩ := tail_ok none hs c0 s0 s1 hm hl
    have h1 : headB [some (.ref n), some (.int many), none, none, none, none] s = .go .nx [some (.ref n), some (.int many), none, none, none, none] s := by
      unfold headB
      simp (disch := first | assumption | omega | decide) only [e_bnd, ↓e_bok, e_bexc, e_ret, e_nox, ↓e_nok, e_cst, e_yes, e_m2, e_m1, e_tst, e_chn, e_and, e_or, e_not, e_vand, e_vor, e_vnot, e_mif, e_anil, e_acons, e_mC, e_call, e_mM, e_sl, e_ono, e_oso, e_dic1, ↓k_tst, ↓k_chnT, ↓k_chnF, ↓k_andT, ↓k_andF, ↓k_orT, ↓k_orF, ↓k_not, ↓k_oso, ↓k_asg, e_seq, ↓e_snx, ↓e_srt, ↓e_sbk, ↓e_sct, ↓e_lok, e_nxs, e_bks, e_cts, e_ex, e_rt, e_set, e_if, e_par, e_asg, f_setix, f_augix, e_sFor, e_forfix, e_src, e_rng1, e_enum, e_lc, e_cmpfix, f_get, ↓f_oo, ↓f_o1, f_ixR, f_ixO, f_ixL, f_ixSl, f_ixT, f_lenR, f_lenO, f_augR, f_setR, f_setO, f_goO, f_run, ↓f_rt, ↓f_nx, v_lenL, v_lenT, v_lenSl, v_addI, v_addII, v_sub, v_neg, v_eqI, v_eqS, v_eqB, v_neI, v_neS, v_lt, v_le, v_gt, v_ge, at_lit, ix_lit', Option.map_some, List.map_cons, List.map_nil, List.length_cons, List.length_nil, List.length_map, List.cons_append, List.nil_append, List.replicate, List.getElem?_cons_zero, List.getElem?_cons_succ, List.set_cons_zero, List.set_cons_succ, List.set_set, f_isi, f_isiO, f_isiB, v_slL, v_slSl, v_abs, v_max, v_min, v_kF, v_srcL, v_srcS, decide_true, decide_false, ↓reduceIte, Bool.false_eq_true, Bool.true_eq_false, Bool.not_true, Bool.not_false, Nat.reduceAdd, Nat.reduceSub, Nat.reduceLT, hs, hcb]
    rw [h1, e_snx, q4]
    exact ⟨v, _, rfl, q1, q2, ⟨c', seed, k, cells, List.getElem?_set_self hn, q3, s0, s1, k0, by omega, hc⟩⟩

theorem bag_ok (ns : List Int) (s : Sto) : ∃ o, m_l_bag [.sls (ns.map D.int)] s = .ok (.ref s.length) (s ++ [o]) ∧ Bag (s ++ [o]) s.length 0 := by
  let cells : List Int := (ns.take 63).map fun i => if i < 0 then -i else i
  have hcut : cutD (ns.map D.int) none (some 63) = (ns.take 63).map D.int := by
    unfold cutD
    rw [HT.sIx_none, show HT.sIx (ns.map D.int).length (ns.map D.int).length (some 63) = min 63 (ns.map D.int).length from HT.sIx_nat _ _ 63, List.drop_zero, Nat.sub_zero, ← List.map_take]
    congr 1
    rw [List.length_map]
    by_cases h : 63 ≤ ns.length
    · rw [Nat.min_eq_left h]
    · rw [Nat.min_eq_right (by omega), List.take_length, List.take_of_length_le (by omega)]
  have hc : cmpL (tNm 1) yes (mC cAbs (aCons (vGet 1) aNil)) (wipeD [some (.sls (ns.map D.int)), none] [1]) ((ns.take 63).map D.int) [] s = .ok (cells.map D.int) s := by
    rw [cmpL_map (h := fun d => match d with | .int i => .int (if i < 0 then -i else i) | d => d) s]
    · rw [List.nil_append, List.map_map, List.map_map]; rfl
    · rw [List.length_nil, List.length_map, List.length_take]; exact lim_of (by omega)
    · intro d hd
      obtain ⟨i, _, rfl⟩ := List.mem_map.mp hd
      refine ⟨_, rfl, ?_⟩
      simp only [e_bnd, ↓e_bok, e_bexc, e_ret, e_nox, ↓e_nok, e_cst, e_yes, e_m2, e_m1, e_tst, e_chn, e_and, e_or, e_not, e_vand, e_vor, e_vnot, e_mif, e_anil, e_acons, e_mC, e_call, e_mM, e_sl, e_ono, e_oso, e_dic1, ↓k_tst, ↓k_chnT, ↓k_chnF, ↓k_andT, ↓k_andF, ↓k_orT, ↓k_orF, ↓k_not, ↓k_oso, ↓k_asg, e_seq, ↓e_snx, ↓e_srt, ↓e_sbk, ↓e_sct, ↓e_lok, e_nxs, e_bks, e_cts, e_ex, e_rt, e_set, e_if, e_par, e_asg, f_setix, f_augix, e_sFor, e_forfix, e_src, e_rng1, e_enum, e_lc, e_cmpfix, f_get, ↓f_oo, ↓f_o1, f_ixR, f_ixO, f_ixL, f_ixSl, f_ixT, f_lenR, f_lenO, f_augR, f_setR, f_setO, f_goO, f_run, ↓f_rt, ↓f_nx, v_lenL, v_lenT, v_lenSl, v_addI, v_addII, v_sub, v_neg, v_eqI, v_eqS, v_eqB, v_neI, v_neS, v_lt, v_le, v_gt, v_ge, at_lit, ix_lit', Option.map_some, List.map_cons, List.map_nil, List.length_cons, List.length_nil, List.length_map, List.cons_append, List.nil_append, List.replicate, List.getElem?_cons_zero, List.getElem?_cons_succ, List.set_cons_zero, List.set_cons_succ, List.set_set, f_isi, f_isiO, f_isiB, v_slL, v_slSl, v_abs, v_max, v_min, v_kF, v_srcL, v_srcS, decide_true, decide_false, ↓reduceIte, Bool.false_eq_true, Bool.true_eq_false, Bool.not_true, Bool.not_false, Nat.reduceAdd, Nat.reduceSub, Nat.reduceLT, wipeD]
  refine ⟨.lst [.int 0, .int 1234567891, .int 0, .lst (cells.map D.int)], ?_, ⟨0, 1234567891, 0, cells, by simp, by decide, by decide, by decide, by decide, by decide, fun x hx => ?_⟩⟩
  · simp (disch := first | assumption | exact lim_of (by simp only [List.length_cons, List.length_nil, Nat.reduceAdd, Nat.reduceLeDiff])) only [m_l_bag, B_l_bag, S_l_bag_1, E_l_bag_1_30, e_bnd, ↓e_bok, e_bexc, e_ret, e_nox, ↓e_nok, e_cst, e_yes, e_m2, e_m1, e_tst, e_chn, e_and, e_or, e_not, e_vand, e_vor, e_vnot, e_mif, e_anil, e_acons, e_mC, e_call, e_mM, e_sl, e_ono, e_oso, e_dic1, ↓k_tst, ↓k_chnT, ↓k_chnF, ↓k_andT, ↓k_andF, ↓k_orT, ↓k_orF, ↓k_not, ↓k_oso, ↓k_asg, e_seq, ↓e_snx, ↓e_srt, ↓e_sbk, ↓e_sct, ↓e_lok, e_nxs, e_bks, e_cts, e_ex, e_rt, e_set, e_if, e_par, e_asg, f_setix, f_augix, e_sFor, e_forfix, e_src, e_rng1, e_enum, e_lc, e_cmpfix, f_get, ↓f_oo, ↓f_o1, f_ixR, f_ixO, f_ixL, f_ixSl, f_ixT, f_lenR, f_lenO, f_augR, f_setR, f_setO, f_goO, f_run, ↓f_rt, ↓f_nx, v_lenL, v_lenT, v_lenSl, v_addI, v_addII, v_sub, v_neg, v_eqI, v_eqS, v_eqB, v_neI, v_neS, v_lt, v_le, v_gt, v_ge, at_lit, ix_lit', Option.map_some, List.map_cons, List.map_nil, List.length_cons, List.length_nil, List.length_map, List.cons_append, List.nil_append, List.replicate, List.getElem?_cons_zero, List.getElem?_cons_succ, List.set_cons_zero, List.set_cons_succ, List.set_set, f_isi, f_isiO, f_isiB, v_slL, v_slSl, v_abs, v_max, v_min, v_kF, v_srcL, v_srcS, decide_true, decide_false, ↓reduceIte, Bool.false_eq_true, Bool.true_eq_false, Bool.not_true, Bool.not_false, Nat.reduceAdd, Nat.reduceSub, Nat.reduceLT, hcut, hc, v_kLstS]
  · obtain ⟨i, _, rfl⟩ := List.mem_map.mp hx
    show 0 ≤ (if i < 0 then -i else i)
    split <;> omega
/-- what the draws keep: the bag, and all else of the store -/
structure Kp (s0 s : Sto) (n b : Nat) : Prop where
  bag : Bag s n b
  out : ∀ i, i ≠ n → s[i]? = s0[i]?
  len : s.length = s0.length
theorem Kp.refl {s : Sto} {n b : Nat} (h : Bag s n b) : Kp s s n b := ⟨h, fun _ _ => rfl, rfl⟩
theorem Kp.trans {s0 s1 s2 : Sto} {n b c : Nat} (h : Kp s0 s1 n b) (h' : Kp s1 s2 n c) : Kp s0 s2 n c := ⟨h'.bag, fun i hi => (h'.out i hi).trans (h.out i hi), h'.len.trans h.len⟩
theorem Bag.more {s : Sto} {n b c : Nat} (h : Bag s n b) (hc : b ≤ c) : Bag s n c := by
  obtain ⟨x, y, k, z, h1, h2, h3, h4, h5, h6, h7⟩ := h.at'
  exact ⟨x, y, k, z, h1, h2, h3, h4, h5, by omega, h7⟩
theorem Kp.more {s0 s : Sto} {n b c : Nat} (h : Kp s0 s n b) (hc : b ≤ c) : Kp s0 s n c := ⟨h.bag.more hc, h.out, h.len⟩
theorem take_kp {s0 s : Sto} {n b : Nat} (many : Int) (h : Kp s0 s n b) (hb : b ≤ 1000000000000) (hm : 0 < many) (hl : many.natAbs.log2 < 9000) :
    ∃ v s1, m_l_take [.ref n, .int many] s = .ok (.int v) s1 ∧ 0 ≤ v ∧ v < many ∧ Kp s0 s1 n (b + 1) := by
  obtain ⟨v, o, h1, h2, h3, h4⟩ := take_ok h.bag hb hm hl
  exact ⟨v, _, h1, h2, h3, ⟨h4, fun i hi => (List.getElem?_set_ne (Ne.symm hi)).trans (h.out i hi), by rw [List.length_set]; exact h.len⟩⟩

/-! ### lanes: the least value and the drift -/
def Ln (l h : Int) : O := .ins "Lane" [("low", .int l), ("shift", .int h)]
abbrev LnV (p : Int × Int) : D := .ins "Lane" [("low", .int p.1), ("shift", .int p.2)]
def rw2 (r : Int × Int) : D := .tup [.int r.1, .int r.2]
def lstep (p r : Int × Int) : Int × Int := (max 0 (p.1 + r.1 - r.2), p.2 + r.1 - r.2)
def lfold (rows : List (Int × Int)) : Int × Int := rows.foldl lstep (0, 0)
def lv (p : Int × Int) : Prop := 0 ≤ p.1 ∧ p.2 ≤ p.1
theorem lstep_v {p r : Int × Int} (h : lv p) : lv (lstep p r) := by unfold lv lstep at *; simp only; omega
theorem lfold_v' : ∀ (rows : List (Int × Int)) (p : Int × Int), lv p → lv (rows.foldl lstep p)
  | [], p, h => h
  | r :: rows, p, h => lfold_v' rows _ (lstep_v h)
theorem lfold_v (rows : List (Int × Int)) : lv (lfold rows) := lfold_v' rows _ ⟨by decide, by decide⟩
section
variable {s : Sto} {l h : Int}
def asg2B : SM := (sAsgH (hTup 2 (hsCns (hFld ["Lane"] "low" (vGet 0)) (hsCns (hFld ["Lane"] "shift" (vGet 0)) hsNil))) (fun σ => bnd ((aCons (vGet 2) (aCons (vGet 3) aNil)) σ) kTup))
theorem asg2_ok {n : Nat} {c1 c4 c5 : Option D} (hs : s[n]? = some (.ins "Lane" [])) : asg2B [some (.ref n), c1, some (.int l), some (.int h), c4, c5] s = .go .nx [some (.ref n), c1, some (.int l), some (.int h), c4, c5] (s.set n (Ln l h)) := by
  have hn : n < s.length := (List.getElem?_eq_some_iff.mp hs).1
  have e1 : ∀ d : D, putAt ["Lane"] "low" (.ref n) d s = some (s.set n (.ins "Lane" [("low", d)])) := fun d => by
    unfold putAt insAt
    simp only [hs]
    rw [if_pos ⟨by decide +kernel, by decide⟩]
    rfl
  have e2 : ∀ d d' : D, putAt ["Lane"] "shift" (.ref n) d' (s.set n (.ins "Lane" [("low", d)])) = some (s.set n (.ins "Lane" [("low", d), ("shift", d')])) := fun d d' => by
    unfold putAt insAt
    simp only [List.getElem?_set_self hn]
    rw [if_pos ⟨by decide +kernel, by show 1 < 900; decide⟩, List.set_set]
    unfold putD
    rw [if_neg (by decide +kernel)]
    rfl
  unfold asg2B
  simp only [e_bnd, ↓e_bok, e_bexc, e_ret, e_nox, ↓e_nok, e_cst, e_yes, e_m2, e_m1, e_tst, e_chn, e_and, e_or, e_not, e_vand, e_vor, e_vnot, e_mif, e_anil, e_acons, e_mC, e_call, e_mM, e_sl, e_ono, e_oso, e_dic1, ↓k_tst, ↓k_chnT, ↓k_chnF, ↓k_andT, ↓k_andF, ↓k_orT, ↓k_orF, ↓k_not, ↓k_oso, ↓k_asg, e_seq, ↓e_snx, ↓e_srt, ↓e_sbk, ↓e_sct, ↓e_lok, e_nxs, e_bks, e_cts, e_ex, e_rt, e_set, e_if, e_par, e_asg, f_setix, f_augix, e_sFor, e_forfix, e_src, e_rng1, e_enum, e_lc, e_cmpfix, f_get, ↓f_oo, ↓f_o1, f_ixR, f_ixO, f_ixL, f_ixSl, f_ixT, f_lenR, f_lenO, f_augR, f_setR, f_setO, f_goO, f_run, ↓f_rt, ↓f_nx, v_lenL, v_lenT, v_lenSl, v_addI, v_addII, v_sub, v_neg, v_eqI, v_eqS, v_eqB, v_neI, v_neS, v_lt, v_le, v_gt, v_ge, at_lit, ix_lit', Option.map_some, List.map_cons, List.map_nil, List.length_cons, List.length_nil, List.length_map, List.cons_append, List.nil_append, List.replicate, List.getElem?_cons_zero, List.getElem?_cons_succ, List.set_cons_zero, List.set_cons_succ, List.set_set, f_isi, f_isiO, f_isiB, v_slL, v_slSl, v_abs, v_max, v_min, v_kF, v_srcL, v_srcS, decide_true, decide_false, ↓reduceIte, Bool.false_eq_true, Bool.true_eq_false, Bool.not_true, Bool.not_false, Nat.reduceAdd, Nat.reduceSub, Nat.reduceLT, ↓u_oS, u_mul, u_mulS, u_div, u_mod, u_addS, u_addL, u_slS, u_ixS, u_lenS, u_str, u_kLst, u_kTup, u_kLstS, u_rng, u_upper, u_tNm, u_tTup, u_tNil, u_tCns, ↓u_tcR, f_isTS, wipeD, beq_self_eq_true, and_self, true_and, and_true, Int.reduceLT, Nat.reduceLeDiff, Int.reduceLE, Int.reduceNeg, Int.reduceToNat, Int.reduceAdd, g_src, ↓g_srcO, g_enu, ↓g_enuO, g_isT, ↓g_isTO, g_app, ↓g_appO, g_rev, ↓g_revO, g_lis, ↓g_lisO, g_kS, g_LR, g_kLR, h_fld, h_prop, h_meth, h_callO, h_mk, h_isi, h_gfld, h_gprop, h_alt, h_gisi, h_both, h_isC, h_kMeth, ↓h_methR, h_kCallO, h_own, h_ownNe, ↓h_notR, h_arN, h_tLst, h_asgH, h_srcT, h_max, h_min, e_fz, e_fzF, f_aug, ↓f_augK, h_mkS, k_mkS, k_mkST, e_fmt, e_js, k_js, e_js0, q_callK, q_strO, q_reprO, q_isCint, q_isCbl, q_isCstr, q_isCtup, q_isClst, q_isCnon, q_intB, q_intI, u_lim, hTup, hsCns, hFld, stGo, e1, e2, hsNil, nxO]
  rfl
abbrev initB : SM := (sSeq (sSet 2 (mC cMax (aCons (cst (.int 0)) (aCons (m2 dSub (m2 dAdd (vGet 2) (vGet 4)) (vGet 5)) aNil))))
  (sSet 3 (m2 dSub (m2 dAdd (vGet 3) (vGet 4)) (vGet 5))))
theorem init_B : B_Lane_init = (sSeq (sAsg (tTup (tCns (tNm 2) (tCns (tNm 3) tNil))) (fun σ => bnd ((aCons (cst (.int 0)) (aCons (cst (.int 0)) aNil)) σ) kTup))
  (sSeq (sFor (mSrc (vGet 1)) (tTup (tCns (tNm 4) (tCns (tNm 5) tNil))) initB) asg2B)) := rfl
theorem init_ok {n : Nat} (rows : List (Int × Int)) (hs : s[n]? = some (.ins "Lane" [])) : m_Lane_init [.ref n, .tup (rows.map rw2)] s = .ok .non (s.set n (Ln (lfold rows).1 (lfold rows).2)) := by
  obtain ⟨σ2, s2, f1, c4, c5, f2, f3⟩ := forL_fold (body := bdy (tTup (tCns (tNm 4) (tCns (tNm 5) tNil))) initB) rw2 lstep (fun b σ' s' => ∃ c4 c5, σ' = [some (.ref n), some (.tup (rows.map rw2)), some (.int b.1), some (.int b.2), c4, c5] ∧ s' = s)
    rows (0, 0) [some (.ref n), some (.tup (rows.map rw2)), some (.int 0), some (.int 0), none, none] s ⟨none, none, rfl, rfl⟩ (by
      rintro ⟨a, b⟩ _ ⟨x, y⟩ σ' s' ⟨c4, c5, rfl, rfl⟩
      refine ⟨_, _, ?_, some (.int a), some (.int b), rfl, rfl⟩
      rw [e_bdy _ _ _ (show tTup (tCns (tNm 4) (tCns (tNm 5) tNil)) (rw2 (a, b)) _ = some _ from rfl)]
      simp only [e_bnd, ↓e_bok, e_bexc, e_ret, e_nox, ↓e_nok, e_cst, e_yes, e_m2, e_m1, e_tst, e_chn, e_and, e_or, e_not, e_vand, e_vor, e_vnot, e_mif, e_anil, e_acons, e_mC, e_call, e_mM, e_sl, e_ono, e_oso, e_dic1, ↓k_tst, ↓k_chnT, ↓k_chnF, ↓k_andT, ↓k_andF, ↓k_orT, ↓k_orF, ↓k_not, ↓k_oso, ↓k_asg, e_seq, ↓e_snx, ↓e_srt, ↓e_sbk, ↓e_sct, ↓e_lok, e_nxs, e_bks, e_cts, e_ex, e_rt, e_set, e_if, e_par, e_asg, f_setix, f_augix, e_sFor, e_forfix, e_src, e_rng1, e_enum, e_lc, e_cmpfix, f_get, ↓f_oo, ↓f_o1, f_ixR, f_ixO, f_ixL, f_ixSl, f_ixT, f_lenR, f_lenO, f_augR, f_setR, f_setO, f_goO, f_run, ↓f_rt, ↓f_nx, v_lenL, v_lenT, v_lenSl, v_addI, v_addII, v_sub, v_neg, v_eqI, v_eqS, v_eqB, v_neI, v_neS, v_lt, v_le, v_gt, v_ge, at_lit, ix_lit', Option.map_some, List.map_cons, List.map_nil, List.length_cons, List.length_nil, List.length_map, List.cons_append, List.nil_append, List.replicate, List.getElem?_cons_zero, List.getElem?_cons_succ, List.set_cons_zero, List.set_cons_succ, List.set_set, f_isi, f_isiO, f_isiB, v_slL, v_slSl, v_abs, v_max, v_min, v_kF, v_srcL, v_srcS, decide_true, decide_false, ↓reduceIte, Bool.false_eq_true, Bool.true_eq_false, Bool.not_true, Bool.not_false, Nat.reduceAdd, Nat.reduceSub, Nat.reduceLT, ↓u_oS, u_mul, u_mulS, u_div, u_mod, u_addS, u_addL, u_slS, u_ixS, u_lenS, u_str, u_kLst, u_kTup, u_kLstS, u_rng, u_upper, u_tNm, u_tTup, u_tNil, u_tCns, ↓u_tcR, f_isTS, wipeD, beq_self_eq_true, and_self, true_and, and_true, Int.reduceLT, Nat.reduceLeDiff, Int.reduceLE, Int.reduceNeg, Int.reduceToNat, Int.reduceAdd, g_src, ↓g_srcO, g_enu, ↓g_enuO, g_isT, ↓g_isTO, g_app, ↓g_appO, g_rev, ↓g_revO, g_lis, ↓g_lisO, g_kS, g_LR, g_kLR, h_fld, h_prop, h_meth, h_callO, h_mk, h_isi, h_gfld, h_gprop, h_alt, h_gisi, h_both, h_isC, h_kMeth, ↓h_methR, h_kCallO, h_own, h_ownNe, ↓h_notR, h_arN, h_tLst, h_asgH, h_srcT, h_max, h_min, e_fz, e_fzF, f_aug, ↓f_augK, h_mkS, k_mkS, k_mkST, e_fmt, e_js, k_js, e_js0, q_callK, q_strO, q_reprO, q_isCint, q_isCbl, q_isCstr, q_isCtup, q_isClst, q_isCnon, q_intB, q_intI, lstep])
  subst f2 f3
  have h2 := asg2_ok (l := (lfold rows).1) (h := (lfold rows).2) (c1 := some (.tup (rows.map rw2))) (c4 := c4) (c5 := c5) hs
  have f1' : forL (bdy (tTup (tCns (tNm 4) (tCns (tNm 5) tNil))) initB) (rows.map rw2) [some (.ref n), some (.tup (rows.map rw2)), some (.int 0), some (.int 0), none, none] s2 = .go .nx [some (.ref n), some (.tup (rows.map rw2)), some (.int (lfold rows).1), some (.int (lfold rows).2), c4, c5] s2 := f1
  unfold m_Lane_init
  rw [init_B]
  simp only [e_bnd, ↓e_bok, e_bexc, e_ret, e_nox, ↓e_nok, e_cst, e_yes, e_m2, e_m1, e_tst, e_chn, e_and, e_or, e_not, e_vand, e_vor, e_vnot, e_mif, e_anil, e_acons, e_mC, e_call, e_mM, e_sl, e_ono, e_oso, e_dic1, ↓k_tst, ↓k_chnT, ↓k_chnF, ↓k_andT, ↓k_andF, ↓k_orT, ↓k_orF, ↓k_not, ↓k_oso, ↓k_asg, e_seq, ↓e_snx, ↓e_srt, ↓e_sbk, ↓e_sct, ↓e_lok, e_nxs, e_bks, e_cts, e_ex, e_rt, e_set, e_if, e_par, e_asg, f_setix, f_augix, e_sFor, e_forfix, e_src, e_rng1, e_enum, e_lc, e_cmpfix, f_get, ↓f_oo, ↓f_o1, f_ixR, f_ixO, f_ixL, f_ixSl, f_ixT, f_lenR, f_lenO, f_augR, f_setR, f_setO, f_goO, f_run, ↓f_rt, ↓f_nx, v_lenL, v_lenT, v_lenSl, v_addI, v_addII, v_sub, v_neg, v_eqI, v_eqS, v_eqB, v_neI, v_neS, v_lt, v_le, v_gt, v_ge, at_lit, ix_lit', Option.map_some, List.map_cons, List.map_nil, List.length_cons, List.length_nil, List.length_map, List.cons_append, List.nil_append, List.replicate, List.getElem?_cons_zero, List.getElem?_cons_succ, List.set_cons_zero, List.set_cons_succ, List.set_set, f_isi, f_isiO, f_isiB, v_slL, v_slSl, v_abs, v_max, v_min, v_kF, v_srcL, v_srcS, decide_true, decide_false, ↓reduceIte, Bool.false_eq_true, Bool.true_eq_false, Bool.not_true, Bool.not_false, Nat.reduceAdd, Nat.reduceSub, Nat.reduceLT, ↓u_oS, u_mul, u_mulS, u_div, u_mod, u_addS, u_addL, u_slS, u_ixS, u_lenS, u_str, u_kLst, u_kTup, u_kLstS, u_rng, u_upper, u_tNm, u_tTup, u_tNil, u_tCns, ↓u_tcR, f_isTS, wipeD, beq_self_eq_true, and_self, true_and, and_true, Int.reduceLT, Nat.reduceLeDiff, Int.reduceLE, Int.reduceNeg, Int.reduceToNat, Int.reduceAdd, g_src, ↓g_srcO, g_enu, ↓g_enuO, g_isT, ↓g_isTO, g_app, ↓g_appO, g_rev, ↓g_revO, g_lis, ↓g_lisO, g_kS, g_LR, g_kLR, h_fld, h_prop, h_meth, h_callO, h_mk, h_isi, h_gfld, h_gprop, h_alt, h_gisi, h_both, h_isC, h_kMeth, ↓h_methR, h_kCallO, h_own, h_ownNe, ↓h_notR, h_arN, h_tLst, h_asgH, h_srcT, h_max, h_min, e_fz, e_fzF, f_aug, ↓f_augK, h_mkS, k_mkS, k_mkST, e_fmt, e_js, k_js, e_js0, q_callK, q_strO, q_reprO, q_isCint, q_isCbl, q_isCstr, q_isCtup, q_isClst, q_isCnon, q_intB, q_intI, u_lim, f1', h2]
theorem mk_ok (rows : List (Int × Int)) (hl : rows.length ≤ 999999) : mMk "Lane" (starF 1 m_Lane_init) (rows.map rw2) s = .ok (.ref s.length) (s ++ [Ln (lfold rows).1 (lfold rows).2]) := by
  unfold mMk starF
  have hz : 1 ≤ (D.ref s.length :: rows.map rw2).length ∧ (D.ref s.length :: rows.map rw2).length ≤ lim := by
    rw [List.length_cons, List.length_map]
    exact ⟨by omega, lim_of (by omega)⟩
  rw [if_pos hz]
  have e : (D.ref s.length :: rows.map rw2).take 1 ++ [D.tup ((D.ref s.length :: rows.map rw2).drop 1)] = [.ref s.length, .tup (rows.map rw2)] := rfl
  rw [e, init_ok (n := s.length) rows (by simp)]
  simp only [mkR, set_end]
/-- a Lane made: plain data -/
theorem mkF (rows : List (Int × Int)) (hl : rows.length ≤ 999999) : frzR s (mMk "Lane" (starF 1 m_Lane_init) (rows.map rw2) s) = .ok (LnV (lfold rows)) s := by
  rw [mk_ok rows hl]
  unfold Ln
  rw [frz_ins (n := 1) (keeps_app s _) (Nat.le_refl _) (at_end s _) (fun x hx => ?_) (by decide), take_app]
  rcases List.mem_cons.mp hx with rfl | hx
  · exact .int _
  · rcases List.mem_cons.mp hx with rfl | hx
    · exact .int _
    · cases hx
theorem mkF0 : frzR s (mMk "Lane" (starF 1 m_Lane_init) [] s) = .ok (LnV (0, 0)) s := mkF [] (by decide)
def one (r : Int × Int) : Int × Int := (max 0 (r.1 - r.2), r.1 - r.2)
theorem one_v (r : Int × Int) : lv (one r) := by unfold lv one; simp only; omega
theorem mkF1 (r : Int × Int) : frzR s (mMk "Lane" (starF 1 m_Lane_init) [rw2 r] s) = .ok (LnV (one r)) s := by
  have h := mkF (s := s) [r] (by show 1 ≤ 999999; decide)
  simp only [lfold, List.foldl, lstep, Int.zero_add] at h
  exact h
theorem laneof_ok (h0 : 0 ≤ l) (h1 : h ≤ l) : m_lane_of [.int l, .int h] s = .ok (LnV (l, h)) s := by
  have hm := mkF (s := s) [(0, l - h), (l, 0)] (by show 2 ≤ 999999; decide)
  simp only [lfold, List.foldl, lstep] at hm
  have e1 : max 0 (max 0 (0 + 0 - (l - h)) + l - 0) = l := by omega
  have e2 : 0 + 0 - (l - h) + l - 0 = h := by omega
  rw [e1, e2] at hm
  have hm' : frzR s (mMk "Lane" (starF 1 m_Lane_init) [.tup [.int 0, .int (l - h)], .tup [.int l, .int 0]] s) = .ok (LnV (l, h)) s := hm
  simp only [m_lane_of, B_lane_of, S_lane_of_1, e_bnd, ↓e_bok, e_bexc, e_ret, e_nox, ↓e_nok, e_cst, e_yes, e_m2, e_m1, e_tst, e_chn, e_and, e_or, e_not, e_vand, e_vor, e_vnot, e_mif, e_anil, e_acons, e_mC, e_call, e_mM, e_sl, e_ono, e_oso, e_dic1, ↓k_tst, ↓k_chnT, ↓k_chnF, ↓k_andT, ↓k_andF, ↓k_orT, ↓k_orF, ↓k_not, ↓k_oso, ↓k_asg, e_seq, ↓e_snx, ↓e_srt, ↓e_sbk, ↓e_sct, ↓e_lok, e_nxs, e_bks, e_cts, e_ex, e_rt, e_set, e_if, e_par, e_asg, f_setix, f_augix, e_sFor, e_forfix, e_src, e_rng1, e_enum, e_lc, e_cmpfix, f_get, ↓f_oo, ↓f_o1, f_ixR, f_ixO, f_ixL, f_ixSl, f_ixT, f_lenR, f_lenO, f_augR, f_setR, f_setO, f_goO, f_run, ↓f_rt, ↓f_nx, v_lenL, v_lenT, v_lenSl, v_addI, v_addII, v_sub, v_neg, v_eqI, v_eqS, v_eqB, v_neI, v_neS, v_lt, v_le, v_gt, v_ge, at_lit, ix_lit', Option.map_some, List.map_cons, List.map_nil, List.length_cons, List.length_nil, List.length_map, List.cons_append, List.nil_append, List.replicate, List.getElem?_cons_zero, List.getElem?_cons_succ, List.set_cons_zero, List.set_cons_succ, List.set_set, f_isi, f_isiO, f_isiB, v_slL, v_slSl, v_abs, v_max, v_min, v_kF, v_srcL, v_srcS, decide_true, decide_false, ↓reduceIte, Bool.false_eq_true, Bool.true_eq_false, Bool.not_true, Bool.not_false, Nat.reduceAdd, Nat.reduceSub, Nat.reduceLT, ↓u_oS, u_mul, u_mulS, u_div, u_mod, u_addS, u_addL, u_slS, u_ixS, u_lenS, u_str, u_kLst, u_kTup, u_kLstS, u_rng, u_upper, u_tNm, u_tTup, u_tNil, u_tCns, ↓u_tcR, f_isTS, wipeD, beq_self_eq_true, and_self, true_and, and_true, Int.reduceLT, Nat.reduceLeDiff, Int.reduceLE, Int.reduceNeg, Int.reduceToNat, Int.reduceAdd, g_src, ↓g_srcO, g_enu, ↓g_enuO, g_isT, ↓g_isTO, g_app, ↓g_appO, g_rev, ↓g_revO, g_lis, ↓g_lisO, g_kS, g_LR, g_kLR, h_fld, h_prop, h_meth, h_callO, h_mk, h_isi, h_gfld, h_gprop, h_alt, h_gisi, h_both, h_isC, h_kMeth, ↓h_methR, h_kCallO, h_own, h_ownNe, ↓h_notR, h_arN, h_tLst, h_asgH, h_srcT, h_max, h_min, e_fz, e_fzF, f_aug, ↓f_augK, h_mkS, k_mkS, k_mkST, e_fmt, e_js, k_js, e_js0, q_callK, q_strO, q_reprO, q_isCint, q_isCbl, q_isCstr, q_isCtup, q_isClst, q_isCnon, q_intB, q_intI, u_lim, hm']
def mulP (p q : Int × Int) : Int × Int := (max q.1 (p.1 + q.2), p.2 + q.2)
theorem mulP_v {p q : Int × Int} (h1 : lv p) (h2 : lv q) : lv (mulP p q) := by unfold lv mulP at *; simp only; omega
theorem mul_F {p q : Int × Int} (v1 : lv p) (v2 : lv q) : m_Lane_mul [LnV p, LnV q] s = .ok (LnV (mulP p q)) s := by
  have v := mulP_v v1 v2
  have h := laneof_ok (s := s) v.1 v.2
  unfold mulP at h
  simp only [m_Lane_mul, B_Lane_mul, S_Lane_mul_1, e_bnd, ↓e_bok, e_bexc, e_ret, e_nox, ↓e_nok, e_cst, e_yes, e_m2, e_m1, e_tst, e_chn, e_and, e_or, e_not, e_vand, e_vor, e_vnot, e_mif, e_anil, e_acons, e_mC, e_call, e_mM, e_sl, e_ono, e_oso, e_dic1, ↓k_tst, ↓k_chnT, ↓k_chnF, ↓k_andT, ↓k_andF, ↓k_orT, ↓k_orF, ↓k_not, ↓k_oso, ↓k_asg, e_seq, ↓e_snx, ↓e_srt, ↓e_sbk, ↓e_sct, ↓e_lok, e_nxs, e_bks, e_cts, e_ex, e_rt, e_set, e_if, e_par, e_asg, f_setix, f_augix, e_sFor, e_forfix, e_src, e_rng1, e_enum, e_lc, e_cmpfix, f_get, ↓f_oo, ↓f_o1, f_ixR, f_ixO, f_ixL, f_ixSl, f_ixT, f_lenR, f_lenO, f_augR, f_setR, f_setO, f_goO, f_run, ↓f_rt, ↓f_nx, v_lenL, v_lenT, v_lenSl, v_addI, v_addII, v_sub, v_neg, v_eqI, v_eqS, v_eqB, v_neI, v_neS, v_lt, v_le, v_gt, v_ge, at_lit, ix_lit', Option.map_some, List.map_cons, List.map_nil, List.length_cons, List.length_nil, List.length_map, List.cons_append, List.nil_append, List.replicate, List.getElem?_cons_zero, List.getElem?_cons_succ, List.set_cons_zero, List.set_cons_succ, List.set_set, f_isi, f_isiO, f_isiB, v_slL, v_slSl, v_abs, v_max, v_min, v_kF, v_srcL, v_srcS, decide_true, decide_false, ↓reduceIte, Bool.false_eq_true, Bool.true_eq_false, Bool.not_true, Bool.not_false, Nat.reduceAdd, Nat.reduceSub, Nat.reduceLT, ↓u_oS, u_mul, u_mulS, u_div, u_mod, u_addS, u_addL, u_slS, u_ixS, u_lenS, u_str, u_kLst, u_kTup, u_kLstS, u_rng, u_upper, u_tNm, u_tTup, u_tNil, u_tCns, ↓u_tcR, f_isTS, wipeD, beq_self_eq_true, and_self, true_and, and_true, Int.reduceLT, Nat.reduceLeDiff, Int.reduceLE, Int.reduceNeg, Int.reduceToNat, Int.reduceAdd, g_src, ↓g_srcO, g_enu, ↓g_enuO, g_isT, ↓g_isTO, g_app, ↓g_appO, g_rev, ↓g_revO, g_lis, ↓g_lisO, g_kS, g_LR, g_kLR, h_fld, h_prop, h_meth, h_callO, h_mk, h_isi, h_gfld, h_gprop, h_alt, h_gisi, h_both, h_isC, h_kMeth, ↓h_methR, h_kCallO, h_own, h_ownNe, ↓h_notR, h_arN, h_tLst, h_asgH, h_srcT, h_max, h_min, e_fz, e_fzF, f_aug, ↓f_augK, h_mkS, k_mkS, k_mkST, e_fmt, e_js, k_js, e_js0, q_callK, q_strO, q_reprO, q_isCint, q_isCbl, q_isCstr, q_isCtup, q_isClst, q_isCnon, q_intB, q_intI, u_lim, fd_Lane_low, fd_Lane_shift, pr_Lane_drift, pr_Lane_least, is_Lane_11099, bo_Lane, ic_Lane, h, mulP]
theorem own_mul {p q : Int × Int} (v1 : lv p) (v2 : lv q) : dOwn "Lane" (arN 2 m_Lane_mul) dMul (LnV p) (LnV q) s = .ok (LnV (mulP p q)) s := by
  have h := mul_F (s := s) v1 v2
  simp only [e_bnd, ↓e_bok, e_bexc, e_ret, e_nox, ↓e_nok, e_cst, e_yes, e_m2, e_m1, e_tst, e_chn, e_and, e_or, e_not, e_vand, e_vor, e_vnot, e_mif, e_anil, e_acons, e_mC, e_call, e_mM, e_sl, e_ono, e_oso, e_dic1, ↓k_tst, ↓k_chnT, ↓k_chnF, ↓k_andT, ↓k_andF, ↓k_orT, ↓k_orF, ↓k_not, ↓k_oso, ↓k_asg, e_seq, ↓e_snx, ↓e_srt, ↓e_sbk, ↓e_sct, ↓e_lok, e_nxs, e_bks, e_cts, e_ex, e_rt, e_set, e_if, e_par, e_asg, f_setix, f_augix, e_sFor, e_forfix, e_src, e_rng1, e_enum, e_lc, e_cmpfix, f_get, ↓f_oo, ↓f_o1, f_ixR, f_ixO, f_ixL, f_ixSl, f_ixT, f_lenR, f_lenO, f_augR, f_setR, f_setO, f_goO, f_run, ↓f_rt, ↓f_nx, v_lenL, v_lenT, v_lenSl, v_addI, v_addII, v_sub, v_neg, v_eqI, v_eqS, v_eqB, v_neI, v_neS, v_lt, v_le, v_gt, v_ge, at_lit, ix_lit', Option.map_some, List.map_cons, List.map_nil, List.length_cons, List.length_nil, List.length_map, List.cons_append, List.nil_append, List.replicate, List.getElem?_cons_zero, List.getElem?_cons_succ, List.set_cons_zero, List.set_cons_succ, List.set_set, f_isi, f_isiO, f_isiB, v_slL, v_slSl, v_abs, v_max, v_min, v_kF, v_srcL, v_srcS, decide_true, decide_false, ↓reduceIte, Bool.false_eq_true, Bool.true_eq_false, Bool.not_true, Bool.not_false, Nat.reduceAdd, Nat.reduceSub, Nat.reduceLT, ↓u_oS, u_mul, u_mulS, u_div, u_mod, u_addS, u_addL, u_slS, u_ixS, u_lenS, u_str, u_kLst, u_kTup, u_kLstS, u_rng, u_upper, u_tNm, u_tTup, u_tNil, u_tCns, ↓u_tcR, f_isTS, wipeD, beq_self_eq_true, and_self, true_and, and_true, Int.reduceLT, Nat.reduceLeDiff, Int.reduceLE, Int.reduceNeg, Int.reduceToNat, Int.reduceAdd, g_src, ↓g_srcO, g_enu, ↓g_enuO, g_isT, ↓g_isTO, g_app, ↓g_appO, g_rev, ↓g_revO, g_lis, ↓g_lisO, g_kS, g_LR, g_kLR, h_fld, h_prop, h_meth, h_callO, h_mk, h_isi, h_gfld, h_gprop, h_alt, h_gisi, h_both, h_isC, h_kMeth, ↓h_methR, h_kCallO, h_own, h_ownNe, ↓h_notR, h_arN, h_tLst, h_asgH, h_srcT, h_max, h_min, e_fz, e_fzF, f_aug, ↓f_augK, h_mkS, k_mkS, k_mkST, e_fmt, e_js, k_js, e_js0, q_callK, q_strO, q_reprO, q_isCint, q_isCbl, q_isCstr, q_isCtup, q_isClst, q_isCnon, q_intB, q_intI, fd_Lane_low, fd_Lane_shift, pr_Lane_drift, pr_Lane_least, is_Lane_11099, bo_Lane, ic_Lane, h]
end

section
variable {s : Sto}
theorem call_F (p : Int × Int) (w : Int) : m_Lane_call [LnV p, .int w] s = .ok (.int (max p.1 (w + p.2))) s := by
  simp only [m_Lane_call, B_Lane_call, S_Lane_call_1, e_bnd, ↓e_bok, e_bexc, e_ret, e_nox, ↓e_nok, e_cst, e_yes, e_m2, e_m1, e_tst, e_chn, e_and, e_or, e_not, e_vand, e_vor, e_vnot, e_mif, e_anil, e_acons, e_mC, e_call, e_mM, e_sl, e_ono, e_oso, e_dic1, ↓k_tst, ↓k_chnT, ↓k_chnF, ↓k_andT, ↓k_andF, ↓k_orT, ↓k_orF, ↓k_not, ↓k_oso, ↓k_asg, e_seq, ↓e_snx, ↓e_srt, ↓e_sbk, ↓e_sct, ↓e_lok, e_nxs, e_bks, e_cts, e_ex, e_rt, e_set, e_if, e_par, e_asg, f_setix, f_augix, e_sFor, e_forfix, e_src, e_rng1, e_enum, e_lc, e_cmpfix, f_get, ↓f_oo, ↓f_o1, f_ixR, f_ixO, f_ixL, f_ixSl, f_ixT, f_lenR, f_lenO, f_augR, f_setR, f_setO, f_goO, f_run, ↓f_rt, ↓f_nx, v_lenL, v_lenT, v_lenSl, v_addI, v_addII, v_sub, v_neg, v_eqI, v_eqS, v_eqB, v_neI, v_neS, v_lt, v_le, v_gt, v_ge, at_lit, ix_lit', Option.map_some, List.map_cons, List.map_nil, List.length_cons, List.length_nil, List.length_map, List.cons_append, List.nil_append, List.replicate, List.getElem?_cons_zero, List.getElem?_cons_succ, List.set_cons_zero, List.set_cons_succ, List.set_set, f_isi, f_isiO, f_isiB, v_slL, v_slSl, v_abs, v_max, v_min, v_kF, v_srcL, v_srcS, decide_true, decide_false, ↓reduceIte, Bool.false_eq_true, Bool.true_eq_false, Bool.not_true, Bool.not_false, Nat.reduceAdd, Nat.reduceSub, Nat.reduceLT, ↓u_oS, u_mul, u_mulS, u_div, u_mod, u_addS, u_addL, u_slS, u_ixS, u_lenS, u_str, u_kLst, u_kTup, u_kLstS, u_rng, u_upper, u_tNm, u_tTup, u_tNil, u_tCns, ↓u_tcR, f_isTS, wipeD, beq_self_eq_true, and_self, true_and, and_true, Int.reduceLT, Nat.reduceLeDiff, Int.reduceLE, Int.reduceNeg, Int.reduceToNat, Int.reduceAdd, g_src, ↓g_srcO, g_enu, ↓g_enuO, g_isT, ↓g_isTO, g_app, ↓g_appO, g_rev, ↓g_revO, g_lis, ↓g_lisO, g_kS, g_LR, g_kLR, h_fld, h_prop, h_meth, h_callO, h_mk, h_isi, h_gfld, h_gprop, h_alt, h_gisi, h_both, h_isC, h_kMeth, ↓h_methR, h_kCallO, h_own, h_ownNe, ↓h_notR, h_arN, h_tLst, h_asgH, h_srcT, h_max, h_min, e_fz, e_fzF, f_aug, ↓f_augK, h_mkS, k_mkS, k_mkST, e_fmt, e_js, k_js, e_js0, q_callK, q_strO, q_reprO, q_isCint, q_isCbl, q_isCstr, q_isCtup, q_isClst, q_isCnon, q_intB, q_intI, u_lim, fd_Lane_low, fd_Lane_shift, pr_Lane_drift, pr_Lane_least, is_Lane_11099, bo_Lane, ic_Lane]
def repP (p : Int × Int) (n : Int) : Int × Int := if n = 0 then (0, 0) else (p.1 + max 0 ((n - 1) * p.2), n * p.2)
theorem repP_v {p : Int × Int} {n : Int} (h : lv p) (hn : 0 ≤ n) : lv (repP p n) := by
  unfold repP
  split
  · exact ⟨by decide, by decide⟩
  · unfold lv at *
    simp only
    have e : n * p.2 = (n - 1) * p.2 + p.2 := by rw [Int.sub_mul, Int.one_mul]; omega
    omega
/-- numbers that are reckoned with -/
def sml (k : Nat) (i : Int) : Prop := i.natAbs < 2 ^ k
theorem sml_mul {a b : Nat} {i j : Int} (hi : sml a i) (hj : sml b j) (h0 : 0 < a) (h1 : 0 < b) (h : a + b ≤ 1000000) : mulOk i j := mul_ok a b hi hj h0 h1 h
theorem sml_prod {a b : Nat} {i j : Int} (hi : sml a i) (hj : sml b j) : sml (a + b) (i * j) := by
  unfold sml at *
  rw [Int.natAbs_mul, Nat.pow_add]
  exact Nat.mul_lt_mul_of_lt_of_le hi (Nat.le_of_lt hj) (Nat.pow_pos (by decide))
theorem sml_mono {a b : Nat} {i : Int} (h : sml a i) (hab : a ≤ b) : sml b i := Nat.lt_of_lt_of_le h (Nat.pow_le_pow_right (by decide) hab)
theorem mul_one {p r : Int × Int} (h : lv p) : mulP p (one r) = lstep p r := by
  unfold lv at h
  unfold mulP one lstep
  simp only
  refine Prod.ext ?_ ?_
  · simp only; omega
  · simp only; omega
theorem mulP_assoc {p q r : Int × Int} : mulP (mulP p q) r = mulP p (mulP q r) := by
  unfold mulP
  simp only
  refine Prod.ext ?_ ?_
  · simp only; omega
  · simp only; omega
theorem mulP_zero {p : Int × Int} (h : lv p) : mulP p (0, 0) = p := by
  unfold lv at h
  unfold mulP
  simp only
  refine Prod.ext ?_ ?_
  · simp only; omega
  · simp only; omega
theorem zero_mulP {p : Int × Int} (h : lv p) : mulP (0, 0) p = p := by
  unfold lv at h
  unfold mulP
  simp only
  refine Prod.ext ?_ ?_
  · simp only; omega
  · simp only; omega
theorem repP_zero (p : Int × Int) : repP p 0 = (0, 0) := if_pos rfl
theorem repP_one (p : Int × Int) : repP p 1 = p := by
  unfold repP
  rw [if_neg (by decide)]
  simp
theorem mul_rep {p : Int × Int} {a b : Int} (h : lv p) (ha : 0 ≤ a) (hb : 0 ≤ b) : mulP (repP p a) (repP p b) = repP p (a + b) := by
  by_cases ea : a = 0
  · subst ea
    rw [repP_zero, zero_mulP (repP_v h hb), Int.zero_add]
  · by_cases eb : b = 0
    · subst eb
      rw [repP_zero, mulP_zero (repP_v h ha), Int.add_zero]
    · unfold repP mulP
      rw [if_neg ea, if_neg eb, if_neg (by omega)]
      simp only
      generalize p.2 = d
      have e1 : b * d = (b - 1) * d + d := by rw [Int.sub_mul, Int.one_mul]; omega
      have e2 : (a + b - 1) * d = (a - 1) * d + b * d := by rw [← Int.add_mul]; congr 1; omega
      have e3 : (a + b) * d = a * d + b * d := Int.add_mul _ _ _
      refine Prod.ext ?_ ?_
      · simp only
        by_cases hd : 0 ≤ d
        · have x1 : 0 ≤ (a - 1) * d := Int.mul_nonneg (by omega) hd
          have x2 : 0 ≤ (b - 1) * d := Int.mul_nonneg (by omega) hd
          omega
        · have x1 : (a - 1) * d ≤ 0 := Int.mul_nonpos_of_nonneg_of_nonpos (by omega) (by omega)
          have x2 : (b - 1) * d ≤ 0 := Int.mul_nonpos_of_nonneg_of_nonpos (by omega) (by omega)
          omega
      · simp only; omega
theorem rep_rep {p : Int × Int} {a b : Int} (h : lv p) (ha : 0 ≤ a) (hb : 0 ≤ b) : repP (repP p a) b = repP p (a * b) := by
  by_cases eb : b = 0
  · subst eb
    rw [repP_zero, Int.mul_zero, repP_zero]
  · by_cases ea : a = 0
    · subst ea
      rw [Int.zero_mul, repP_zero]
      unfold repP
      rw [if_neg eb]
      simp
    · unfold repP
      rw [if_neg eb, if_neg ea, if_neg (Int.mul_ne_zero ea eb)]
      simp only
      generalize p.2 = d
      have e1 : (b - 1) * (a * d) = a * b * d - a * d := by rw [Int.sub_mul, Int.one_mul, ← Int.mul_assoc, Int.mul_comm b a]
      have e2 : (a - 1) * d = a * d - d := by rw [Int.sub_mul, Int.one_mul]
      have e3 : (a * b - 1) * d = a * b * d - d := by rw [Int.sub_mul, Int.one_mul]
      have e4 : b * (a * d) = a * b * d := by rw [← Int.mul_assoc, Int.mul_comm b a]
      refine Prod.ext ?_ ?_
      · simp only
        by_cases hd : 0 ≤ d
        · have x1 : 0 ≤ (a - 1) * d := Int.mul_nonneg (by omega) hd
          have x2 : 0 ≤ (b - 1) * (a * d) := Int.mul_nonneg (by omega) (Int.mul_nonneg ha hd)
          omega
        · have x0 : a * d ≤ 0 := Int.mul_nonpos_of_nonneg_of_nonpos ha (by omega)
          have x1 : (a - 1) * d ≤ 0 := Int.mul_nonpos_of_nonneg_of_nonpos (by omega) (by omega)
          have x2 : (b - 1) * (a * d) ≤ 0 := Int.mul_nonpos_of_nonneg_of_nonpos (by omega) x0
          omega
      · simp only; omega
end

section
variable {s : Sto}
theorem eq_F (p q : Int × Int) : m_Lane_eq [LnV p, LnV q] s = .ok (.bl (p.1 == q.1 && p.2 == q.2)) s := by
  simp only [m_Lane_eq, B_Lane_eq, S_Lane_eq_1]
  cases e : p.1 == q.1 with
  | false => simp only [e_bnd, ↓e_bok, e_bexc, e_ret, e_nox, ↓e_nok, e_cst, e_yes, e_m2, e_m1, e_tst, e_chn, e_and, e_or, e_not, e_vand, e_vor, e_vnot, e_mif, e_anil, e_acons, e_mC, e_call, e_mM, e_sl, e_ono, e_oso, e_dic1, ↓k_tst, ↓k_chnT, ↓k_chnF, ↓k_andT, ↓k_andF, ↓k_orT, ↓k_orF, ↓k_not, ↓k_oso, ↓k_asg, e_seq, ↓e_snx, ↓e_srt, ↓e_sbk, ↓e_sct, ↓e_lok, e_nxs, e_bks, e_cts, e_ex, e_rt, e_set, e_if, e_par, e_asg, f_setix, f_augix, e_sFor, e_forfix, e_src, e_rng1, e_enum, e_lc, e_cmpfix, f_get, ↓f_oo, ↓f_o1, f_ixR, f_ixO, f_ixL, f_ixSl, f_ixT, f_lenR, f_lenO, f_augR, f_setR, f_setO, f_goO, f_run, ↓f_rt, ↓f_nx, v_lenL, v_lenT, v_lenSl, v_addI, v_addII, v_sub, v_neg, v_eqI, v_eqS, v_eqB, v_neI, v_neS, v_lt, v_le, v_gt, v_ge, at_lit, ix_lit', Option.map_some, List.map_cons, List.map_nil, List.length_cons, List.length_nil, List.length_map, List.cons_append, List.nil_append, List.replicate, List.getElem?_cons_zero, List.getElem?_cons_succ, List.set_cons_zero, List.set_cons_succ, List.set_set, f_isi, f_isiO, f_isiB, v_slL, v_slSl, v_abs, v_max, v_min, v_kF, v_srcL, v_srcS, decide_true, decide_false, ↓reduceIte, Bool.false_eq_true, Bool.true_eq_false, Bool.not_true, Bool.not_false, Nat.reduceAdd, Nat.reduceSub, Nat.reduceLT, ↓u_oS, u_mul, u_mulS, u_div, u_mod, u_addS, u_addL, u_slS, u_ixS, u_lenS, u_str, u_kLst, u_kTup, u_kLstS, u_rng, u_upper, u_tNm, u_tTup, u_tNil, u_tCns, ↓u_tcR, f_isTS, wipeD, beq_self_eq_true, and_self, true_and, and_true, Int.reduceLT, Nat.reduceLeDiff, Int.reduceLE, Int.reduceNeg, Int.reduceToNat, Int.reduceAdd, g_src, ↓g_srcO, g_enu, ↓g_enuO, g_isT, ↓g_isTO, g_app, ↓g_appO, g_rev, ↓g_revO, g_lis, ↓g_lisO, g_kS, g_LR, g_kLR, h_fld, h_prop, h_meth, h_callO, h_mk, h_isi, h_gfld, h_gprop, h_alt, h_gisi, h_both, h_isC, h_kMeth, ↓h_methR, h_kCallO, h_own, h_ownNe, ↓h_notR, h_arN, h_tLst, h_asgH, h_srcT, h_max, h_min, e_fz, e_fzF, f_aug, ↓f_augK, h_mkS, k_mkS, k_mkST, e_fmt, e_js, k_js, e_js0, q_callK, q_strO, q_reprO, q_isCint, q_isCbl, q_isCstr, q_isCtup, q_isClst, q_isCnon, q_intB, q_intI, fd_Lane_low, fd_Lane_shift, pr_Lane_drift, pr_Lane_least, is_Lane_11099, bo_Lane, ic_Lane, e, Bool.false_and]
  | true => simp only [e_bnd, ↓e_bok, e_bexc, e_ret, e_nox, ↓e_nok, e_cst, e_yes, e_m2, e_m1, e_tst, e_chn, e_and, e_or, e_not, e_vand, e_vor, e_vnot, e_mif, e_anil, e_acons, e_mC, e_call, e_mM, e_sl, e_ono, e_oso, e_dic1, ↓k_tst, ↓k_chnT, ↓k_chnF, ↓k_andT, ↓k_andF, ↓k_orT, ↓k_orF, ↓k_not, ↓k_oso, ↓k_asg, e_seq, ↓e_snx, ↓e_srt, ↓e_sbk, ↓e_sct, ↓e_lok, e_nxs, e_bks, e_cts, e_ex, e_rt, e_set, e_if, e_par, e_asg, f_setix, f_augix, e_sFor, e_forfix, e_src, e_rng1, e_enum, e_lc, e_cmpfix, f_get, ↓f_oo, ↓f_o1, f_ixR, f_ixO, f_ixL, f_ixSl, f_ixT, f_lenR, f_lenO, f_augR, f_setR, f_setO, f_goO, f_run, ↓f_rt, ↓f_nx, v_lenL, v_lenT, v_lenSl, v_addI, v_addII, v_sub, v_neg, v_eqI, v_eqS, v_eqB, v_neI, v_neS, v_lt, v_le, v_gt, v_ge, at_lit, ix_lit', Option.map_some, List.map_cons, List.map_nil, List.length_cons, List.length_nil, List.length_map, List.cons_append, List.nil_append, List.replicate, List.getElem?_cons_zero, List.getElem?_cons_succ, List.set_cons_zero, List.set_cons_succ, List.set_set, f_isi, f_isiO, f_isiB, v_slL, v_slSl, v_abs, v_max, v_min, v_kF, v_srcL, v_srcS, decide_true, decide_false, ↓reduceIte, Bool.false_eq_true, Bool.true_eq_false, Bool.not_true, Bool.not_false, Nat.reduceAdd, Nat.reduceSub, Nat.reduceLT, ↓u_oS, u_mul, u_mulS, u_div, u_mod, u_addS, u_addL, u_slS, u_ixS, u_lenS, u_str, u_kLst, u_kTup, u_kLstS, u_rng, u_upper, u_tNm, u_tTup, u_tNil, u_tCns, ↓u_tcR, f_isTS, wipeD, beq_self_eq_true, and_self, true_and, and_true, Int.reduceLT, Nat.reduceLeDiff, Int.reduceLE, Int.reduceNeg, Int.reduceToNat, Int.reduceAdd, g_src, ↓g_srcO, g_enu, ↓g_enuO, g_isT, ↓g_isTO, g_app, ↓g_appO, g_rev, ↓g_revO, g_lis, ↓g_lisO, g_kS, g_LR, g_kLR, h_fld, h_prop, h_meth, h_callO, h_mk, h_isi, h_gfld, h_gprop, h_alt, h_gisi, h_both, h_isC, h_kMeth, ↓h_methR, h_kCallO, h_own, h_ownNe, ↓h_notR, h_arN, h_tLst, h_asgH, h_srcT, h_max, h_min, e_fz, e_fzF, f_aug, ↓f_augK, h_mkS, k_mkS, k_mkST, e_fmt, e_js, k_js, e_js0, q_callK, q_strO, q_reprO, q_isCint, q_isCbl, q_isCstr, q_isCtup, q_isClst, q_isCnon, q_intB, q_intI, fd_Lane_low, fd_Lane_shift, pr_Lane_drift, pr_Lane_least, is_Lane_11099, bo_Lane, ic_Lane, e, Bool.true_and]
theorem own_ne {p q : Int × Int} (e : p = q) : dOwnNe "Lane" (arN 2 m_Lane_eq) dNe (LnV p) (LnV q) s = .ok (.bl false) s := by
  subst e
  have h := eq_F (s := s) p p
  simp only [e_bnd, ↓e_bok, e_bexc, e_ret, e_nox, ↓e_nok, e_cst, e_yes, e_m2, e_m1, e_tst, e_chn, e_and, e_or, e_not, e_vand, e_vor, e_vnot, e_mif, e_anil, e_acons, e_mC, e_call, e_mM, e_sl, e_ono, e_oso, e_dic1, ↓k_tst, ↓k_chnT, ↓k_chnF, ↓k_andT, ↓k_andF, ↓k_orT, ↓k_orF, ↓k_not, ↓k_oso, ↓k_asg, e_seq, ↓e_snx, ↓e_srt, ↓e_sbk, ↓e_sct, ↓e_lok, e_nxs, e_bks, e_cts, e_ex, e_rt, e_set, e_if, e_par, e_asg, f_setix, f_augix, e_sFor, e_forfix, e_src, e_rng1, e_enum, e_lc, e_cmpfix, f_get, ↓f_oo, ↓f_o1, f_ixR, f_ixO, f_ixL, f_ixSl, f_ixT, f_lenR, f_lenO, f_augR, f_setR, f_setO, f_goO, f_run, ↓f_rt, ↓f_nx, v_lenL, v_lenT, v_lenSl, v_addI, v_addII, v_sub, v_neg, v_eqI, v_eqS, v_eqB, v_neI, v_neS, v_lt, v_le, v_gt, v_ge, at_lit, ix_lit', Option.map_some, List.map_cons, List.map_nil, List.length_cons, List.length_nil, List.length_map, List.cons_append, List.nil_append, List.replicate, List.getElem?_cons_zero, List.getElem?_cons_succ, List.set_cons_zero, List.set_cons_succ, List.set_set, f_isi, f_isiO, f_isiB, v_slL, v_slSl, v_abs, v_max, v_min, v_kF, v_srcL, v_srcS, decide_true, decide_false, ↓reduceIte, Bool.false_eq_true, Bool.true_eq_false, Bool.not_true, Bool.not_false, Nat.reduceAdd, Nat.reduceSub, Nat.reduceLT, ↓u_oS, u_mul, u_mulS, u_div, u_mod, u_addS, u_addL, u_slS, u_ixS, u_lenS, u_str, u_kLst, u_kTup, u_kLstS, u_rng, u_upper, u_tNm, u_tTup, u_tNil, u_tCns, ↓u_tcR, f_isTS, wipeD, beq_self_eq_true, and_self, true_and, and_true, Int.reduceLT, Nat.reduceLeDiff, Int.reduceLE, Int.reduceNeg, Int.reduceToNat, Int.reduceAdd, g_src, ↓g_srcO, g_enu, ↓g_enuO, g_isT, ↓g_isTO, g_app, ↓g_appO, g_rev, ↓g_revO, g_lis, ↓g_lisO, g_kS, g_LR, g_kLR, h_fld, h_prop, h_meth, h_callO, h_mk, h_isi, h_gfld, h_gprop, h_alt, h_gisi, h_both, h_isC, h_kMeth, ↓h_methR, h_kCallO, h_own, h_ownNe, ↓h_notR, h_arN, h_tLst, h_asgH, h_srcT, h_max, h_min, e_fz, e_fzF, f_aug, ↓f_augK, h_mkS, k_mkS, k_mkST, e_fmt, e_js, k_js, e_js0, q_callK, q_strO, q_reprO, q_isCint, q_isCbl, q_isCstr, q_isCtup, q_isClst, q_isCnon, q_intB, q_intI, fd_Lane_low, fd_Lane_shift, pr_Lane_drift, pr_Lane_least, is_Lane_11099, bo_Lane, ic_Lane, h, beq_self_eq_true, Bool.and_self]
theorem own_eq {p q : Int × Int} (e : p = q) : dOwn "Lane" (arN 2 m_Lane_eq) dEq (LnV p) (LnV q) s = .ok (.bl true) s := by
  subst e
  have h := eq_F (s := s) p p
  simp only [e_bnd, ↓e_bok, e_bexc, e_ret, e_nox, ↓e_nok, e_cst, e_yes, e_m2, e_m1, e_tst, e_chn, e_and, e_or, e_not, e_vand, e_vor, e_vnot, e_mif, e_anil, e_acons, e_mC, e_call, e_mM, e_sl, e_ono, e_oso, e_dic1, ↓k_tst, ↓k_chnT, ↓k_chnF, ↓k_andT, ↓k_andF, ↓k_orT, ↓k_orF, ↓k_not, ↓k_oso, ↓k_asg, e_seq, ↓e_snx, ↓e_srt, ↓e_sbk, ↓e_sct, ↓e_lok, e_nxs, e_bks, e_cts, e_ex, e_rt, e_set, e_if, e_par, e_asg, f_setix, f_augix, e_sFor, e_forfix, e_src, e_rng1, e_enum, e_lc, e_cmpfix, f_get, ↓f_oo, ↓f_o1, f_ixR, f_ixO, f_ixL, f_ixSl, f_ixT, f_lenR, f_lenO, f_augR, f_setR, f_setO, f_goO, f_run, ↓f_rt, ↓f_nx, v_lenL, v_lenT, v_lenSl, v_addI, v_addII, v_sub, v_neg, v_eqI, v_eqS, v_eqB, v_neI, v_neS, v_lt, v_le, v_gt, v_ge, at_lit, ix_lit', Option.map_some, List.map_cons, List.map_nil, List.length_cons, List.length_nil, List.length_map, List.cons_append, List.nil_append, List.replicate, List.getElem?_cons_zero, List.getElem?_cons_succ, List.set_cons_zero, List.set_cons_succ, List.set_set, f_isi, f_isiO, f_isiB, v_slL, v_slSl, v_abs, v_max, v_min, v_kF, v_srcL, v_srcS, decide_true, decide_false, ↓reduceIte, Bool.false_eq_true, Bool.true_eq_false, Bool.not_true, Bool.not_false, Nat.reduceAdd, Nat.reduceSub, Nat.reduceLT, ↓u_oS, u_mul, u_mulS, u_div, u_mod, u_addS, u_addL, u_slS, u_ixS, u_lenS, u_str, u_kLst, u_kTup, u_kLstS, u_rng, u_upper, u_tNm, u_tTup, u_tNil, u_tCns, ↓u_tcR, f_isTS, wipeD, beq_self_eq_true, and_self, true_and, and_true, Int.reduceLT, Nat.reduceLeDiff, Int.reduceLE, Int.reduceNeg, Int.reduceToNat, Int.reduceAdd, g_src, ↓g_srcO, g_enu, ↓g_enuO, g_isT, ↓g_isTO, g_app, ↓g_appO, g_rev, ↓g_revO, g_lis, ↓g_lisO, g_kS, g_LR, g_kLR, h_fld, h_prop, h_meth, h_callO, h_mk, h_isi, h_gfld, h_gprop, h_alt, h_gisi, h_both, h_isC, h_kMeth, ↓h_methR, h_kCallO, h_own, h_ownNe, ↓h_notR, h_arN, h_tLst, h_asgH, h_srcT, h_max, h_min, e_fz, e_fzF, f_aug, ↓f_augK, h_mkS, k_mkS, k_mkST, e_fmt, e_js, k_js, e_js0, q_callK, q_strO, q_reprO, q_isCint, q_isCbl, q_isCstr, q_isCtup, q_isClst, q_isCnon, q_intB, q_intI, fd_Lane_low, fd_Lane_shift, pr_Lane_drift, pr_Lane_least, is_Lane_11099, bo_Lane, ic_Lane, h, beq_self_eq_true, Bool.and_self]
end

/-! ### new things behind the bag -/
theorem Bag.lt {s : Sto} {n b : Nat} (h : Bag s n b) : n < s.length := by
  obtain ⟨c, seed, k, cells, hs, _⟩ := h.at'
  exact (List.getElem?_eq_some_iff.mp hs).1
theorem Kp.lt {s0 s : Sto} {n b : Nat} (h : Kp s0 s n b) : n < s0.length := by
  have := h.bag.lt
  rw [h.len] at this
  exact this
theorem Kp.app {s0 t : Sto} {n b : Nat} (h : Kp s0 t n b) (L : List O) : Kp (s0 ++ L) (t ++ L) n b := by
  obtain ⟨c, seed, k, cells, hs, hr⟩ := h.bag.at'
  refine ⟨⟨c, seed, k, cells, by rw [List.getElem?_append_left (List.getElem?_eq_some_iff.mp hs).1]; exact hs, hr⟩, fun i hi => ?_, by rw [List.length_append, List.length_append, h.len]⟩
  by_cases hl : i < t.length
  · rw [List.getElem?_append_left hl, List.getElem?_append_left (by rw [← h.len]; exact hl)]
    exact h.out i hi
  · rw [List.getElem?_append_right (by omega), List.getElem?_append_right (by rw [← h.len]; omega), h.len]
theorem Kp.split {s0 s1 : Sto} {n b : Nat} {L : List O} (h : Kp (s0 ++ L) s1 n b) (hn : n < s0.length) : ∃ t1, s1 = t1 ++ L ∧ Kp s0 t1 n b := by
  have hl := h.len
  rw [List.length_append] at hl
  have e : s1 = s1.take s0.length ++ L := by
    apply List.ext_getElem?
    intro i
    by_cases hi : i < s0.length
    · rw [List.getElem?_append_left (by rw [List.length_take]; omega), List.getElem?_take, if_pos hi]
    · rw [List.getElem?_append_right (by rw [List.length_take]; omega), List.length_take, h.out i (by omega), List.getElem?_append_right (by omega)]
      congr 1
      omega
  refine ⟨_, e, ?_⟩
  obtain ⟨c, seed, k, cells, hs, hr⟩ := h.bag.at'
  refine ⟨⟨c, seed, k, cells, by rw [List.getElem?_take, if_pos hn]; exact hs, hr⟩, fun i hi => ?_, by rw [List.length_take]; omega⟩
  rw [List.getElem?_take]
  split
  · rename_i hl2
    rw [h.out i hi, List.getElem?_append_left hl2]
  · rename_i hl2
    exact (List.getElem?_eq_none (by omega)).symm
theorem Kp.keeps {s t : Sto} {n b : Nat} (h : Kp s t n b) : Keeps s t := by
  refine ⟨Nat.le_of_eq h.len.symm, fun i o hi ho => ?_⟩
  by_cases e : i = n
  · subst e
    obtain ⟨c, seed, k, cells, hs, _⟩ := h.bag.at'
    rw [hs] at ho
    cases ho
    right
    intro x hx
    simp only [List.mem_cons, List.not_mem_nil, or_false] at hx
    rcases hx with rfl | rfl | rfl | rfl
    · exact .int _
    · exact .int _
    · exact .int _
    · exact .lst fun x hx => by
        obtain ⟨i, _, rfl⟩ := List.mem_map.mp hx
        exact .int _
  · left
    rw [← h.out i e]
    exact ho
theorem Kp.take {s t : Sto} {n b : Nat} (h : Kp s t n b) (L : List O) : (t ++ L).take s.length = t := by rw [← h.len]; exact List.take_left
theorem new_at {s t : Sto} {n b : Nat} {L : List O} (h : Kp s t n b) (j : Nat) : (t ++ L)[s.length + j]? = L[j]? := by
  rw [List.getElem?_append_right (by rw [h.len]; omega), h.len]
  congr 1
  omega
theorem new_set {s t : Sto} {n b : Nat} {L : List O} (h : Kp s t n b) (j : Nat) (o : O) : (t ++ L).set (s.length + j) o = t ++ L.set j o := by
  rw [List.set_append_right _ _ (by rw [h.len]; omega), h.len]
  congr 2
  omega
theorem new_at0 {s t : Sto} {n b : Nat} {o : O} {L : List O} (h : Kp s t n b) : (t ++ o :: L)[s.length]? = some o := new_at (L := o :: L) h 0
theorem new_set0 {s t : Sto} {n b : Nat} {o p : O} {L : List O} (h : Kp s t n b) : (t ++ o :: L).set s.length p = t ++ p :: L := new_set (L := o :: L) h 0 p
/-- a new list of plain data, handed on -/
theorem Kp.frzL {s t : Sto} {n b : Nat} {xs : List D} {L : List O} {d : Nat} (h : Kp s t n b) (hx : ∀ x ∈ xs, Pl d x) (hd : d ≤ 19) : frzR s (.ok (.ref s.length) (t ++ .lst xs :: L)) = .ok (.lst xs) t := by
  rw [frz_lst (h.keeps.app _) (Nat.le_refl _) (new_at0 h) hx hd, h.take]
theorem Kp.frzD {s t : Sto} {n b : Nat} {x : D} {L : List O} {d : Nat} (h : Kp s t n b) (hx : Pl d x) (hd : d ≤ 20) : frzR s (.ok x (t ++ L)) = .ok x t := by
  rw [frz_pl (h.keeps.app _) hx hd, h.take]

/-! ### the law's draws -/
def num (v : Int) : Prop := 0 ≤ v ∧ v ≤ 1000000000000000000
theorem number_ok {s0 s : Sto} {n b : Nat} (h : Kp s0 s n b) (hb : b ≤ 1000000000) : ∃ v s1, m_l_number [.ref n] s = .ok (.int v) s1 ∧ num v ∧ Kp s0 s1 n (b + 5) := by
  obtain ⟨w, s1, e1, w0, w1, k1⟩ := take_kp 6 h (by omega) (by decide) (by decide)
  obtain ⟨a, s2, e2, a0, a1, k2⟩ := take_kp 4 k1 (by omega) (by decide) (by decide)
  obtain ⟨c, s3, e3, c0, c1, k3⟩ := take_kp 10 k2 (by omega) (by decide) (by decide)
  obtain ⟨d, s4, e4, d0, d1, k4⟩ := take_kp 10 k3 (by omega) (by decide) (by decide)
  obtain ⟨f, s5, e5, f0, f1, k5⟩ := take_kp (10 ^ 18 + 1) k4 (by omega) (by decide) (by decide)
  have pw : dPow (.int 10) (.int 18) = fun s => .ok (.int (10 ^ 18)) s := by funext s; rfl
  have e5' : m_l_take [.ref n, .int (10 ^ 18 + 1)] s4 = .ok (.int f) s5 := e5
  have l6 : (6 : Nat) ≤ lim := by decide
  obtain ⟨v, hv, hn⟩ : ∃ v : Int, atI [D.int a, .int c, .int d, .int 0, .int f, .int (10 ^ 18)] w = some (.int v) ∧ num v := by
    rw [at_nat _ w0]
    have hw : w.toNat < 6 := by omega
    generalize w.toNat = q at hw
    unfold num
    match q, hw with
    | 0, _ => exact ⟨a, rfl, by omega, by omega⟩
    | 1, _ => exact ⟨c, rfl, by omega, by omega⟩
    | 2, _ => exact ⟨d, rfl, by omega, by omega⟩
    | 3, _ => exact ⟨0, rfl, by omega, by omega⟩
    | 4, _ => exact ⟨f, rfl, by omega, by omega⟩
    | 5, _ => exact ⟨10 ^ 18, rfl, by omega, by omega⟩
  refine ⟨v, s5, ?_, hn, k5⟩
  simp only [m_l_number, B_l_number, S_l_number_1, S_l_number_2, e_bnd, ↓e_bok, e_bexc, e_ret, e_nox, ↓e_nok, e_cst, e_yes, e_m2, e_m1, e_tst, e_chn, e_and, e_or, e_not, e_vand, e_vor, e_vnot, e_mif, e_anil, e_acons, e_mC, e_call, e_mM, e_sl, e_ono, e_oso, e_dic1, ↓k_tst, ↓k_chnT, ↓k_chnF, ↓k_andT, ↓k_andF, ↓k_orT, ↓k_orF, ↓k_not, ↓k_oso, ↓k_asg, e_seq, ↓e_snx, ↓e_srt, ↓e_sbk, ↓e_sct, ↓e_lok, e_nxs, e_bks, e_cts, e_ex, e_rt, e_set, e_if, e_par, e_asg, f_setix, f_augix, e_sFor, e_forfix, e_src, e_rng1, e_enum, e_lc, e_cmpfix, f_get, ↓f_oo, ↓f_o1, f_ixR, f_ixO, f_ixL, f_ixSl, f_ixT, f_lenR, f_lenO, f_augR, f_setR, f_setO, f_goO, f_run, ↓f_rt, ↓f_nx, v_lenL, v_lenT, v_lenSl, v_addI, v_addII, v_sub, v_neg, v_eqI, v_eqS, v_eqB, v_neI, v_neS, v_lt, v_le, v_gt, v_ge, at_lit, ix_lit', Option.map_some, List.map_cons, List.map_nil, List.length_cons, List.length_nil, List.length_map, List.cons_append, List.nil_append, List.replicate, List.getElem?_cons_zero, List.getElem?_cons_succ, List.set_cons_zero, List.set_cons_succ, List.set_set, f_isi, f_isiO, f_isiB, v_slL, v_slSl, v_abs, v_max, v_min, v_kF, v_srcL, v_srcS, decide_true, decide_false, ↓reduceIte, Bool.false_eq_true, Bool.true_eq_false, Bool.not_true, Bool.not_false, Nat.reduceAdd, Nat.reduceSub, Nat.reduceLT, ↓u_oS, u_mul, u_mulS, u_div, u_mod, u_addS, u_addL, u_slS, u_ixS, u_lenS, u_str, u_kLst, u_kTup, u_kLstS, u_rng, u_upper, u_tNm, u_tTup, u_tNil, u_tCns, ↓u_tcR, f_isTS, wipeD, beq_self_eq_true, and_self, true_and, and_true, Int.reduceLT, Nat.reduceLeDiff, Int.reduceLE, Int.reduceNeg, Int.reduceToNat, Int.reduceAdd, g_src, ↓g_srcO, g_enu, ↓g_enuO, g_isT, ↓g_isTO, g_app, ↓g_appO, g_rev, ↓g_revO, g_lis, ↓g_lisO, g_kS, g_LR, g_kLR, h_fld, h_prop, h_meth, h_callO, h_mk, h_isi, h_gfld, h_gprop, h_alt, h_gisi, h_both, h_isC, h_kMeth, ↓h_methR, h_kCallO, h_own, h_ownNe, ↓h_notR, h_arN, h_tLst, h_asgH, h_srcT, h_max, h_min, e_fz, e_fzF, f_aug, ↓f_augK, h_mkS, k_mkS, k_mkST, e_fmt, e_js, k_js, e_js0, q_callK, q_strO, q_reprO, q_isCint, q_isCbl, q_isCstr, q_isCtup, q_isClst, q_isCnon, q_intB, q_intI, e1, e2, e3, e4, pw, e5', l6, hv]

theorem rw2_pl (r : Int × Int) : Pl 2 (rw2 r) := .tup fun x hx => by
  simp only [List.mem_cons, List.not_mem_nil, or_false] at hx
  rcases hx with rfl | rfl
  · exact .int _
  · exact .int _
def bnd2 (r : Int × Int) : Prop := num r.1 ∧ num r.2
theorem served_ok {s0 s : Sto} {n b : Nat} (top : Int) (h : Kp s0 s n b) (hb : b ≤ 100000000) (t0 : 0 ≤ top) (t1 : top ≤ 1000) :
    ∃ (rows : List (Int × Int)) (s1 : Sto), m_l_served [.ref n, .int top] s = .ok (.lst (rows.map rw2)) s1 ∧ (∀ r ∈ rows, bnd2 r) ∧ (rows.length : Int) ≤ top ∧ Kp s0 s1 n (b + 12000) := by
  have k0 := Kp.refl h.bag
  obtain ⟨cnt, s1, e1, c0, c1, k1⟩ := take_kp (top + 1) (k0.app [.lst []]) (by omega) (by omega) (Nat.lt_of_le_of_lt (Nat.log2_le_self _) (by omega))
  obtain ⟨t, rfl, k2⟩ := k1.split k0.lt
  obtain ⟨σ2, s2, f1, rows, t2, hlen, hbd, rfl, k3, c3, c4, c5, rfl⟩ := forL_ix (body := bdy (tNm 3) (sSeq (sPar 4 5 (mCall 1 m_l_number (aCons (vGet 0) aNil)) (mCall 1 m_l_number (aCons (vGet 0) aNil)))
  (sEx (mM "list" mAppend (vGet 2) (aCons (m2 dIx (fun σ => bnd ((aCons (fun σ => bnd ((aCons (vGet 4) (aCons (vGet 5) aNil)) σ) kTup) (aCons (fun σ => bnd ((aCons (vGet 4) (aCons (vGet 4) aNil)) σ) kTup) (aCons (fun σ => bnd ((aCons (vGet 5) (aCons (vGet 4) aNil)) σ) kTup) aNil))) σ) kLst) (mCall 2 m_l_take (aCons (vGet 0) (aCons (cst (.int 3)) aNil)))) aNil)))))
    (fun k σ' s' => ∃ (rows : List (Int × Int)) (t : Sto), rows.length = k ∧ (∀ r ∈ rows, bnd2 r) ∧ s' = t ++ [.lst (rows.map rw2)] ∧ Kp s t n (b + 1 + 11 * k) ∧ ∃ c3 c4 c5, σ' = [some (.ref n), some (.int top), some (.ref s.length), c3, c4, c5])
    (rng 0 cnt) [some (.ref n), some (.int top), some (.ref s.length), none, none, none] (t ++ [.lst []]) 0 ⟨[], t, rfl, fun _ h => (nomatch h), rfl, k2, none, none, none, rfl⟩ (by
      rintro j d σ' s' ⟨rows, t, hl, hbd, rfl, kt, c3, c4, c5, rfl⟩ hd
      obtain ⟨rfl, hj⟩ := rng_at hd
      rw [Nat.zero_add] at hl kt
      obtain ⟨a, s3, e3, a0, k3⟩ := number_ok (kt.app [.lst (rows.map rw2)]) (by omega)
      obtain ⟨c, s4, e4, d0, k4⟩ := number_ok k3 (by omega)
      obtain ⟨w, s5, e5, w0, w1, k5⟩ := take_kp 3 k4 (by omega) (by decide) (by decide)
      obtain ⟨t5, rfl, k6⟩ := k5.split k0.lt
      obtain ⟨r, hr, hbr⟩ : ∃ r : Int × Int, atI [D.tup [.int a, .int c], .tup [.int a, .int a], .tup [.int c, .int a]] w = some (rw2 r) ∧ bnd2 r := by
        rw [at_nat _ w0]
        have hw : w.toNat < 3 := by omega
        generalize w.toNat = q at hw
        match q, hw with
        | 0, _ => exact ⟨(a, c), rfl, a0, d0⟩
        | 1, _ => exact ⟨(a, a), rfl, a0, a0⟩
        | 2, _ => exact ⟨(c, a), rfl, d0, a0⟩
      have l3 : (3 : Nat) ≤ lim := by decide
      have l2 : (2 : Nat) ≤ lim := by decide
      have lr : rows.length < lim := by show rows.length < 1000000; omega
      have g5 : (t5 ++ [O.lst (rows.map rw2)])[s.length]? = some (.lst (rows.map rw2)) := new_at0 k6
      have g0 : (t ++ [O.lst (rows.map rw2)])[s.length]? = some (.lst (rows.map rw2)) := new_at0 kt
      have g4 : s4[s.length]? = some (.lst (rows.map rw2)) := by
        rw [k4.out s.length (by have := k0.lt; omega)]
        simp
      have st : (t5 ++ [O.lst (rows.map rw2)]).set s.length (.lst (rows.map rw2 ++ [rw2 r])) = t5 ++ [.lst ((rows ++ [r]).map rw2)] := by
        rw [new_set0 k6, List.map_append]; rfl
      refine ⟨[some (.ref n), some (.int top), some (.ref s.length), some (.int (0 + (j : Int))), some (.int a), some (.int c)], _, ?_, rows ++ [r], t5, by rw [List.length_append, hl, List.length_singleton]; omega, ?_, rfl, ?_, _, _, _, rfl⟩
      · rw [e_bdy _ _ _ (show tNm 3 _ _ = some _ from rfl)]
        simp only [e_bnd, ↓e_bok, e_bexc, e_ret, e_nox, ↓e_nok, e_cst, e_yes, e_m2, e_m1, e_tst, e_chn, e_and, e_or, e_not, e_vand, e_vor, e_vnot, e_mif, e_anil, e_acons, e_mC, e_call, e_mM, e_sl, e_ono, e_oso, e_dic1, ↓k_tst, ↓k_chnT, ↓k_chnF, ↓k_andT, ↓k_andF, ↓k_orT, ↓k_orF, ↓k_not, ↓k_oso, ↓k_asg, e_seq, ↓e_snx, ↓e_srt, ↓e_sbk, ↓e_sct, ↓e_lok, e_nxs, e_bks, e_cts, e_ex, e_rt, e_set, e_if, e_par, e_asg, f_setix, f_augix, e_sFor, e_forfix, e_src, e_rng1, e_enum, e_lc, e_cmpfix, f_get, ↓f_oo, ↓f_o1, f_ixR, f_ixO, f_ixL, f_ixSl, f_ixT, f_lenR, f_lenO, f_augR, f_setR, f_setO, f_goO, f_run, ↓f_rt, ↓f_nx, v_lenL, v_lenT, v_lenSl, v_addI, v_addII, v_sub, v_neg, v_eqI, v_eqS, v_eqB, v_neI, v_neS, v_lt, v_le, v_gt, v_ge, at_lit, ix_lit', Option.map_some, List.map_cons, List.map_nil, List.length_cons, List.length_nil, List.length_map, List.cons_append, List.nil_append, List.replicate, List.getElem?_cons_zero, List.getElem?_cons_succ, List.set_cons_zero, List.set_cons_succ, List.set_set, f_isi, f_isiO, f_isiB, v_slL, v_slSl, v_abs, v_max, v_min, v_kF, v_srcL, v_srcS, decide_true, decide_false, ↓reduceIte, Bool.false_eq_true, Bool.true_eq_false, Bool.not_true, Bool.not_false, Nat.reduceAdd, Nat.reduceSub, Nat.reduceLT, ↓u_oS, u_mul, u_mulS, u_div, u_mod, u_addS, u_addL, u_slS, u_ixS, u_lenS, u_str, u_kLst, u_kTup, u_kLstS, u_rng, u_upper, u_tNm, u_tTup, u_tNil, u_tCns, ↓u_tcR, f_isTS, wipeD, beq_self_eq_true, and_self, true_and, and_true, Int.reduceLT, Nat.reduceLeDiff, Int.reduceLE, Int.reduceNeg, Int.reduceToNat, Int.reduceAdd, g_src, ↓g_srcO, g_enu, ↓g_enuO, g_isT, ↓g_isTO, g_app, ↓g_appO, g_rev, ↓g_revO, g_lis, ↓g_lisO, g_kS, g_LR, g_kLR, h_fld, h_prop, h_meth, h_callO, h_mk, h_isi, h_gfld, h_gprop, h_alt, h_gisi, h_both, h_isC, h_kMeth, ↓h_methR, h_kCallO, h_own, h_ownNe, ↓h_notR, h_arN, h_tLst, h_asgH, h_srcT, h_max, h_min, e_fz, e_fzF, f_aug, ↓f_augK, h_mkS, k_mkS, k_mkST, e_fmt, e_js, k_js, e_js0, q_callK, q_strO, q_reprO, q_isCint, q_isCbl, q_isCstr, q_isCtup, q_isClst, q_isCnon, q_intB, q_intI, e3, e4, e5, hr, l2, l3, g4, g5, lr, st]
      · intro q hq
        rcases List.mem_append.mp hq with h1 | h1
        · exact hbd q h1
        · simp only [List.mem_cons, List.not_mem_nil, or_false] at h1
          rw [h1]; exact hbr
      · exact k6.more (by omega))
  rw [rng_len] at hlen
  refine ⟨rows, t2, ?_, hbd, by omega, h.trans (k3.more (by rw [rng_len]; omega))⟩
  have hr1 : -(2 ^ 62) ≤ cnt ∧ cnt < 2 ^ 62 := by omega
  have l0 : (0 : Nat) ≤ lim := by decide
  have fin := Kp.frzL (L := []) (xs := rows.map rw2) (d := 2) k3 (fun x hx => by
    obtain ⟨r, _, rfl⟩ := List.mem_map.mp hx
    exact rw2_pl r) (by decide)
  simp only [m_l_served, B_l_served, S_l_served_1, S_l_served_3, S_l_served_4, S_l_served_2, S_l_served_5, e_bnd, ↓e_bok, e_bexc, e_ret, e_nox, ↓e_nok, e_cst, e_yes, e_m2, e_m1, e_tst, e_chn, e_and, e_or, e_not, e_vand, e_vor, e_vnot, e_mif, e_anil, e_acons, e_mC, e_call, e_mM, e_sl, e_ono, e_oso, e_dic1, ↓k_tst, ↓k_chnT, ↓k_chnF, ↓k_andT, ↓k_andF, ↓k_orT, ↓k_orF, ↓k_not, ↓k_oso, ↓k_asg, e_seq, ↓e_snx, ↓e_srt, ↓e_sbk, ↓e_sct, ↓e_lok, e_nxs, e_bks, e_cts, e_ex, e_rt, e_set, e_if, e_par, e_asg, f_setix, f_augix, e_sFor, e_forfix, e_src, e_rng1, e_enum, e_lc, e_cmpfix, f_get, ↓f_oo, ↓f_o1, f_ixR, f_ixO, f_ixL, f_ixSl, f_ixT, f_lenR, f_lenO, f_augR, f_setR, f_setO, f_goO, f_run, ↓f_rt, ↓f_nx, v_lenL, v_lenT, v_lenSl, v_addI, v_addII, v_sub, v_neg, v_eqI, v_eqS, v_eqB, v_neI, v_neS, v_lt, v_le, v_gt, v_ge, at_lit, ix_lit', Option.map_some, List.map_cons, List.map_nil, List.length_cons, List.length_nil, List.length_map, List.cons_append, List.nil_append, List.replicate, List.getElem?_cons_zero, List.getElem?_cons_succ, List.set_cons_zero, List.set_cons_succ, List.set_set, f_isi, f_isiO, f_isiB, v_slL, v_slSl, v_abs, v_max, v_min, v_kF, v_srcL, v_srcS, decide_true, decide_false, ↓reduceIte, Bool.false_eq_true, Bool.true_eq_false, Bool.not_true, Bool.not_false, Nat.reduceAdd, Nat.reduceSub, Nat.reduceLT, ↓u_oS, u_mul, u_mulS, u_div, u_mod, u_addS, u_addL, u_slS, u_ixS, u_lenS, u_str, u_kLst, u_kTup, u_kLstS, u_rng, u_upper, u_tNm, u_tTup, u_tNil, u_tCns, ↓u_tcR, f_isTS, wipeD, beq_self_eq_true, and_self, true_and, and_true, Int.reduceLT, Nat.reduceLeDiff, Int.reduceLE, Int.reduceNeg, Int.reduceToNat, Int.reduceAdd, g_src, ↓g_srcO, g_enu, ↓g_enuO, g_isT, ↓g_isTO, g_app, ↓g_appO, g_rev, ↓g_revO, g_lis, ↓g_lisO, g_kS, g_LR, g_kLR, h_fld, h_prop, h_meth, h_callO, h_mk, h_isi, h_gfld, h_gprop, h_alt, h_gisi, h_both, h_isC, h_kMeth, ↓h_methR, h_kCallO, h_own, h_ownNe, ↓h_notR, h_arN, h_tLst, h_asgH, h_srcT, h_max, h_min, e_fz, e_fzF, f_aug, ↓f_augK, h_mkS, k_mkS, k_mkST, e_fmt, e_js, k_js, e_js0, q_callK, q_strO, q_reprO, q_isCint, q_isCbl, q_isCstr, q_isCtup, q_isClst, q_isCnon, q_intB, q_intI, l0, e1, hr1, f1, fin]

theorem sml_add {a : Nat} {i j : Int} (hi : sml a i) (hj : sml a j) : sml (a + 1) (i + j) := by
  unfold sml at *
  rw [Nat.pow_succ]
  omega
theorem sml_sub {a : Nat} {i j : Int} (hi : sml a i) (hj : sml a j) : sml (a + 1) (i - j) := by
  unfold sml at *
  rw [Nat.pow_succ]
  omega
theorem sml_max {a : Nat} {i j : Int} (hi : sml a i) (hj : sml a j) : sml a (max i j) := by
  unfold sml at *
  omega
theorem sml_min {a : Nat} {i j : Int} (hi : sml a i) (hj : sml a j) : sml a (min i j) := by
  unfold sml at *
  omega
theorem sml_of {a : Nat} {i j : Int} (h : sml a j) (h0 : 0 ≤ i) (h1 : i ≤ j) : sml a i := by
  unfold sml at *
  omega
theorem sml_log {a : Nat} {i : Int} (h : sml a i) (ha : a ≤ 9000) (h0 : 0 < a) : i.natAbs.log2 < 9000 := by
  unfold sml at h
  by_cases hz : i.natAbs = 0
  · rw [hz]; decide
  · exact Nat.lt_of_lt_of_le ((Nat.log2_lt hz).mpr h) ha

/-- a number, shown -/
theorem repr_int {s : Sto} {i : Int} (h : sml 1900 i) : cRepr [.int i] s = .ok (.str (PyData.int i).shown) s := by
  have hl : i.natAbs.log2 < 1920 := by
    unfold sml at h
    by_cases hz : i.natAbs = 0
    · rw [hz]; decide
    · exact Nat.lt_trans ((Nat.log2_lt hz).mpr h) (by decide)
  refine v_repr rfl (by simp only [PyData.showable]; exact decide_eq_true hl) ?_
  have h10 : i.natAbs < 10 ^ 1900 := Nat.lt_of_lt_of_le h (Nat.pow_le_pow_left (by decide) _)
  have := (TxB.int h10 (by decide)).len
  exact Nat.le_trans (show (PyData.int i).shown.length ≤ 1901 from this) (by decide)

/-! ### figures, repr -/
theorem str_ofS (a b : String) : Str.ofString (a ++ b) = Str.ofString a ++ Str.ofString b := by
  rw [Str.ofString_eq_toList, Str.ofString_eq_toList, Str.ofString_eq_toList]
  show Str.mk _ = Str.mk _
  congr 1
  simp
theorem rep_dash (i : Int) : rep (if decide (i < 0) = true then (1 : Int) else 0).toNat (Str.ofString "-") ++ Str.ofString (toString (if i < 0 then -i else i)) ++ Str.ofString "" = Str.ofString (toString i) := by
  have e0 : ∀ z : Str, z ++ Str.ofString "" = z := fun z => by
    show Str.mk (z.cps ++ #[]) = z
    rw [Array.append_empty]
  rw [e0]
  by_cases h : i < 0
  · rw [if_pos h, if_pos (decide_eq_true h)]
    have e1 : rep (1 : Int).toNat (Str.ofString "-") = Str.ofString "-" := by decide +kernel
    rw [e1, ← str_ofS]
    congr 1
    cases i with
    | ofNat n => exact absurd h (by simp)
    | negSucc n => rfl
  · rw [if_neg h, if_neg (by rw [decide_eq_false h]; decide)]
    have e1 : rep (0 : Int).toNat (Str.ofString "-") = ⟨#[]⟩ := by decide +kernel
    rw [e1]
    show Str.mk (#[] ++ _) = _
    rw [Array.empty_append]
def tx (i : Int) : Str := Str.ofString (toString i)
theorem tx_len {i : Int} (h : sml 190 i) : (tx i).length ≤ 61 := by
  have : i.natAbs < 10 ^ 60 := Nat.lt_of_lt_of_le h (by decide)
  exact (TxB.int this (by decide)).len
theorem figures_F {s : Sto} {i : Int} (h : sml 190 i) : m_figures [.int i] s = .ok (.str (tx i)) s := by
  have hd := rep_dash i
  have p60 : ∀ s, dPow (.int 10) (.int 60) s = .ok (.int (10 ^ 60)) s := fun s => by
    rw [u_pow, if_pos ⟨by decide, by decide, by decide⟩]
    rfl
  have hlt : i.natAbs < 10 ^ 60 := Nat.lt_of_lt_of_le h (by decide)
  have hge : ¬ (10 ^ 60 : Int) ≤ (if i < 0 then -i else i) := by split <;> omega
  have hw : S_figures_2 [some (.int i), some (.int (if i < 0 then -i else i)), some (.str "")] s = .go .nx [some (.int i), some (.int (if i < 0 then -i else i)), some (.str "")] s := by
    unfold S_figures_2
    have eb : big = 999999999 + 1 := rfl
    rw [eb]
    unfold whlS
    simp only [e_bnd, ↓e_bok, e_bexc, e_ret, e_nox, ↓e_nok, e_cst, e_yes, e_m2, e_m1, e_tst, e_chn, e_and, e_or, e_not, e_vand, e_vor, e_vnot, e_mif, e_anil, e_acons, e_mC, e_call, e_mM, e_sl, e_ono, e_oso, e_dic1, ↓k_tst, ↓k_chnT, ↓k_chnF, ↓k_andT, ↓k_andF, ↓k_orT, ↓k_orF, ↓k_not, ↓k_oso, ↓k_asg, e_seq, ↓e_snx, ↓e_srt, ↓e_sbk, ↓e_sct, ↓e_lok, e_nxs, e_bks, e_cts, e_ex, e_rt, e_set, e_if, e_par, e_asg, f_setix, f_augix, e_sFor, e_forfix, e_src, e_rng1, e_enum, e_lc, e_cmpfix, f_get, ↓f_oo, ↓f_o1, f_ixR, f_ixO, f_ixL, f_ixSl, f_ixT, f_lenR, f_lenO, f_augR, f_setR, f_setO, f_goO, f_run, ↓f_rt, ↓f_nx, v_lenL, v_lenT, v_lenSl, v_addI, v_addII, v_sub, v_neg, v_eqI, v_eqS, v_eqB, v_neI, v_neS, v_lt, v_le, v_gt, v_ge, at_lit, ix_lit', Option.map_some, List.map_cons, List.map_nil, List.length_cons, List.length_nil, List.length_map, List.cons_append, List.nil_append, List.replicate, List.getElem?_cons_zero, List.getElem?_cons_succ, List.set_cons_zero, List.set_cons_succ, List.set_set, f_isi, f_isiO, f_isiB, v_slL, v_slSl, v_abs, v_max, v_min, v_kF, v_srcL, v_srcS, decide_true, decide_false, ↓reduceIte, Bool.false_eq_true, Bool.true_eq_false, Bool.not_true, Bool.not_false, Nat.reduceAdd, Nat.reduceSub, Nat.reduceLT, ↓u_oS, u_mul, u_mulS, u_div, u_mod, u_addS, u_addL, u_slS, u_ixS, u_lenS, u_str, u_kLst, u_kTup, u_kLstS, u_rng, u_upper, u_tNm, u_tTup, u_tNil, u_tCns, ↓u_tcR, f_isTS, wipeD, beq_self_eq_true, and_self, true_and, and_true, Int.reduceLT, Nat.reduceLeDiff, Int.reduceLE, Int.reduceNeg, Int.reduceToNat, Int.reduceAdd, g_src, ↓g_srcO, g_enu, ↓g_enuO, g_isT, ↓g_isTO, g_app, ↓g_appO, g_rev, ↓g_revO, g_lis, ↓g_lisO, g_kS, g_LR, g_kLR, h_fld, h_prop, h_meth, h_callO, h_mk, h_isi, h_gfld, h_gprop, h_gisi, h_isC, h_kMeth, ↓h_methR, h_kCallO, ↓h_notR, h_arN, h_tLst, h_asgH, h_srcT, h_max, h_min, e_fz, e_fzF, f_aug, ↓f_augK, h_mkS, k_mkS, k_mkST, e_fmt, e_js, k_js, e_js0, q_callK, q_strO, q_reprO, q_isCint, q_isCbl, q_isCstr, q_isCtup, q_isClst, q_isCnon, q_intB, q_intI, p60, hge]
  have hsm : sml 190 (if i < 0 then -i else i) := by unfold sml at *; split <;> omega
  have hlog : (if i < 0 then -i else i).natAbs.log2 < 1920 := by
    have := sml_log (sml_mono hsm (show 190 ≤ 1000 by decide)) (by decide) (by decide)
    by_cases hz : (if i < 0 then -i else i).natAbs = 0
    · rw [hz]; decide
    · exact Nat.lt_of_lt_of_le ((Nat.log2_lt hz).mpr hsm) (by decide)
  have hl1 := tx_len hsm
  have hci : ∀ b : Bool, cInt [.bl b] s = .ok (.int (if b = true then 1 else 0)) s := fun b => rfl
  have hm : dMul (.str "-") (.int (if decide (i < 0) = true then 1 else 0)) s = .ok (.str (rep (if decide (i < 0) = true then (1 : Int) else 0).toNat (Str.ofString "-"))) s := by
    rw [u_mulS, if_pos]
    refine ⟨by split <;> decide, ?_, by split <;> decide⟩
    have : (Str.ofString "-").length = 1 := rfl
    show (Str.ofString "-").length * _ ≤ 1000000
    rw [this]
    split <;> decide
  have hrl : (rep (if decide (i < 0) = true then (1 : Int) else 0).toNat (Str.ofString "-")).length ≤ 1 := by
    by_cases h : decide (i < 0) = true
    · rw [if_pos h]; decide +kernel
    · rw [if_neg h]; decide +kernel
  generalize hA : (if i < 0 then -i else i) = A at *
  generalize rep (if decide (i < 0) = true then (1 : Int) else 0).toNat (Str.ofString "-") = B at *
  have a1 : dAdd (.str B) (.str (Str.ofString (toString A))) s = .ok (.str (B ++ Str.ofString (toString A))) s := by
    rw [u_addS, if_pos]
    show B.length + (tx A).length ≤ 1000000
    omega
  have hap : ∀ x y : Str, (x ++ y).length = x.length + y.length := fun x y => by show (x.cps ++ y.cps).size = _; rw [Array.size_append]; rfl
  have a2 : dAdd (.str (B ++ Str.ofString (toString A))) (.str "") s = .ok (.str (tx i)) s := by
    rw [u_addS, if_pos]
    · congr 2
    · have : (Str.ofString "").length = 0 := rfl
      show (B ++ tx A).length + (Str.ofString "").length ≤ 1000000
      rw [hap, this]
      omega
  have habs : cAbs [.int i] s = .ok (.int A) s := by rw [v_abs, hA]
  have hst : cStr [.int A] s = .ok (.str (Str.ofString (toString A))) s := by rw [u_str, if_pos hlog]
  simp only [m_figures, B_figures, S_figures_1, S_figures_5, e_bnd, ↓e_bok, e_bexc, e_ret, e_nox, ↓e_nok, e_cst, e_yes, e_m2, e_m1, e_tst, e_chn, e_and, e_or, e_not, e_vand, e_vor, e_vnot, e_mif, e_anil, e_acons, e_mC, e_call, e_mM, e_sl, e_ono, e_oso, e_dic1, ↓k_tst, ↓k_chnT, ↓k_chnF, ↓k_andT, ↓k_andF, ↓k_orT, ↓k_orF, ↓k_not, ↓k_oso, ↓k_asg, e_seq, ↓e_snx, ↓e_srt, ↓e_sbk, ↓e_sct, ↓e_lok, e_nxs, e_bks, e_cts, e_ex, e_rt, e_set, e_if, e_par, e_asg, f_setix, f_augix, e_sFor, e_forfix, e_src, e_rng1, e_enum, e_lc, e_cmpfix, f_get, ↓f_oo, ↓f_o1, f_ixR, f_ixO, f_ixL, f_ixSl, f_ixT, f_lenR, f_lenO, f_augR, f_setR, f_setO, f_goO, f_run, ↓f_rt, ↓f_nx, v_lenL, v_lenT, v_lenSl, v_addI, v_addII, v_sub, v_neg, v_eqI, v_eqS, v_eqB, v_neI, v_neS, v_lt, v_le, v_gt, v_ge, at_lit, ix_lit', Option.map_some, List.map_cons, List.map_nil, List.length_cons, List.length_nil, List.length_map, List.cons_append, List.nil_append, List.replicate, List.getElem?_cons_zero, List.getElem?_cons_succ, List.set_cons_zero, List.set_cons_succ, List.set_set, f_isi, f_isiO, f_isiB, v_slL, v_slSl, v_max, v_min, v_kF, v_srcL, v_srcS, decide_true, decide_false, ↓reduceIte, Bool.false_eq_true, Bool.true_eq_false, Bool.not_true, Bool.not_false, Nat.reduceAdd, Nat.reduceSub, Nat.reduceLT, ↓u_oS, u_mul, u_div, u_mod, u_slS, u_ixS, u_lenS, u_kLst, u_kTup, u_kLstS, u_rng, u_upper, u_tNm, u_tTup, u_tNil, u_tCns, ↓u_tcR, f_isTS, wipeD, beq_self_eq_true, and_self, true_and, and_true, Int.reduceLT, Nat.reduceLeDiff, Int.reduceLE, Int.reduceNeg, Int.reduceToNat, Int.reduceAdd, g_src, ↓g_srcO, g_enu, ↓g_enuO, g_isT, ↓g_isTO, g_app, ↓g_appO, g_rev, ↓g_revO, g_lis, ↓g_lisO, g_kS, g_LR, g_kLR, h_fld, h_prop, h_meth, h_callO, h_mk, h_isi, h_gfld, h_gprop, h_gisi, h_isC, h_kMeth, ↓h_methR, h_kCallO, ↓h_notR, h_arN, h_tLst, h_asgH, h_srcT, h_max, h_min, e_fz, e_fzF, f_aug, ↓f_augK, h_mkS, k_mkS, k_mkST, e_fmt, e_js, k_js, e_js0, q_callK, q_strO, q_reprO, q_isCint, q_isCbl, q_isCstr, q_isCtup, q_isClst, q_isCnon, q_intB, q_intI, habs, hw, hci, hm, hst, a1, a2]

theorem repr_F {s : Sto} {p : Int × Int} (h1 : sml 190 p.1) (h2 : sml 190 p.2) : m_Lane_repr [LnV p] s = .ok (.str (Str.empty ++ Str.ofString "Lane(" ++ tx p.1 ++ Str.ofString ", " ++ tx p.2 ++ Str.ofString ")")) s := by
  have f1 := figures_F (s := s) h1
  have f2 := figures_F (s := s) h2
  have l1 := tx_len h1
  have l2 := tx_len h2
  have hap : ∀ x y : Str, (x ++ y).length = x.length + y.length := fun x y => by show (x.cps ++ y.cps).size = _; rw [Array.size_append]; rfl
  have k1 : (tx p.1).length ≤ lim := by show _ ≤ 1000000; omega
  have k2 : (tx p.2).length ≤ lim := by show _ ≤ 1000000; omega
  have c1 : (Str.ofString "Lane(").length = 5 := rfl
  have c2 : (Str.ofString ", ").length = 2 := rfl
  have c3 : (Str.ofString ")").length = 1 := rfl
  have c0 : Str.empty.length = 0 := rfl
  have b1 : (Str.empty ++ Str.ofString "Lane(").length ≤ lim := by rw [hap]; show _ ≤ 1000000; omega
  have b2 : (Str.empty ++ Str.ofString "Lane(" ++ tx p.1).length ≤ lim := by rw [hap, hap]; show _ ≤ 1000000; omega
  have b3 : (Str.empty ++ Str.ofString "Lane(" ++ tx p.1 ++ Str.ofString ", ").length ≤ lim := by rw [hap, hap, hap]; show _ ≤ 1000000; omega
  have b4 : (Str.empty ++ Str.ofString "Lane(" ++ tx p.1 ++ Str.ofString ", " ++ tx p.2).length ≤ lim := by rw [hap, hap, hap, hap]; show _ ≤ 1000000; omega
  have b5 : (Str.empty ++ Str.ofString "Lane(" ++ tx p.1 ++ Str.ofString ", " ++ tx p.2 ++ Str.ofString ")").length ≤ lim := by rw [hap, hap, hap, hap, hap]; show _ ≤ 1000000; omega
  simp only [m_Lane_repr, B_Lane_repr, S_Lane_repr_1, e_bnd, ↓e_bok, e_bexc, e_ret, e_nox, ↓e_nok, e_cst, e_yes, e_m2, e_m1, e_tst, e_chn, e_and, e_or, e_not, e_vand, e_vor, e_vnot, e_mif, e_anil, e_acons, e_mC, e_call, e_mM, e_sl, e_ono, e_oso, e_dic1, ↓k_tst, ↓k_chnT, ↓k_chnF, ↓k_andT, ↓k_andF, ↓k_orT, ↓k_orF, ↓k_not, ↓k_oso, ↓k_asg, e_seq, ↓e_snx, ↓e_srt, ↓e_sbk, ↓e_sct, ↓e_lok, e_nxs, e_bks, e_cts, e_ex, e_rt, e_set, e_if, e_par, e_asg, f_setix, f_augix, e_sFor, e_forfix, e_src, e_rng1, e_enum, e_lc, e_cmpfix, f_get, ↓f_oo, ↓f_o1, f_ixR, f_ixO, f_ixL, f_ixSl, f_ixT, f_lenR, f_lenO, f_augR, f_setR, f_setO, f_goO, f_run, ↓f_rt, ↓f_nx, v_lenL, v_lenT, v_lenSl, v_addI, v_addII, v_sub, v_neg, v_eqI, v_eqS, v_eqB, v_neI, v_neS, v_lt, v_le, v_gt, v_ge, at_lit, ix_lit', Option.map_some, List.map_cons, List.map_nil, List.length_cons, List.length_nil, List.length_map, List.cons_append, List.nil_append, List.replicate, List.getElem?_cons_zero, List.getElem?_cons_succ, List.set_cons_zero, List.set_cons_succ, List.set_set, f_isi, f_isiO, f_isiB, v_slL, v_slSl, v_abs, v_max, v_min, v_kF, v_srcL, v_srcS, decide_true, decide_false, ↓reduceIte, Bool.false_eq_true, Bool.true_eq_false, Bool.not_true, Bool.not_false, Nat.reduceAdd, Nat.reduceSub, Nat.reduceLT, ↓u_oS, u_mul, u_mulS, u_div, u_mod, u_addS, u_addL, u_slS, u_ixS, u_lenS, u_str, u_kLst, u_kTup, u_kLstS, u_rng, u_upper, u_tNm, u_tTup, u_tNil, u_tCns, ↓u_tcR, f_isTS, wipeD, beq_self_eq_true, and_self, true_and, and_true, Int.reduceLT, Nat.reduceLeDiff, Int.reduceLE, Int.reduceNeg, Int.reduceToNat, Int.reduceAdd, g_src, ↓g_srcO, g_enu, ↓g_enuO, g_isT, ↓g_isTO, g_app, ↓g_appO, g_rev, ↓g_revO, g_lis, ↓g_lisO, g_kS, g_LR, g_kLR, h_fld, h_prop, h_meth, h_callO, h_mk, h_isi, h_gfld, h_gprop, h_gisi, h_isC, h_kMeth, ↓h_methR, h_kCallO, ↓h_notR, h_arN, h_tLst, h_asgH, h_srcT, h_max, h_min, e_fz, e_fzF, f_aug, ↓f_augK, h_mkS, k_mkS, k_mkST, e_fmt, e_js, k_js, e_js0, q_callK, q_strO, q_reprO, q_isCint, q_isCbl, q_isCstr, q_isCtup, q_isClst, q_isCnon, q_intB, q_intI, fd_Lane_low, fd_Lane_shift, pr_Lane_drift, pr_Lane_least, is_Lane_11099, bo_Lane, ic_Lane, k_fmt, f1, f2, k1, k2, b1, b2, b3, b4, b5]

def ap (p : Int × Int) (w : Int) : Int := max p.1 (w + p.2)
/-! ### what the rows make of a wait -/
theorem ap_mul (p q : Int × Int) (w : Int) : ap (mulP p q) w = ap q (ap p w) := by unfold ap mulP; simp only; omega
theorem ap_nonneg {p : Int × Int} (h : lv p) (w : Int) : 0 ≤ ap p w := by unfold ap lv at *; omega
theorem ap_one {r : Int × Int} {w : Int} (h : 0 ≤ w) : ap (one r) w = max 0 (w + r.1 - r.2) := by unfold ap one; simp only; omega
theorem ap_rep {p : Int × Int} (h : lv p) {m : Int} (hm : 1 ≤ m) (w : Int) : ap (repP p m) w = max (p.1 + max 0 ((m - 1) * p.2)) (w + m * p.2) := by
  unfold ap repP
  rw [if_neg (by omega)]

theorem fold_ap : ∀ (rows : List (Int × Int)) (w : Int), 0 ≤ w → rows.foldl (fun v r => max 0 (v + r.1 - r.2)) w = ap (lfold rows) w := by
  have key : ∀ (rows : List (Int × Int)) (p : Int × Int) (w : Int), lv p → 0 ≤ w → rows.foldl (fun v r => max 0 (v + r.1 - r.2)) (ap p w) = ap (rows.foldl lstep p) w := by
    intro rows
    induction rows with
    | nil => intro p w _ _; rfl
    | cons r rows ih =>
      intro p w hp hw
      rw [List.foldl_cons, List.foldl_cons, ← ih (lstep p r) w (lstep_v hp) hw]
      congr 1
      rw [← mul_one hp, ap_mul, ap_one (ap_nonneg hp w)]
  intro rows w hw
  have := key rows (0, 0) w ⟨by decide, by decide⟩ hw
  rw [show ap (0, 0) w = w by unfold ap; simp only; omega] at this
  exact this

theorem fold_mul : ∀ (rows : List (Int × Int)) (p : Int × Int), lv p → rows.foldl lstep p = mulP p (lfold rows)
  | [], p, h => (mulP_zero h).symm
  | r :: rows, p, h => by
    have e1 : lstep (0, 0) r = one r := by unfold lstep one; simp only [Int.zero_add]
    rw [List.foldl_cons, fold_mul rows _ (lstep_v h), ← mul_one h, mulP_assoc]
    unfold lfold
    rw [List.foldl_cons, e1, fold_mul rows _ (one_v r)]
    rfl
theorem lfold_app (a b : List (Int × Int)) : lfold (a ++ b) = mulP (lfold a) (lfold b) := by
  have : lfold (a ++ b) = b.foldl lstep (lfold a) := List.foldl_append
  rw [this, fold_mul b _ (lfold_v a)]
theorem fold_bnd : ∀ (rows : List (Int × Int)) (p : Int × Int), (∀ r ∈ rows, bnd2 r) → ((rows.foldl lstep p).2 - p.2).natAbs ≤ rows.length * 1000000000000000000
  | [], p, _ => by simp
  | r :: rows, p, h => by
    have ih := fold_bnd rows (lstep p r) fun q hq => h q (List.mem_cons_of_mem _ hq)
    obtain ⟨⟨a0, a1⟩, ⟨b0, b1⟩⟩ := h r List.mem_cons_self
    rw [List.foldl_cons, List.length_cons]
    have e : (lstep p r).2 = p.2 + r.1 - r.2 := rfl
    rw [e] at ih
    omega
theorem lfold_bnd {rows : List (Int × Int)} {k : Nat} (h : ∀ r ∈ rows, bnd2 r) (hl : rows.length ≤ k) : (lfold rows).2.natAbs ≤ k * 1000000000000000000 := by
  have := fold_bnd rows (0, 0) h
  have e : (lfold rows).2 = (rows.foldl lstep (0, 0)).2 := rfl
  rw [e]
  have := Nat.mul_le_mul_right 1000000000000000000 hl
  omega
theorem fold_mono {P : Int × Int → Int × Int → Prop} (hP : ∀ r q, P r q → r.1 ≤ q.1 ∧ q.2 = r.2) : ∀ {rows rows' : List (Int × Int)}, Al P rows rows' → ∀ (p q : Int × Int), p.1 ≤ q.1 → p.2 ≤ q.2 → (rows.foldl lstep p).1 ≤ (rows'.foldl lstep q).1 ∧ (rows.foldl lstep p).2 ≤ (rows'.foldl lstep q).2
  | _, _, .nil, p, q, h1, h2 => ⟨h1, h2⟩
  | _, _, .cons (a := a) (b := b) h r, p, q, h1, h2 => by
    obtain ⟨x1, x2⟩ := hP _ _ h
    rw [List.foldl_cons, List.foldl_cons]
    refine fold_mono hP r _ _ ?_ ?_
    · unfold lstep; simp only; omega
    · unfold lstep; simp only; omega

theorem fold_bnd1 : ∀ (rows : List (Int × Int)) (p : Int × Int), 0 ≤ p.1 → (∀ r ∈ rows, bnd2 r) → 0 ≤ (rows.foldl lstep p).1 ∧ (rows.foldl lstep p).1 ≤ p.1 + rows.length * 1000000000000000000
  | [], p, h0, _ => by
    show 0 ≤ p.1 ∧ p.1 ≤ p.1 + _
    simp
    exact h0
  | r :: rows, p, h0, h => by
    have e0 : 0 ≤ (lstep p r).1 := by unfold lstep; simp only; omega
    have ih := fold_bnd1 rows (lstep p r) e0 fun q hq => h q (List.mem_cons_of_mem _ hq)
    obtain ⟨⟨a0, a1⟩, ⟨b0, b1⟩⟩ := h r List.mem_cons_self
    rw [List.foldl_cons, List.length_cons]
    have e : (lstep p r).1 ≤ p.1 + 1000000000000000000 := by unfold lstep; simp only; omega
    omega
theorem pre_sml {rows : List (Int × Int)} (h : ∀ r ∈ rows, bnd2 r) (hl : rows.length ≤ 1000) (i : Nat) : sml 300 (lfold (rows.take i)).1 ∧ sml 300 (lfold (rows.take i)).2 := by
  have hb : ∀ r ∈ rows.take i, bnd2 r := fun r hr => h r (List.mem_of_mem_take hr)
  have hl' : (rows.take i).length ≤ 1000 := by rw [List.length_take]; omega
  have h1 := fold_bnd1 (rows.take i) (0, 0) (by decide) hb
  have h2 := lfold_bnd hb hl'
  have e : (lfold (rows.take i)).1 = ((rows.take i).foldl lstep (0, 0)).1 := rfl
  have e0 : ((0, 0) : Int × Int).1 = 0 := rfl
  rw [e0] at h1
  rw [← e] at h1
  exact ⟨sml_mono (a := 100) (show _ < 2 ^ 100 by omega) (by decide), sml_mono (a := 100) (show _ < 2 ^ 100 by omega) (by decide)⟩

def pd2 (r : Int × Int) : PyData := .tuple [.int r.1, .int r.2]
theorem rows_dat {s : Sto} (rows : List (Int × Int)) : dat s (.lst (rows.map rw2)) = some (.list (rows.map pd2)) := toP_lst fun r _ => rfl
theorem rows_ne {s : Sto} (rows : List (Int × Int)) : dNe (.lst (rows.map rw2)) (.lst (rows.map rw2)) s = .ok (.bl false) s := ne_same (rows_dat rows) (rows_dat rows) (lay_list fun r _ => rfl)

theorem slen_app (a b : Str) : (a ++ b).length = a.length + b.length := by
  show (a.cps ++ b.cps).size = _
  rw [Array.size_append]; rfl
theorem textFrom_le : ∀ (ts : List Str) (k : Nat) (acc : Str), (textFrom k acc ts).length ≤ acc.length + (ts.map fun t => t.length + 2).sum
  | [], k, acc => by simp [textFrom]
  | t :: ts, k, acc => by
    unfold textFrom
    have h := textFrom_le ts (k + 1) (acc ++ (if k > 0 then ", " else "" : String) ++ t)
    rw [slen_app, slen_app] at h
    have h2 : (((if k > 0 then ", " else "" : String) : String) : Str).length ≤ 2 := by split <;> decide
    rw [List.map_cons, List.sum_cons]
    omega
theorem listText_le (ts : List Str) : (listText ts).length ≤ 2 + (ts.map fun t => t.length + 2).sum := by
  unfold listText
  have h := textFrom_le ts 0 "["
  rw [slen_app]
  have h1 : (("[" : String) : Str).length = 1 := rfl
  have h2 : (("]" : String) : Str).length = 1 := rfl
  omega

theorem ownE {s : Sto} (p q : Int × Int) : dOwnE "Lane" (arN 2 m_Lane_eq) dEq (LnV p) (LnV q) s = .ok (.bl (p.1 == q.1 && p.2 == q.2)) s := by
  have h := eq_F (s := s) p q
  have hc : (("Lane" : Str) == ("Lane" : Str)) = true := beq_self_eq_true _
  rw [q_ownE]
  simp only [q_lhs, fd_Lane_low, fd_Lane_shift, pr_Lane_drift, pr_Lane_least, is_Lane_11099, bo_Lane, ic_Lane, q_rins, hc, Bool.and_self, ↓reduceIte, h_arN, h, List.length_cons, List.length_nil, Nat.reduceAdd, e_nok]
theorem ownN {s : Sto} (p q : Int × Int) : dOwnN "Lane" (arN 2 m_Lane_eq) dNe (LnV p) (LnV q) s = .ok (.bl (!(p.1 == q.1 && p.2 == q.2))) s := by
  have h := eq_F (s := s) p q
  have hc : (("Lane" : Str) == ("Lane" : Str)) = true := beq_self_eq_true _
  rw [q_ownN]
  simp only [q_lhs, fd_Lane_low, fd_Lane_shift, pr_Lane_drift, pr_Lane_least, is_Lane_11099, bo_Lane, ic_Lane, q_rins, hc, Bool.and_self, ↓reduceIte, h_arN, h, List.length_cons, List.length_nil, Nat.reduceAdd, h_notR]
theorem eq_other {s : Sto} (p : Int × Int) {y : D} (hi : gIsi [("Lane", true)] y s = .ok (.bl false) s) : m_Lane_eq [LnV p, y] s = .ok (.bl false) s := by
  simp only [m_Lane_eq, B_Lane_eq, S_Lane_eq_1, e_bnd, ↓e_bok, e_bexc, e_ret, e_nox, ↓e_nok, e_cst, e_yes, e_m2, e_m1, e_tst, e_chn, e_and, e_or, e_not, e_vand, e_vor, e_vnot, e_mif, e_anil, e_acons, e_mC, e_call, e_mM, e_sl, e_ono, e_oso, e_dic1, ↓k_tst, ↓k_chnT, ↓k_chnF, ↓k_andT, ↓k_andF, ↓k_orT, ↓k_orF, ↓k_not, ↓k_oso, ↓k_asg, e_seq, ↓e_snx, ↓e_srt, ↓e_sbk, ↓e_sct, ↓e_lok, e_nxs, e_bks, e_cts, e_ex, e_rt, e_set, e_if, e_par, e_asg, f_setix, f_augix, e_sFor, e_forfix, e_src, e_rng1, e_enum, e_lc, e_cmpfix, f_get, ↓f_oo, ↓f_o1, f_ixR, f_ixO, f_ixL, f_ixSl, f_ixT, f_lenR, f_lenO, f_augR, f_setR, f_setO, f_goO, f_run, ↓f_rt, ↓f_nx, v_lenL, v_lenT, v_lenSl, v_addI, v_addII, v_sub, v_neg, v_eqI, v_eqS, v_eqB, v_neI, v_neS, v_lt, v_le, v_gt, v_ge, at_lit, ix_lit', Option.map_some, List.map_cons, List.map_nil, List.length_cons, List.length_nil, List.length_map, List.cons_append, List.nil_append, List.replicate, List.getElem?_cons_zero, List.getElem?_cons_succ, List.set_cons_zero, List.set_cons_succ, List.set_set, f_isi, f_isiO, f_isiB, v_slL, v_slSl, v_abs, v_max, v_min, v_kF, v_srcL, v_srcS, decide_true, decide_false, ↓reduceIte, Bool.false_eq_true, Bool.true_eq_false, Bool.not_true, Bool.not_false, Nat.reduceAdd, Nat.reduceSub, Nat.reduceLT, ↓u_oS, u_mul, u_mulS, u_div, u_mod, u_addS, u_addL, u_slS, u_ixS, u_lenS, u_str, u_kLst, u_kTup, u_kLstS, u_rng, u_upper, u_tNm, u_tTup, u_tNil, u_tCns, ↓u_tcR, f_isTS, wipeD, beq_self_eq_true, and_self, true_and, and_true, Int.reduceLT, Nat.reduceLeDiff, Int.reduceLE, Int.reduceNeg, Int.reduceToNat, Int.reduceAdd, g_src, ↓g_srcO, g_enu, ↓g_enuO, g_isT, ↓g_isTO, g_app, ↓g_appO, g_rev, ↓g_revO, g_lis, ↓g_lisO, g_kS, g_LR, g_kLR, h_fld, h_prop, h_meth, h_callO, h_mk, h_isi, h_gfld, h_gprop, h_gisi, h_isC, h_kMeth, ↓h_methR, h_kCallO, ↓h_notR, h_arN, h_tLst, h_asgH, h_srcT, h_max, h_min, e_fz, e_fzF, f_aug, ↓f_augK, h_mkS, k_mkS, k_mkST, e_fmt, e_js, k_js, e_js0, q_callK, q_strO, q_reprO, q_isCint, q_isCbl, q_isCstr, q_isCtup, q_isClst, q_isCnon, q_intB, q_intI, hi]
theorem ownN_tup {s : Sto} (p : Int × Int) (xs : List D) : dOwnN "Lane" (arN 2 m_Lane_eq) dNe (LnV p) (.tup xs) s = .ok (.bl true) s := by
  have h := eq_other (s := s) p (y := .tup xs) rfl
  rw [q_ownN]
  simp only [q_lhs, fd_Lane_low, fd_Lane_shift, pr_Lane_drift, pr_Lane_least, is_Lane_11099, bo_Lane, ic_Lane, q_rtup, Bool.and_self, ↓reduceIte, h_arN, h, List.length_cons, List.length_nil, Nat.reduceAdd, h_notR, Bool.not_false]
theorem ownN_lst {s : Sto} (p : Int × Int) (xs : List D) : dOwnN "Lane" (arN 2 m_Lane_eq) dNe (LnV p) (.lst xs) s = .ok (.bl true) s := by
  have h := eq_other (s := s) p (y := .lst xs) rfl
  rw [q_ownN]
  simp only [q_lhs, fd_Lane_low, fd_Lane_shift, pr_Lane_drift, pr_Lane_least, is_Lane_11099, bo_Lane, ic_Lane, q_rlst, Bool.and_self, ↓reduceIte, h_arN, h, List.length_cons, List.length_nil, Nat.reduceAdd, h_notR, Bool.not_false]
theorem wait_W {s : Sto} (rows : List (Int × Int)) {w : Int} (hw : 0 ≤ w) : m_l_wait [.lst (rows.map rw2), .int w] s = .ok (.int (ap (lfold rows) w)) s := by
  obtain ⟨σ9, s11, f11, ⟨d16, d17, rfl⟩, rfl⟩ := forL_fold (body := bdy (tTup (tCns (tNm 2) (tCns (tNm 3) tNil))) S_l_wait_2) rw2 (fun (u : Int) r => max 0 (u + r.1 - r.2))
    (fun u σ' s' => (∃ d16 d17, σ' = [some (.lst (rows.map rw2)), some (.int u), d16, d17]) ∧ s' = s) rows w [some (.lst (rows.map rw2)), some (.int w), none, none] s ⟨⟨none, none, rfl⟩, rfl⟩ (by
      rintro ⟨r1, r2⟩ _ u σ' s' ⟨⟨d16, d17, rfl⟩, rfl⟩
      refine ⟨_, _, ?_, ⟨some (.int r1), some (.int r2), rfl⟩, rfl⟩
      rw [e_bdy _ _ _ (show tTup (tCns (tNm 2) (tCns (tNm 3) tNil)) (rw2 (r1, r2)) _ = some _ from rfl)]
      simp only [S_l_wait_2, e_bnd, ↓e_bok, e_bexc, e_ret, e_nox, ↓e_nok, e_cst, e_yes, e_m2, e_m1, e_tst, e_chn, e_and, e_or, e_not, e_vand, e_vor, e_vnot, e_mif, e_anil, e_acons, e_mC, e_call, e_mM, e_sl, e_ono, e_oso, e_dic1, ↓k_tst, ↓k_chnT, ↓k_chnF, ↓k_andT, ↓k_andF, ↓k_orT, ↓k_orF, ↓k_not, ↓k_oso, ↓k_asg, e_seq, ↓e_snx, ↓e_srt, ↓e_sbk, ↓e_sct, ↓e_lok, e_nxs, e_bks, e_cts, e_ex, e_rt, e_set, e_if, e_par, e_asg, f_setix, f_augix, e_sFor, e_forfix, e_src, e_rng1, e_enum, e_lc, e_cmpfix, f_get, ↓f_oo, ↓f_o1, f_ixR, f_ixO, f_ixL, f_ixSl, f_ixT, f_lenR, f_lenO, f_augR, f_setR, f_setO, f_goO, f_run, ↓f_rt, ↓f_nx, v_lenL, v_lenT, v_lenSl, v_addI, v_addII, v_sub, v_neg, v_eqI, v_eqS, v_eqB, v_neI, v_neS, v_lt, v_le, v_gt, v_ge, at_lit, ix_lit', Option.map_some, List.map_cons, List.map_nil, List.length_cons, List.length_nil, List.length_map, List.cons_append, List.nil_append, List.replicate, List.getElem?_cons_zero, List.getElem?_cons_succ, List.set_cons_zero, List.set_cons_succ, List.set_set, f_isi, f_isiO, f_isiB, v_slL, v_slSl, v_abs, v_max, v_min, v_kF, v_srcL, v_srcS, decide_true, decide_false, ↓reduceIte, Bool.false_eq_true, Bool.true_eq_false, Bool.not_true, Bool.not_false, Nat.reduceAdd, Nat.reduceSub, Nat.reduceLT, ↓u_oS, u_mul, u_mulS, u_div, u_mod, u_addS, u_addL, u_slS, u_ixS, u_lenS, u_str, u_kLst, u_kTup, u_kLstS, u_rng, u_upper, u_tNm, u_tTup, u_tNil, u_tCns, ↓u_tcR, f_isTS, wipeD, beq_self_eq_true, and_self, true_and, and_true, Int.reduceLT, Nat.reduceLeDiff, Int.reduceLE, Int.reduceNeg, Int.reduceToNat, Int.reduceAdd, g_src, ↓g_srcO, g_enu, ↓g_enuO, g_isT, ↓g_isTO, g_app, ↓g_appO, g_rev, ↓g_revO, g_lis, ↓g_lisO, g_kS, g_LR, g_kLR, h_fld, h_prop, h_meth, h_callO, h_mk, h_isi, h_gfld, h_gprop, h_gisi, h_isC, h_kMeth, ↓h_methR, h_kCallO, ↓h_notR, h_arN, h_tLst, h_asgH, h_srcT, h_max, h_min, e_fz, e_fzF, f_aug, ↓f_augK, h_mkS, k_mkS, k_mkST, e_fmt, e_js, k_js, e_js0, q_callK, q_strO, q_reprO, q_isCint, q_isCbl, q_isCstr, q_isCtup, q_isClst, q_isCnon, q_intB, q_intI])
  rw [fold_ap rows w hw] at f11
  simp only [m_l_wait, B_l_wait, S_l_wait_1, S_l_wait_3, e_bnd, ↓e_bok, e_bexc, e_ret, e_nox, ↓e_nok, e_cst, e_yes, e_m2, e_m1, e_tst, e_chn, e_and, e_or, e_not, e_vand, e_vor, e_vnot, e_mif, e_anil, e_acons, e_mC, e_call, e_mM, e_sl, e_ono, e_oso, e_dic1, ↓k_tst, ↓k_chnT, ↓k_chnF, ↓k_andT, ↓k_andF, ↓k_orT, ↓k_orF, ↓k_not, ↓k_oso, ↓k_asg, e_seq, ↓e_snx, ↓e_srt, ↓e_sbk, ↓e_sct, ↓e_lok, e_nxs, e_bks, e_cts, e_ex, e_rt, e_set, e_if, e_par, e_asg, f_setix, f_augix, e_sFor, e_forfix, e_src, e_rng1, e_enum, e_lc, e_cmpfix, f_get, ↓f_oo, ↓f_o1, f_ixR, f_ixO, f_ixL, f_ixSl, f_ixT, f_lenR, f_lenO, f_augR, f_setR, f_setO, f_goO, f_run, ↓f_rt, ↓f_nx, v_lenL, v_lenT, v_lenSl, v_addI, v_addII, v_sub, v_neg, v_eqI, v_eqS, v_eqB, v_neI, v_neS, v_lt, v_le, v_gt, v_ge, at_lit, ix_lit', Option.map_some, List.map_cons, List.map_nil, List.length_cons, List.length_nil, List.length_map, List.cons_append, List.nil_append, List.replicate, List.getElem?_cons_zero, List.getElem?_cons_succ, List.set_cons_zero, List.set_cons_succ, List.set_set, f_isi, f_isiO, f_isiB, v_slL, v_slSl, v_abs, v_max, v_min, v_kF, v_srcL, v_srcS, decide_true, decide_false, ↓reduceIte, Bool.false_eq_true, Bool.true_eq_false, Bool.not_true, Bool.not_false, Nat.reduceAdd, Nat.reduceSub, Nat.reduceLT, ↓u_oS, u_mul, u_mulS, u_div, u_mod, u_addS, u_addL, u_slS, u_ixS, u_lenS, u_str, u_kLst, u_kTup, u_kLstS, u_rng, u_upper, u_tNm, u_tTup, u_tNil, u_tCns, ↓u_tcR, f_isTS, wipeD, beq_self_eq_true, and_self, true_and, and_true, Int.reduceLT, Nat.reduceLeDiff, Int.reduceLE, Int.reduceNeg, Int.reduceToNat, Int.reduceAdd, g_src, ↓g_srcO, g_enu, ↓g_enuO, g_isT, ↓g_isTO, g_app, ↓g_appO, g_rev, ↓g_revO, g_lis, ↓g_lisO, g_kS, g_LR, g_kLR, h_fld, h_prop, h_meth, h_callO, h_mk, h_isi, h_gfld, h_gprop, h_gisi, h_isC, h_kMeth, ↓h_methR, h_kCallO, ↓h_notR, h_arN, h_tLst, h_asgH, h_srcT, h_max, h_min, e_fz, e_fzF, f_aug, ↓f_augK, h_mkS, k_mkS, k_mkST, e_fmt, e_js, k_js, e_js0, q_callK, q_strO, q_reprO, q_isCint, q_isCbl, q_isCstr, q_isCtup, q_isClst, q_isCnon, q_intB, q_intI, f11]
theorem shift_sum : ∀ (rows : List (Int × Int)) (p : Int × Int), (rows.foldl lstep p).2 = p.2 + (rows.map fun r => r.1 - r.2).sum
  | [], p => by simp
  | r :: rows, p => by
    rw [List.foldl_cons, shift_sum rows, List.map_cons, List.sum_cons]
    show p.2 + r.1 - r.2 + _ = _
    omega
theorem repr2 {s : Sto} {a b : Int} (ha : sml 190 a) (hb : sml 190 b) : cRepr [.lst [.int a, .int b]] s = .ok (.str (PyData.list [.int a, .int b]).shown) s := by
  have lg : ∀ {i : Int}, sml 190 i → i.natAbs.log2 < 1920 := fun {i} h => by
    unfold sml at h
    by_cases hz : i.natAbs = 0
    · rw [hz]; decide
    · exact Nat.lt_trans ((Nat.log2_lt hz).mpr h) (by decide)
  refine v_repr rfl (by simp only [PyData.showable, PyData.showableAll, Bool.and_true, Bool.and_eq_true, decide_eq_true_eq]; exact ⟨lg ha, lg hb⟩) ?_
  have h1 := listText_le [tx a, tx b]
  have h2 := tx_len ha
  have h3 := tx_len hb
  have e : (PyData.list [.int a, .int b]).shown = listText [tx a, tx b] := rfl
  rw [e]
  simp only [List.map_cons, List.map_nil, List.sum_cons, List.sum_nil] at h1
  show _ ≤ 1000000
  omega
theorem right_ok {s0 s : Sto} {n b : Nat} {rows : List (Int × Int)} (h : Kp s0 s n b) (hb : b ≤ 1000000) (h1 : rows.length ≤ 1000) (hbd : ∀ r ∈ rows, bnd2 r) : ∃ s1, m_l_lane_right [.ref n, LnV (lfold rows), .lst (rows.map rw2)] s = .ok (.bl true) s1 ∧ Kp s0 s1 n (b + 20) := by
  have v := lfold_v rows
  have hp1 : (lfold rows).1.natAbs < 2 ^ 100 := by
    have h1 := fold_bnd1 rows (0, 0) (by decide) hbd
    have e : (lfold rows).1 = (rows.foldl lstep (0, 0)).1 := rfl
    have e0 : ((0, 0) : Int × Int).1 = 0 := rfl
    rw [e0, ← e] at h1
    omega
  have hp2 : (lfold rows).2.natAbs < 2 ^ 100 := by
    have h2 := lfold_bnd hbd h1
    omega
  have hs1 : sml 190 (lfold rows).1 := sml_mono (a := 100) hp1 (by decide)
  have hs2 : sml 190 (lfold rows).2 := sml_mono (a := 100) hp2 (by decide)
  have hsum : (rows.map fun r => r.1 - r.2).sum = (lfold rows).2 := by
    have := shift_sum rows (0, 0)
    have e0 : ((0, 0) : Int × Int).2 = 0 := rfl
    rw [e0, Int.zero_add] at this
    exact this.symm
  obtain ⟨ds, s', fc, al, rfl⟩ := cmpL_al (g := tTup (tCns (tNm 6) (tCns (tNm 7) tNil))) (e := E_l_lane_right_1_21) (σ := [some (.ref n), some (LnV (lfold rows)), some (.lst (rows.map rw2)), none, none, none, none, none]) rw2 D.int (fun _ s' => s' = s) (fun r q => q = r.1 - r.2) rows [] s 0 rfl (by
    rintro ⟨r1, r2⟩ _ k' s' rfl _
    exact ⟨_, r1 - r2, s', rfl, by simp only [E_l_lane_right_1_21, e_bnd, ↓e_bok, e_bexc, e_ret, e_nox, ↓e_nok, e_cst, e_yes, e_m2, e_m1, e_tst, e_chn, e_and, e_or, e_not, e_vand, e_vor, e_vnot, e_mif, e_anil, e_acons, e_mC, e_call, e_mM, e_sl, e_ono, e_oso, e_dic1, ↓k_tst, ↓k_chnT, ↓k_chnF, ↓k_andT, ↓k_andF, ↓k_orT, ↓k_orF, ↓k_not, ↓k_oso, ↓k_asg, e_seq, ↓e_snx, ↓e_srt, ↓e_sbk, ↓e_sct, ↓e_lok, e_nxs, e_bks, e_cts, e_ex, e_rt, e_set, e_if, e_par, e_asg, f_setix, f_augix, e_sFor, e_forfix, e_src, e_rng1, e_enum, e_lc, e_cmpfix, f_get, ↓f_oo, ↓f_o1, f_ixR, f_ixO, f_ixL, f_ixSl, f_ixT, f_lenR, f_lenO, f_augR, f_setR, f_setO, f_goO, f_run, ↓f_rt, ↓f_nx, v_lenL, v_lenT, v_lenSl, v_addI, v_addII, v_sub, v_neg, v_eqI, v_eqS, v_eqB, v_neI, v_neS, v_lt, v_le, v_gt, v_ge, at_lit, ix_lit', Option.map_some, List.map_cons, List.map_nil, List.length_cons, List.length_nil, List.length_map, List.cons_append, List.nil_append, List.replicate, List.getElem?_cons_zero, List.getElem?_cons_succ, List.set_cons_zero, List.set_cons_succ, List.set_set, f_isi, f_isiO, f_isiB, v_slL, v_slSl, v_abs, v_max, v_min, v_kF, v_srcL, v_srcS, decide_true, decide_false, ↓reduceIte, Bool.false_eq_true, Bool.true_eq_false, Bool.not_true, Bool.not_false, Nat.reduceAdd, Nat.reduceSub, Nat.reduceLT, ↓u_oS, u_mul, u_mulS, u_div, u_mod, u_addS, u_addL, u_slS, u_ixS, u_lenS, u_str, u_kLst, u_kTup, u_kLstS, u_rng, u_upper, u_tNm, u_tTup, u_tNil, u_tCns, ↓u_tcR, f_isTS, wipeD, beq_self_eq_true, and_self, true_and, and_true, Int.reduceLT, Nat.reduceLeDiff, Int.reduceLE, Int.reduceNeg, Int.reduceToNat, Int.reduceAdd, g_src, ↓g_srcO, g_enu, ↓g_enuO, g_isT, ↓g_isTO, g_app, ↓g_appO, g_rev, ↓g_revO, g_lis, ↓g_lisO, g_kS, g_LR, g_kLR, h_fld, h_prop, h_meth, h_callO, h_mk, h_isi, h_gfld, h_gprop, h_gisi, h_isC, h_kMeth, ↓h_methR, h_kCallO, ↓h_notR, h_arN, h_tLst, h_asgH, h_srcT, h_max, h_min, e_fz, e_fzF, f_aug, ↓f_augK, h_mkS, k_mkS, k_mkST, e_fmt, e_js, k_js, e_js0, q_callK, q_strO, q_reprO, q_isCint, q_isCbl, q_isCstr, q_isCtup, q_isClst, q_isCnon, q_intB, q_intI], rfl, rfl⟩) (by show 0 + rows.length ≤ 1000000; omega)
  have hds : ∀ (l : List (Int × Int)) (q : List Int), Al (fun r q => q = r.1 - r.2) l q → q = l.map fun r => r.1 - r.2 := by
    intro l q hq
    induction hq with
    | nil => rfl
    | cons h1 _ ih => rw [List.map_cons, ← h1, ← ih]
  have hds' := hds _ _ al
  subst hds'
  rw [List.nil_append] at fc
  have hv := q_sum (s := s') (rows.map fun r => r.1 - r.2)
  rw [hsum] at hv
  have hw0 := wait_W (s := s') rows (w := 0) (by decide)
  have ha0 : ap (lfold rows) 0 = (lfold rows).1 := by unfold ap lv at *; omega
  rw [ha0] at hw0
  have pl : ∀ s, m_Lane_least [LnV (lfold rows)] s = .ok (.int (lfold rows).1) s := fun s => by simp only [m_Lane_least, B_Lane_least, S_Lane_least_1, e_bnd, ↓e_bok, e_bexc, e_ret, e_nox, ↓e_nok, e_cst, e_yes, e_m2, e_m1, e_tst, e_chn, e_and, e_or, e_not, e_vand, e_vor, e_vnot, e_mif, e_anil, e_acons, e_mC, e_call, e_mM, e_sl, e_ono, e_oso, e_dic1, ↓k_tst, ↓k_chnT, ↓k_chnF, ↓k_andT, ↓k_andF, ↓k_orT, ↓k_orF, ↓k_not, ↓k_oso, ↓k_asg, e_seq, ↓e_snx, ↓e_srt, ↓e_sbk, ↓e_sct, ↓e_lok, e_nxs, e_bks, e_cts, e_ex, e_rt, e_set, e_if, e_par, e_asg, f_setix, f_augix, e_sFor, e_forfix, e_src, e_rng1, e_enum, e_lc, e_cmpfix, f_get, ↓f_oo, ↓f_o1, f_ixR, f_ixO, f_ixL, f_ixSl, f_ixT, f_lenR, f_lenO, f_augR, f_setR, f_setO, f_goO, f_run, ↓f_rt, ↓f_nx, v_lenL, v_lenT, v_lenSl, v_addI, v_addII, v_sub, v_neg, v_eqI, v_eqS, v_eqB, v_neI, v_neS, v_lt, v_le, v_gt, v_ge, at_lit, ix_lit', Option.map_some, List.map_cons, List.map_nil, List.length_cons, List.length_nil, List.length_map, List.cons_append, List.nil_append, List.replicate, List.getElem?_cons_zero, List.getElem?_cons_succ, List.set_cons_zero, List.set_cons_succ, List.set_set, f_isi, f_isiO, f_isiB, v_slL, v_slSl, v_abs, v_max, v_min, v_kF, v_srcL, v_srcS, decide_true, decide_false, ↓reduceIte, Bool.false_eq_true, Bool.true_eq_false, Bool.not_true, Bool.not_false, Nat.reduceAdd, Nat.reduceSub, Nat.reduceLT, ↓u_oS, u_mul, u_mulS, u_div, u_mod, u_addS, u_addL, u_slS, u_ixS, u_lenS, u_str, u_kLst, u_kTup, u_kLstS, u_rng, u_upper, u_tNm, u_tTup, u_tNil, u_tCns, ↓u_tcR, f_isTS, wipeD, beq_self_eq_true, and_self, true_and, and_true, Int.reduceLT, Nat.reduceLeDiff, Int.reduceLE, Int.reduceNeg, Int.reduceToNat, Int.reduceAdd, g_src, ↓g_srcO, g_enu, ↓g_enuO, g_isT, ↓g_isTO, g_app, ↓g_appO, g_rev, ↓g_revO, g_lis, ↓g_lisO, g_kS, g_LR, g_kLR, h_fld, h_prop, h_meth, h_callO, h_mk, h_isi, h_gfld, h_gprop, h_gisi, h_isC, h_kMeth, ↓h_methR, h_kCallO, ↓h_notR, h_arN, h_tLst, h_asgH, h_srcT, h_max, h_min, e_fz, e_fzF, f_aug, ↓f_augK, h_mkS, k_mkS, k_mkST, e_fmt, e_js, k_js, e_js0, q_callK, q_strO, q_reprO, q_isCint, q_isCbl, q_isCstr, q_isCtup, q_isClst, q_isCnon, q_intB, q_intI, fd_Lane_low, fd_Lane_shift, pr_Lane_drift, pr_Lane_least, is_Lane_11099, bo_Lane, ic_Lane]
  have pd : ∀ s, m_Lane_drift [LnV (lfold rows)] s = .ok (.int (lfold rows).2) s := fun s => by simp only [m_Lane_drift, B_Lane_drift, S_Lane_drift_1, e_bnd, ↓e_bok, e_bexc, e_ret, e_nox, ↓e_nok, e_cst, e_yes, e_m2, e_m1, e_tst, e_chn, e_and, e_or, e_not, e_vand, e_vor, e_vnot, e_mif, e_anil, e_acons, e_mC, e_call, e_mM, e_sl, e_ono, e_oso, e_dic1, ↓k_tst, ↓k_chnT, ↓k_chnF, ↓k_andT, ↓k_andF, ↓k_orT, ↓k_orF, ↓k_not, ↓k_oso, ↓k_asg, e_seq, ↓e_snx, ↓e_srt, ↓e_sbk, ↓e_sct, ↓e_lok, e_nxs, e_bks, e_cts, e_ex, e_rt, e_set, e_if, e_par, e_asg, f_setix, f_augix, e_sFor, e_forfix, e_src, e_rng1, e_enum, e_lc, e_cmpfix, f_get, ↓f_oo, ↓f_o1, f_ixR, f_ixO, f_ixL, f_ixSl, f_ixT, f_lenR, f_lenO, f_augR, f_setR, f_setO, f_goO, f_run, ↓f_rt, ↓f_nx, v_lenL, v_lenT, v_lenSl, v_addI, v_addII, v_sub, v_neg, v_eqI, v_eqS, v_eqB, v_neI, v_neS, v_lt, v_le, v_gt, v_ge, at_lit, ix_lit', Option.map_some, List.map_cons, List.map_nil, List.length_cons, List.length_nil, List.length_map, List.cons_append, List.nil_append, List.replicate, List.getElem?_cons_zero, List.getElem?_cons_succ, List.set_cons_zero, List.set_cons_succ, List.set_set, f_isi, f_isiO, f_isiB, v_slL, v_slSl, v_abs, v_max, v_min, v_kF, v_srcL, v_srcS, decide_true, decide_false, ↓reduceIte, Bool.false_eq_true, Bool.true_eq_false, Bool.not_true, Bool.not_false, Nat.reduceAdd, Nat.reduceSub, Nat.reduceLT, ↓u_oS, u_mul, u_mulS, u_div, u_mod, u_addS, u_addL, u_slS, u_ixS, u_lenS, u_str, u_kLst, u_kTup, u_kLstS, u_rng, u_upper, u_tNm, u_tTup, u_tNil, u_tCns, ↓u_tcR, f_isTS, wipeD, beq_self_eq_true, and_self, true_and, and_true, Int.reduceLT, Nat.reduceLeDiff, Int.reduceLE, Int.reduceNeg, Int.reduceToNat, Int.reduceAdd, g_src, ↓g_srcO, g_enu, ↓g_enuO, g_isT, ↓g_isTO, g_app, ↓g_appO, g_rev, ↓g_revO, g_lis, ↓g_lisO, g_kS, g_LR, g_kLR, h_fld, h_prop, h_meth, h_callO, h_mk, h_isi, h_gfld, h_gprop, h_gisi, h_isC, h_kMeth, ↓h_methR, h_kCallO, ↓h_notR, h_arN, h_tLst, h_asgH, h_srcT, h_max, h_min, e_fz, e_fzF, f_aug, ↓f_augK, h_mkS, k_mkS, k_mkST, e_fmt, e_js, k_js, e_js0, q_callK, q_strO, q_reprO, q_isCint, q_isCbl, q_isCstr, q_isCtup, q_isClst, q_isCnon, q_intB, q_intI, fd_Lane_low, fd_Lane_shift, pr_Lane_drift, pr_Lane_least, is_Lane_11099, bo_Lane, ic_Lane]
  have r2 := repr2 (s := s') hs1 hs2
  have rF := repr_F (s := s') hs1 hs2
  have lg : ∀ {i : Int}, sml 190 i → i.natAbs.log2 < 1920 := fun {i} h => by
    unfold sml at h
    by_cases hz : i.natAbs = 0
    · rw [hz]; decide
    · exact Nat.lt_trans ((Nat.log2_lt hz).mpr h) (by decide)
  have st1 : cStr [.int (lfold rows).1] s' = .ok (.str (tx (lfold rows).1)) s' := by rw [u_str, if_pos (lg hs1)]; rfl
  have st2 : cStr [.int (lfold rows).2] s' = .ok (.str (tx (lfold rows).2)) s' := by rw [u_str, if_pos (lg hs2)]; rfl
  have x1 := tx_len hs1
  have x2 := tx_len hs2
  have c1 : (Str.ofString "Lane(").length = 5 := rfl
  have c2 : (Str.ofString ", ").length = 2 := rfl
  have c3 : (Str.ofString ")").length = 1 := rfl
  have a1 : dAdd (.str "Lane(") (.str (tx (lfold rows).1)) s' = .ok (.str (Str.ofString "Lane(" ++ tx (lfold rows).1)) s' := by
    rw [u_addS, if_pos]; show (Str.ofString "Lane(").length + _ ≤ 1000000; omega
  have a2 : dAdd (.str (Str.ofString "Lane(" ++ tx (lfold rows).1)) (.str ", ") s' = .ok (.str (Str.ofString "Lane(" ++ tx (lfold rows).1 ++ Str.ofString ", ")) s' := by
    rw [u_addS, if_pos]; show _ + (Str.ofString ", ").length ≤ 1000000; rw [slen]; omega
  have a3 : dAdd (.str (Str.ofString "Lane(" ++ tx (lfold rows).1 ++ Str.ofString ", ")) (.str (tx (lfold rows).2)) s' = .ok (.str (Str.ofString "Lane(" ++ tx (lfold rows).1 ++ Str.ofString ", " ++ tx (lfold rows).2)) s' := by
    rw [u_addS, if_pos]; show _ ≤ 1000000; rw [slen, slen]; omega
  have a4 : dAdd (.str (Str.ofString "Lane(" ++ tx (lfold rows).1 ++ Str.ofString ", " ++ tx (lfold rows).2)) (.str ")") s' = .ok (.str (Str.ofString "Lane(" ++ tx (lfold rows).1 ++ Str.ofString ", " ++ tx (lfold rows).2 ++ Str.ofString ")")) s' := by
    rw [u_addS, if_pos]; show _ + (Str.ofString ")").length ≤ 1000000; rw [slen, slen, slen]; omega
  have em : Str.empty ++ Str.ofString "Lane(" = Str.ofString "Lane(" := by decide +kernel
  rw [em] at rF
  -- draws
  obtain ⟨g1, s2, e2, g10, g11, k2⟩ := take_kp (10 ^ 21) h (by omega) (by decide) (by decide)
  obtain ⟨g2, s3, e3, g20, g21, k3⟩ := take_kp 2 k2 (by omega) (by decide) (by decide)
  have p21 : ∀ s, dPow (.int 10) (.int 21) s = .ok (.int (10 ^ 21)) s := fun s => q_pow 21 (by decide)
  have p40 : ∀ s, dPow (.int 10) (.int 40) s = .ok (.int (10 ^ 40)) s := fun s => q_pow 40 (by decide)
  obtain ⟨gr, hgr, gr0, gr1⟩ : ∃ w : Int, atI [D.int g1, .int (10 ^ 40 - 1)] g2 = some (.int w) ∧ 0 ≤ w ∧ w < 10 ^ 40 := by
    rw [at_nat _ g20]
    have hz : g2.toNat < 2 := by omega
    generalize g2.toNat = q at hz
    match q, hz with
    | 0, _ => exact ⟨g1, rfl, g10, by omega⟩
    | 1, _ => exact ⟨10 ^ 40 - 1, rfl, by decide, by decide⟩
  obtain ⟨g3, s4, e4, g30, g31, k4⟩ := take_kp 50 k3 (by omega) (by decide) (by decide)
  obtain ⟨g5, s5, e5, g50, k5⟩ := number_ok k4 (by omega)
  unfold num at g50
  have l2 : (2 : Nat) ≤ lim := by decide
  have l1 : (1 : Nat) ≤ lim := by decide
  have l0 : (0 : Nat) ≤ lim := by decide
  have l5 : (5 : Nat) ≤ lim := by decide
  obtain ⟨σ9, s11, f11, ⟨d5, rfl⟩, rfl⟩ := forL_fold (body := bdy (tNm 5) S_l_lane_right_8) D.int (fun (u : Unit) _ => u)
    (fun _ σ' s' => (∃ d5, σ' = [some (.ref n), some (LnV (lfold rows)), some (.lst (rows.map rw2)), some (.int (lfold rows).2), some (.int gr), d5, none, none]) ∧ s' = s5)
    [0, 1, g3, gr, g5] () [some (.ref n), some (LnV (lfold rows)), some (.lst (rows.map rw2)), some (.int (lfold rows).2), some (.int gr), none, none, none] s5 ⟨⟨none, rfl⟩, rfl⟩ (by
      rintro w hw u σ' s'' ⟨⟨d5, rfl⟩, rfl⟩
      have hwb : 0 ≤ w ∧ w < 10 ^ 41 := by
        simp only [List.mem_cons, List.not_mem_nil, or_false] at hw
        rcases hw with rfl | rfl | rfl | rfl | rfl <;> omega
      have c := call_F (s := s'') (lfold rows) w
      have ww := wait_W (s := s'') rows hwb.1
      have hap : max (lfold rows).1 (w + (lfold rows).2) = ap (lfold rows) w := rfl
      rw [hap] at c
      have hsm : sml 190 (ap (lfold rows) w) := by
        refine sml_mono (a := 150) (show (ap (lfold rows) w).natAbs < 2 ^ 150 from ?_) (by decide)
        unfold ap
        omega
      have r := repr2 (s := s'') hsm hsm
      have hm : dMul (.lst [.int (ap (lfold rows) w)]) (.int 2) s'' = .ok (.lst [.int (ap (lfold rows) w), .int (ap (lfold rows) w)]) s'' := by
        rw [q_mulL, if_pos ⟨by decide, by show 1 * 2 ≤ 1000000; decide, by decide⟩]
        rfl
      refine ⟨_, _, ?_, ⟨some (.int w), rfl⟩, rfl⟩
      rw [e_bdy _ _ _ (show tNm 5 _ _ = some _ from rfl)]
      simp only [S_l_lane_right_8, e_bnd, ↓e_bok, e_bexc, e_ret, e_nox, ↓e_nok, e_cst, e_yes, e_m2, e_m1, e_tst, e_chn, e_and, e_or, e_not, e_vand, e_vor, e_vnot, e_mif, e_anil, e_acons, e_mC, e_call, e_mM, e_sl, e_ono, e_oso, e_dic1, ↓k_tst, ↓k_chnT, ↓k_chnF, ↓k_andT, ↓k_andF, ↓k_orT, ↓k_orF, ↓k_not, ↓k_oso, ↓k_asg, e_seq, ↓e_snx, ↓e_srt, ↓e_sbk, ↓e_sct, ↓e_lok, e_nxs, e_bks, e_cts, e_ex, e_rt, e_set, e_if, e_par, e_asg, f_setix, f_augix, e_sFor, e_forfix, e_src, e_rng1, e_enum, e_lc, e_cmpfix, f_get, ↓f_oo, ↓f_o1, f_ixR, f_ixO, f_ixL, f_ixSl, f_ixT, f_lenR, f_lenO, f_augR, f_setR, f_setO, f_goO, f_run, ↓f_rt, ↓f_nx, v_lenL, v_lenT, v_lenSl, v_addI, v_addII, v_sub, v_neg, v_eqI, v_eqS, v_eqB, v_neI, v_neS, v_lt, v_le, v_gt, v_ge, at_lit, ix_lit', Option.map_some, List.map_cons, List.map_nil, List.length_cons, List.length_nil, List.length_map, List.cons_append, List.nil_append, List.replicate, List.getElem?_cons_zero, List.getElem?_cons_succ, List.set_cons_zero, List.set_cons_succ, List.set_set, f_isi, f_isiO, f_isiB, v_slL, v_slSl, v_abs, v_max, v_min, v_kF, v_srcL, v_srcS, decide_true, decide_false, ↓reduceIte, Bool.false_eq_true, Bool.true_eq_false, Bool.not_true, Bool.not_false, Nat.reduceAdd, Nat.reduceSub, Nat.reduceLT, ↓u_oS, u_mul, u_mulS, u_div, u_mod, u_addS, u_addL, u_slS, u_ixS, u_lenS, u_str, u_kLst, u_kTup, u_kLstS, u_rng, u_upper, u_tNm, u_tTup, u_tNil, u_tCns, ↓u_tcR, f_isTS, wipeD, beq_self_eq_true, and_self, true_and, and_true, Int.reduceLT, Nat.reduceLeDiff, Int.reduceLE, Int.reduceNeg, Int.reduceToNat, Int.reduceAdd, g_src, ↓g_srcO, g_enu, ↓g_enuO, g_isT, ↓g_isTO, g_app, ↓g_appO, g_rev, ↓g_revO, g_lis, ↓g_lisO, g_kS, g_LR, g_kLR, h_fld, h_prop, h_meth, h_callO, h_mk, h_isi, h_gfld, h_gprop, h_gisi, h_isC, h_kMeth, ↓h_methR, h_kCallO, ↓h_notR, h_arN, h_tLst, h_asgH, h_srcT, h_max, h_min, e_fz, e_fzF, f_aug, ↓f_augK, h_mkS, k_mkS, k_mkST, e_fmt, e_js, k_js, e_js0, q_callK, q_strO, q_reprO, q_isCint, q_isCbl, q_isCstr, q_isCtup, q_isClst, q_isCnon, q_intB, q_intI, fd_Lane_low, fd_Lane_shift, pr_Lane_drift, pr_Lane_least, is_Lane_11099, bo_Lane, ic_Lane, c, ww, hap, l2, l1, hm, r, q_neS])
  have o1 := ownN_tup (s := s11) (lfold rows) [.int (lfold rows).1, .int (lfold rows).2]
  have o2 := ownN_lst (s := s11) (lfold rows) []
  refine ⟨s11, ?_, k5.more (by omega)⟩
  simp only [List.map_cons, List.map_nil] at f11
  simp only [m_l_lane_right, B_l_lane_right, S_l_lane_right_1, S_l_lane_right_2, S_l_lane_right_4, S_l_lane_right_6, S_l_lane_right_7, S_l_lane_right_10, e_bnd, ↓e_bok, e_bexc, e_ret, e_nox, ↓e_nok, e_cst, e_yes, e_m2, e_m1, e_tst, e_chn, e_and, e_or, e_not, e_vand, e_vor, e_vnot, e_mif, e_anil, e_acons, e_mC, e_call, e_mM, e_sl, e_ono, e_oso, e_dic1, ↓k_tst, ↓k_chnT, ↓k_chnF, ↓k_andT, ↓k_andF, ↓k_orT, ↓k_orF, ↓k_not, ↓k_oso, ↓k_asg, e_seq, ↓e_snx, ↓e_srt, ↓e_sbk, ↓e_sct, ↓e_lok, e_nxs, e_bks, e_cts, e_ex, e_rt, e_set, e_if, e_par, e_asg, f_setix, f_augix, e_sFor, e_forfix, e_src, e_rng1, e_enum, e_lc, e_cmpfix, f_get, ↓f_oo, ↓f_o1, f_ixR, f_ixO, f_ixL, f_ixSl, f_ixT, f_lenR, f_lenO, f_augR, f_setR, f_setO, f_goO, f_run, ↓f_rt, ↓f_nx, v_lenL, v_lenT, v_lenSl, v_addI, v_addII, v_sub, v_neg, v_eqI, v_eqS, v_eqB, v_neI, v_neS, v_lt, v_le, v_gt, v_ge, at_lit, ix_lit', Option.map_some, List.map_cons, List.map_nil, List.length_cons, List.length_nil, List.length_map, List.cons_append, List.nil_append, List.replicate, List.getElem?_cons_zero, List.getElem?_cons_succ, List.set_cons_zero, List.set_cons_succ, List.set_set, f_isi, f_isiO, f_isiB, v_slL, v_slSl, v_max, v_min, v_kF, v_srcL, v_srcS, decide_true, decide_false, ↓reduceIte, Bool.false_eq_true, Bool.true_eq_false, Bool.not_true, Bool.not_false, Nat.reduceAdd, Nat.reduceSub, Nat.reduceLT, ↓u_oS, u_mul, u_div, u_mod, u_slS, u_ixS, u_lenS, u_kLst, u_kTup, u_kLstS, u_rng, u_upper, u_tNm, u_tTup, u_tNil, u_tCns, ↓u_tcR, f_isTS, wipeD, beq_self_eq_true, and_self, true_and, and_true, Int.reduceLT, Nat.reduceLeDiff, Int.reduceLE, Int.reduceNeg, Int.reduceToNat, Int.reduceAdd, g_src, ↓g_srcO, g_enu, ↓g_enuO, g_isT, ↓g_isTO, g_app, ↓g_appO, g_rev, ↓g_revO, g_lis, ↓g_lisO, g_kS, g_LR, g_kLR, h_fld, h_prop, h_meth, h_callO, h_mk, h_isi, h_gfld, h_gprop, h_gisi, h_isC, h_kMeth, ↓h_methR, h_kCallO, ↓h_notR, h_arN, h_tLst, h_asgH, h_srcT, h_max, h_min, e_fz, e_fzF, f_aug, ↓f_augK, h_mkS, k_mkS, k_mkST, e_fmt, e_js, k_js, e_js0, q_callK, q_strO, q_reprO, q_isCint, q_isCbl, q_isCstr, q_isCtup, q_isClst, q_isCnon, q_intB, q_intI, fd_Lane_low, fd_Lane_shift, pr_Lane_drift, pr_Lane_least, is_Lane_11099, bo_Lane, ic_Lane, fc, hv, pl, pd, hw0, l2, l0, l5, r2, q_neS, rF, st1, st2, a1, a2, a3, a4, e2, e3, p21, p40, hgr, e4, e5, f11, o1, o2]

theorem lane_ok {s : Sto} (rows : List (Int × Int)) : m_l_lane [.lst (rows.map rw2)] s = .ok (LnV (lfold rows)) s := by
  cases rows with
  | nil =>
    have h0 := mkF0 (s := s)
    have hz : (((0 : Nat) : Int) == 0) = true := rfl
    simp only [m_l_lane, B_l_lane, S_l_lane_1, S_l_lane_2, e_bnd, ↓e_bok, e_bexc, e_ret, e_nox, ↓e_nok, e_cst, e_yes, e_m2, e_m1, e_tst, e_chn, e_and, e_or, e_not, e_vand, e_vor, e_vnot, e_mif, e_anil, e_acons, e_mC, e_call, e_mM, e_sl, e_ono, e_oso, e_dic1, ↓k_tst, ↓k_chnT, ↓k_chnF, ↓k_andT, ↓k_andF, ↓k_orT, ↓k_orF, ↓k_not, ↓k_oso, ↓k_asg, e_seq, ↓e_snx, ↓e_srt, ↓e_sbk, ↓e_sct, ↓e_lok, e_nxs, e_bks, e_cts, e_ex, e_rt, e_set, e_if, e_par, e_asg, f_setix, f_augix, e_sFor, e_forfix, e_src, e_rng1, e_enum, e_lc, e_cmpfix, f_get, ↓f_oo, ↓f_o1, f_ixR, f_ixO, f_ixL, f_ixSl, f_ixT, f_lenR, f_lenO, f_augR, f_setR, f_setO, f_goO, f_run, ↓f_rt, ↓f_nx, v_lenL, v_lenT, v_lenSl, v_addI, v_addII, v_sub, v_neg, v_eqI, v_eqS, v_eqB, v_neI, v_neS, v_lt, v_le, v_gt, v_ge, at_lit, ix_lit', Option.map_some, List.map_cons, List.map_nil, List.length_cons, List.length_nil, List.length_map, List.cons_append, List.nil_append, List.replicate, List.getElem?_cons_zero, List.getElem?_cons_succ, List.set_cons_zero, List.set_cons_succ, List.set_set, f_isi, f_isiO, f_isiB, v_slL, v_slSl, v_abs, v_max, v_min, v_kF, v_srcL, v_srcS, decide_true, decide_false, ↓reduceIte, Bool.false_eq_true, Bool.true_eq_false, Bool.not_true, Bool.not_false, Nat.reduceAdd, Nat.reduceSub, Nat.reduceLT, ↓u_oS, u_mul, u_mulS, u_div, u_mod, u_addS, u_addL, u_slS, u_ixS, u_lenS, u_str, u_kLst, u_kTup, u_kLstS, u_rng, u_upper, u_tNm, u_tTup, u_tNil, u_tCns, ↓u_tcR, f_isTS, wipeD, beq_self_eq_true, and_self, true_and, and_true, Int.reduceLT, Nat.reduceLeDiff, Int.reduceLE, Int.reduceNeg, Int.reduceToNat, Int.reduceAdd, g_src, ↓g_srcO, g_enu, ↓g_enuO, g_isT, ↓g_isTO, g_app, ↓g_appO, g_rev, ↓g_revO, g_lis, ↓g_lisO, g_kS, g_LR, g_kLR, h_fld, h_prop, h_meth, h_callO, h_mk, h_isi, h_gfld, h_gprop, h_gisi, h_isC, h_kMeth, ↓h_methR, h_kCallO, ↓h_notR, h_arN, h_tLst, h_asgH, h_srcT, h_max, h_min, e_fz, e_fzF, f_aug, ↓f_augK, h_mkS, k_mkS, k_mkST, e_fmt, e_js, k_js, e_js0, q_callK, q_strO, q_reprO, q_isCint, q_isCbl, q_isCstr, q_isCtup, q_isClst, q_isCnon, q_intB, q_intI, hz, h0]
    rfl
  | cons r0 rows =>
    have e0 : lfold (r0 :: rows) = rows.foldl lstep (one r0) := by
      show List.foldl lstep (lstep (0, 0) r0) rows = _
      congr 1
      unfold lstep one
      simp only [Int.zero_add]
    rw [e0]
    obtain ⟨σ2, s2, f1, ⟨c2, rfl⟩, rfl, f3⟩ := forL_fold (body := bdy (tNm 2) S_l_lane_5) rw2 lstep
      (fun b σ' s' => (∃ c2, σ' = [some (.lst ((r0 :: rows).map rw2)), some (LnV b), c2]) ∧ s' = s ∧ lv b) rows (one r0) [some (.lst ((r0 :: rows).map rw2)), some (LnV (one r0)), none] s ⟨⟨none, rfl⟩, rfl, one_v r0⟩ (by
        rintro r _ p σ' s' ⟨⟨c2, rfl⟩, rfl, hv⟩
        have h1 := mkF1 (s := s') r
        have h2 := own_mul (s := s') hv (one_v r)
        rw [mul_one hv] at h2
        refine ⟨[some (.lst ((r0 :: rows).map rw2)), some (LnV (lstep p r)), some (rw2 r)], s', ?_, ⟨_, rfl⟩, rfl, lstep_v hv⟩
        rw [e_bdy _ _ _ (show tNm 2 _ _ = some _ from rfl)]
        simp only [S_l_lane_5, e_bnd, ↓e_bok, e_bexc, e_ret, e_nox, ↓e_nok, e_cst, e_yes, e_m2, e_m1, e_tst, e_chn, e_and, e_or, e_not, e_vand, e_vor, e_vnot, e_mif, e_anil, e_acons, e_mC, e_call, e_mM, e_sl, e_ono, e_oso, e_dic1, ↓k_tst, ↓k_chnT, ↓k_chnF, ↓k_andT, ↓k_andF, ↓k_orT, ↓k_orF, ↓k_not, ↓k_oso, ↓k_asg, e_seq, ↓e_snx, ↓e_srt, ↓e_sbk, ↓e_sct, ↓e_lok, e_nxs, e_bks, e_cts, e_ex, e_rt, e_set, e_if, e_par, e_asg, f_setix, f_augix, e_sFor, e_forfix, e_src, e_rng1, e_enum, e_lc, e_cmpfix, f_get, ↓f_oo, ↓f_o1, f_ixR, f_ixO, f_ixL, f_ixSl, f_ixT, f_lenR, f_lenO, f_augR, f_setR, f_setO, f_goO, f_run, ↓f_rt, ↓f_nx, v_lenL, v_lenT, v_lenSl, v_addI, v_addII, v_sub, v_neg, v_eqI, v_eqS, v_eqB, v_neI, v_neS, v_lt, v_le, v_gt, v_ge, at_lit, ix_lit', Option.map_some, List.map_cons, List.map_nil, List.length_cons, List.length_nil, List.length_map, List.cons_append, List.nil_append, List.replicate, List.getElem?_cons_zero, List.getElem?_cons_succ, List.set_cons_zero, List.set_cons_succ, List.set_set, f_isi, f_isiO, f_isiB, v_slL, v_slSl, v_abs, v_max, v_min, v_kF, v_srcL, v_srcS, decide_true, decide_false, ↓reduceIte, Bool.false_eq_true, Bool.true_eq_false, Bool.not_true, Bool.not_false, Nat.reduceAdd, Nat.reduceSub, Nat.reduceLT, ↓u_oS, u_mul, u_mulS, u_div, u_mod, u_addS, u_addL, u_slS, u_ixS, u_lenS, u_str, u_kLst, u_kTup, u_kLstS, u_rng, u_upper, u_tNm, u_tTup, u_tNil, u_tCns, ↓u_tcR, f_isTS, wipeD, beq_self_eq_true, and_self, true_and, and_true, Int.reduceLT, Nat.reduceLeDiff, Int.reduceLE, Int.reduceNeg, Int.reduceToNat, Int.reduceAdd, g_src, ↓g_srcO, g_enu, ↓g_enuO, g_isT, ↓g_isTO, g_app, ↓g_appO, g_rev, ↓g_revO, g_lis, ↓g_lisO, g_kS, g_LR, g_kLR, h_fld, h_prop, h_meth, h_callO, h_mk, h_isi, h_gfld, h_gprop, h_gisi, h_isC, h_kMeth, ↓h_methR, h_kCallO, ↓h_notR, h_arN, h_tLst, h_asgH, h_srcT, h_max, h_min, e_fz, e_fzF, f_aug, ↓f_augK, h_mkS, k_mkS, k_mkST, e_fmt, e_js, k_js, e_js0, q_callK, q_strO, q_reprO, q_isCint, q_isCbl, q_isCstr, q_isCtup, q_isClst, q_isCnon, q_intB, q_intI, h1, h2])
    have h0 := mkF1 (s := s2) r0
    have hc : cutD ((r0 :: rows).map rw2) (some 1) none = rows.map rw2 := by rw [cutD_map, cutA_lo _ (by decide)]; rfl
    have hlen : (((r0 :: rows).length : Int) == 0) = false := by
      rw [beq_eq_false_iff_ne, List.length_cons]
      omega
    have hi : dIx (.lst ((r0 :: rows).map rw2)) (.int 0) s2 = .ok (rw2 r0) s2 := by simp only [f_ixL, at_lit, List.map_cons, List.getElem?_cons_zero, f_o1]
    generalize hR : r0 :: rows = R at *
    simp only [m_l_lane, B_l_lane, S_l_lane_1, S_l_lane_3, S_l_lane_4, S_l_lane_6, e_bnd, ↓e_bok, e_bexc, e_ret, e_nox, ↓e_nok, e_cst, e_yes, e_m2, e_m1, e_tst, e_chn, e_and, e_or, e_not, e_vand, e_vor, e_vnot, e_mif, e_anil, e_acons, e_mC, e_call, e_mM, e_sl, e_ono, e_oso, e_dic1, ↓k_tst, ↓k_chnT, ↓k_chnF, ↓k_andT, ↓k_andF, ↓k_orT, ↓k_orF, ↓k_not, ↓k_oso, ↓k_asg, e_seq, ↓e_snx, ↓e_srt, ↓e_sbk, ↓e_sct, ↓e_lok, e_nxs, e_bks, e_cts, e_ex, e_rt, e_set, e_if, e_par, e_asg, f_setix, f_augix, e_sFor, e_forfix, e_src, e_rng1, e_enum, e_lc, e_cmpfix, f_get, ↓f_oo, ↓f_o1, f_ixR, f_ixO, f_ixSl, f_ixT, f_lenR, f_lenO, f_augR, f_setR, f_setO, f_goO, f_run, ↓f_rt, ↓f_nx, v_lenL, v_lenT, v_lenSl, v_addI, v_addII, v_sub, v_neg, v_eqI, v_eqS, v_eqB, v_neI, v_neS, v_lt, v_le, v_gt, v_ge, at_lit, ix_lit', Option.map_some, List.map_cons, List.map_nil, List.length_cons, List.length_nil, List.length_map, List.cons_append, List.nil_append, List.replicate, List.getElem?_cons_zero, List.getElem?_cons_succ, List.set_cons_zero, List.set_cons_succ, List.set_set, f_isi, f_isiO, f_isiB, v_slL, v_slSl, v_abs, v_max, v_min, v_kF, v_srcL, v_srcS, decide_true, decide_false, ↓reduceIte, Bool.false_eq_true, Bool.true_eq_false, Bool.not_true, Bool.not_false, Nat.reduceAdd, Nat.reduceSub, Nat.reduceLT, ↓u_oS, u_mul, u_mulS, u_div, u_mod, u_addS, u_addL, u_slS, u_ixS, u_lenS, u_str, u_kLst, u_kTup, u_kLstS, u_rng, u_upper, u_tNm, u_tTup, u_tNil, u_tCns, ↓u_tcR, f_isTS, wipeD, beq_self_eq_true, and_self, true_and, and_true, Int.reduceLT, Nat.reduceLeDiff, Int.reduceLE, Int.reduceNeg, Int.reduceToNat, Int.reduceAdd, g_src, ↓g_srcO, g_enu, ↓g_enuO, g_isT, ↓g_isTO, g_app, ↓g_appO, g_rev, ↓g_revO, g_lis, ↓g_lisO, g_kS, g_LR, g_kLR, h_fld, h_prop, h_meth, h_callO, h_mk, h_isi, h_gfld, h_gprop, h_gisi, h_isC, h_kMeth, ↓h_methR, h_kCallO, ↓h_notR, h_arN, h_tLst, h_asgH, h_srcT, h_max, h_min, e_fz, e_fzF, f_aug, ↓f_augK, h_mkS, k_mkS, k_mkST, e_fmt, e_js, k_js, e_js0, q_callK, q_strO, q_reprO, q_isCint, q_isCbl, q_isCstr, q_isCtup, q_isClst, q_isCnon, q_intB, q_intI, hlen, hi, h0, hc, f1]
theorem ne_nil {s : Sto} (rows : List (Int × Int)) : dNe (.lst (rows.map rw2)) (.lst []) s = .ok (.bl (!rows.isEmpty)) s := by
  have h : dEqB s (.lst (rows.map rw2)) (.lst []) = some rows.isEmpty := by
    cases rows with
    | nil => exact dEq_same (p := .list []) rfl rfl rfl
    | cons r rows => exact eq_diff rfl (rows_dat _) (show dat s (.lst []) = some (.list []) from rfl) (lay_list fun r _ => rfl) rfl rfl
  unfold dNe
  rw [h]
theorem tup_eq {s : Sto} (p q : Int × Int) : dEq (.tup [.int p.1, .int p.2]) (.tup [.int q.1, .int q.2]) s = .ok (.bl (p.1 == q.1 && p.2 == q.2)) s := by
  have h : dEqB s (.tup [.int p.1, .int p.2]) (.tup [.int q.1, .int q.2]) = some (p.1 == q.1 && p.2 == q.2) := by
    refine eq_diff rfl (show dat s _ = some (.tuple [.int p.1, .int p.2]) from rfl) (show dat s _ = some (.tuple [.int q.1, .int q.2]) from rfl) rfl rfl ?_
    simp only [PyData.eqv, PyData.eqvAll, Bool.and_true]
  unfold dEq
  rw [h]

set_option maxHeartbeats 1000000 in
theorem law_true (ns : List Int) (hns : ns.length ≤ 63) : ∃ s', m_law [.sls (ns.map D.int)] [] = .ok (.bl true) s' := by
  obtain ⟨o, eb, hbag⟩ := bag_ok ns []
  have eb : m_l_bag [.sls (ns.map D.int)] [] = .ok (.ref 0) [o] := eb
  have hbag : Bag [o] 0 0 := hbag
  have k0 := Kp.refl hbag
  obtain ⟨A0, s1, e1, bA0, lA0, k1⟩ := served_ok 30 k0 (by decide) (by decide) (by decide)
  obtain ⟨B, s2, e2, bB, lB, k2⟩ := served_ok 30 k1 (by decide) (by decide) (by decide)
  have l2 : (2 : Nat) ≤ lim := by decide
  have l3 : (3 : Nat) ≤ lim := by decide
  have l12 : (12 : Nat) ≤ lim := by decide
  have len2 : s2.length = 1 := k2.len
  let fr : List (Int × Int) → D := fun r => .lst (r.map rw2)
  -- the first one, perhaps longer
  have S3 : ∃ (A : List (Int × Int)) (t : Sto), S_law_3 [some (.sls (ns.map D.int)), some (.ref 0), some (.ref 1), none, none, none, none, none, none, none, none, none, none] (s2 ++ [.lst [.lst (A0.map rw2), .lst (B.map rw2)]]) =
      .go .nx [some (.sls (ns.map D.int)), some (.ref 0), some (.ref 1), none, none, none, none, none, none, none, none, none, none] (t ++ [.lst [.lst (A.map rw2), .lst (B.map rw2)]]) ∧ Kp [o] t 0 30000 ∧ A.length ≤ 400 ∧ ∀ r ∈ A, bnd2 r := by
    have g0 : (s2 ++ [O.lst [.lst (A0.map rw2), .lst (B.map rw2)]])[1]? = some (.lst [.lst (A0.map rw2), .lst (B.map rw2)]) := new_at0 k2
    by_cases he : A0 = []
    · subst he
      have hne := ne_nil (s := s2 ++ [O.lst [.lst ([] : List D), .lst (B.map rw2)]]) []
      simp only [List.map_nil, List.isEmpty_nil] at hne g0
      refine ⟨[], s2, ?_, k2.more (by decide), by simp, fun r h => (nomatch h)⟩
      have l0 : (0 : Nat) ≤ lim := by decide
      simp only [S_law_3, e_bnd, ↓e_bok, e_bexc, e_ret, e_nox, ↓e_nok, e_cst, e_yes, e_m2, e_m1, e_tst, e_chn, e_and, e_or, e_not, e_vand, e_vor, e_vnot, e_mif, e_anil, e_acons, e_mC, e_call, e_mM, e_sl, e_ono, e_oso, e_dic1, ↓k_tst, ↓k_chnT, ↓k_chnF, ↓k_andT, ↓k_andF, ↓k_orT, ↓k_orF, ↓k_not, ↓k_oso, ↓k_asg, e_seq, ↓e_snx, ↓e_srt, ↓e_sbk, ↓e_sct, ↓e_lok, e_nxs, e_bks, e_cts, e_ex, e_rt, e_set, e_if, e_par, e_asg, f_setix, f_augix, e_sFor, e_forfix, e_src, e_rng1, e_enum, e_lc, e_cmpfix, f_get, ↓f_oo, ↓f_o1, f_ixR, f_ixO, f_ixL, f_ixSl, f_ixT, f_lenR, f_lenO, f_augR, f_setR, f_setO, f_goO, f_run, ↓f_rt, ↓f_nx, v_lenL, v_lenT, v_lenSl, v_addI, v_addII, v_sub, v_neg, v_eqI, v_eqS, v_eqB, v_neI, v_neS, v_lt, v_le, v_gt, v_ge, at_lit, ix_lit', Option.map_some, List.map_cons, List.map_nil, List.length_cons, List.length_nil, List.length_map, List.cons_append, List.nil_append, List.replicate, List.getElem?_cons_zero, List.getElem?_cons_succ, List.set_cons_zero, List.set_cons_succ, List.set_set, f_isi, f_isiO, f_isiB, v_slL, v_slSl, v_abs, v_max, v_min, v_kF, v_srcL, v_srcS, decide_true, decide_false, ↓reduceIte, Bool.false_eq_true, Bool.true_eq_false, Bool.not_true, Bool.not_false, Nat.reduceAdd, Nat.reduceSub, Nat.reduceLT, ↓u_oS, u_mul, u_mulS, u_div, u_mod, u_addS, u_addL, u_slS, u_ixS, u_lenS, u_str, u_kLst, u_kTup, u_kLstS, u_rng, u_upper, u_tNm, u_tTup, u_tNil, u_tCns, ↓u_tcR, f_isTS, wipeD, beq_self_eq_true, and_self, true_and, and_true, Int.reduceLT, Nat.reduceLeDiff, Int.reduceLE, Int.reduceNeg, Int.reduceToNat, Int.reduceAdd, g_src, ↓g_srcO, g_enu, ↓g_enuO, g_isT, ↓g_isTO, g_app, ↓g_appO, g_rev, ↓g_revO, g_lis, ↓g_lisO, g_kS, g_LR, g_kLR, h_fld, h_prop, h_meth, h_callO, h_mk, h_isi, h_gfld, h_gprop, h_gisi, h_isC, h_kMeth, ↓h_methR, h_kCallO, ↓h_notR, h_arN, h_tLst, h_asgH, h_srcT, h_max, h_min, e_fz, e_fzF, f_aug, ↓f_augK, h_mkS, k_mkS, k_mkST, e_fmt, e_js, k_js, e_js0, q_callK, q_strO, q_reprO, q_isCint, q_isCbl, q_isCstr, q_isCtup, q_isClst, q_isCnon, q_intB, q_intI, g0, l0, hne]
    · have hne := ne_nil (s := s2 ++ [O.lst [.lst (A0.map rw2), .lst (B.map rw2)]]) A0
      have hie : A0.isEmpty = false := by cases A0 with | nil => exact absurd rfl he | cons _ _ => rfl
      rw [hie] at hne
      obtain ⟨x, s3, e3, x0, x1, k3⟩ := take_kp 8 (k2.app [.lst [.lst (A0.map rw2), .lst (B.map rw2)]]) (by decide) (by decide) (by decide)
      obtain ⟨t, rfl, k4⟩ := k3.split k0.lt
      have g4 : (t ++ [O.lst [.lst (A0.map rw2), .lst (B.map rw2)]])[1]? = some (.lst [.lst (A0.map rw2), .lst (B.map rw2)]) := new_at0 k4
      have l0 : (0 : Nat) ≤ lim := by decide
      by_cases hx : x = 0
      · subst hx
        have hc : 0 ≤ (400 : Int) ∧ A0.length * 400 ≤ lim ∧ (400 : Int) ≤ (lim : Int) := ⟨by decide, by show _ ≤ 1000000; omega, by decide⟩
        have hm : dMul (.lst (A0.map rw2)) (.int 400) (t ++ [O.lst [.lst (A0.map rw2), .lst (B.map rw2)]]) = .ok (.lst ((List.replicate 400 A0).flatten.map rw2)) (t ++ [O.lst [.lst (A0.map rw2), .lst (B.map rw2)]]) := by
          rw [q_mulL, if_pos (by rw [List.length_map]; exact hc), show (400 : Int).toNat = 400 from rfl, repl_map]
        have hcut : ∀ R : List (Int × Int), cutD (R.map rw2) none (some 400) = (R.take 400).map rw2 := fun R => by rw [cutD_map, cutA_hi _ (by decide)]; rfl
        have st : (t ++ [O.lst [.lst (A0.map rw2), .lst (B.map rw2)]]).set 1 (.lst [.lst (((List.replicate 400 A0).flatten.take 400).map rw2), .lst (B.map rw2)]) = t ++ [.lst [.lst (((List.replicate 400 A0).flatten.take 400).map rw2), .lst (B.map rw2)]] := new_set0 k4
        have hmem : ∀ r ∈ ((List.replicate 400 A0).flatten.take 400), bnd2 r := fun r hr => bA0 r (repl_mem (List.mem_of_mem_take hr))
        have hlen : ((List.replicate 400 A0).flatten.take 400).length ≤ 400 := by rw [List.length_take]; omega
        generalize (List.replicate 400 A0).flatten = R at hm st hmem hlen
        refine ⟨R.take 400, t, ?_, k4.more (by decide), hlen, hmem⟩
        simp only [S_law_3, S_law_4, e_bnd, ↓e_bok, e_bexc, e_ret, e_nox, ↓e_nok, e_cst, e_yes, e_m2, e_m1, e_tst, e_chn, e_and, e_or, e_not, e_vand, e_vor, e_vnot, e_mif, e_anil, e_acons, e_mC, e_call, e_mM, e_sl, e_ono, e_oso, e_dic1, ↓k_tst, ↓k_chnT, ↓k_chnF, ↓k_andT, ↓k_andF, ↓k_orT, ↓k_orF, ↓k_not, ↓k_oso, ↓k_asg, e_seq, ↓e_snx, ↓e_srt, ↓e_sbk, ↓e_sct, ↓e_lok, e_nxs, e_bks, e_cts, e_ex, e_rt, e_set, e_if, e_par, e_asg, f_setix, f_augix, e_sFor, e_forfix, e_src, e_rng1, e_enum, e_lc, e_cmpfix, f_get, ↓f_oo, ↓f_o1, f_ixR, f_ixO, f_ixL, f_ixSl, f_ixT, f_lenR, f_lenO, f_augR, f_setR, f_setO, f_goO, f_run, ↓f_rt, ↓f_nx, v_lenL, v_lenT, v_lenSl, v_addI, v_addII, v_sub, v_neg, v_eqI, v_eqS, v_eqB, v_neI, v_neS, v_lt, v_le, v_gt, v_ge, at_lit, ix_lit', Option.map_some, List.map_cons, List.map_nil, List.length_cons, List.length_nil, List.length_map, List.cons_append, List.nil_append, List.replicate, List.getElem?_cons_zero, List.getElem?_cons_succ, List.set_cons_zero, List.set_cons_succ, List.set_set, f_isi, f_isiO, f_isiB, v_slL, v_slSl, v_abs, v_max, v_min, v_kF, v_srcL, v_srcS, decide_true, decide_false, ↓reduceIte, Bool.false_eq_true, Bool.true_eq_false, Bool.not_true, Bool.not_false, Nat.reduceAdd, Nat.reduceSub, Nat.reduceLT, ↓u_oS, u_mul, u_mulS, u_div, u_mod, u_addS, u_addL, u_slS, u_ixS, u_lenS, u_str, u_kLst, u_kTup, u_kLstS, u_rng, u_upper, u_tNm, u_tTup, u_tNil, u_tCns, ↓u_tcR, f_isTS, wipeD, beq_self_eq_true, and_self, true_and, and_true, Int.reduceLT, Nat.reduceLeDiff, Int.reduceLE, Int.reduceNeg, Int.reduceToNat, Int.reduceAdd, g_src, ↓g_srcO, g_enu, ↓g_enuO, g_isT, ↓g_isTO, g_app, ↓g_appO, g_rev, ↓g_revO, g_lis, ↓g_lisO, g_kS, g_LR, g_kLR, h_fld, h_prop, h_meth, h_callO, h_mk, h_isi, h_gfld, h_gprop, h_gisi, h_isC, h_kMeth, ↓h_methR, h_kCallO, ↓h_notR, h_arN, h_tLst, h_asgH, h_srcT, h_max, h_min, e_fz, e_fzF, f_aug, ↓f_augK, h_mkS, k_mkS, k_mkST, e_fmt, e_js, k_js, e_js0, q_callK, q_strO, q_reprO, q_isCint, q_isCbl, q_isCstr, q_isCtup, q_isClst, q_isCnon, q_intB, q_intI, g0, l0, hne, e3, beq_self_eq_true, g4, hm, hcut, st]
      · have hxb : (x == 0) = false := beq_eq_false_iff_ne.mpr hx
        exact ⟨A0, t, by simp only [S_law_3, e_bnd, ↓e_bok, e_bexc, e_ret, e_nox, ↓e_nok, e_cst, e_yes, e_m2, e_m1, e_tst, e_chn, e_and, e_or, e_not, e_vand, e_vor, e_vnot, e_mif, e_anil, e_acons, e_mC, e_call, e_mM, e_sl, e_ono, e_oso, e_dic1, ↓k_tst, ↓k_chnT, ↓k_chnF, ↓k_andT, ↓k_andF, ↓k_orT, ↓k_orF, ↓k_not, ↓k_oso, ↓k_asg, e_seq, ↓e_snx, ↓e_srt, ↓e_sbk, ↓e_sct, ↓e_lok, e_nxs, e_bks, e_cts, e_ex, e_rt, e_set, e_if, e_par, e_asg, f_setix, f_augix, e_sFor, e_forfix, e_src, e_rng1, e_enum, e_lc, e_cmpfix, f_get, ↓f_oo, ↓f_o1, f_ixR, f_ixO, f_ixL, f_ixSl, f_ixT, f_lenR, f_lenO, f_augR, f_setR, f_setO, f_goO, f_run, ↓f_rt, ↓f_nx, v_lenL, v_lenT, v_lenSl, v_addI, v_addII, v_sub, v_neg, v_eqI, v_eqS, v_eqB, v_neI, v_neS, v_lt, v_le, v_gt, v_ge, at_lit, ix_lit', Option.map_some, List.map_cons, List.map_nil, List.length_cons, List.length_nil, List.length_map, List.cons_append, List.nil_append, List.replicate, List.getElem?_cons_zero, List.getElem?_cons_succ, List.set_cons_zero, List.set_cons_succ, List.set_set, f_isi, f_isiO, f_isiB, v_slL, v_slSl, v_abs, v_max, v_min, v_kF, v_srcL, v_srcS, decide_true, decide_false, ↓reduceIte, Bool.false_eq_true, Bool.true_eq_false, Bool.not_true, Bool.not_false, Nat.reduceAdd, Nat.reduceSub, Nat.reduceLT, ↓u_oS, u_mul, u_mulS, u_div, u_mod, u_addS, u_addL, u_slS, u_ixS, u_lenS, u_str, u_kLst, u_kTup, u_kLstS, u_rng, u_upper, u_tNm, u_tTup, u_tNil, u_tCns, ↓u_tcR, f_isTS, wipeD, beq_self_eq_true, and_self, true_and, and_true, Int.reduceLT, Nat.reduceLeDiff, Int.reduceLE, Int.reduceNeg, Int.reduceToNat, Int.reduceAdd, g_src, ↓g_srcO, g_enu, ↓g_enuO, g_isT, ↓g_isTO, g_app, ↓g_appO, g_rev, ↓g_revO, g_lis, ↓g_lisO, g_kS, g_LR, g_kLR, h_fld, h_prop, h_meth, h_callO, h_mk, h_isi, h_gfld, h_gprop, h_gisi, h_isC, h_kMeth, ↓h_methR, h_kCallO, ↓h_notR, h_arN, h_tLst, h_asgH, h_srcT, h_max, h_min, e_fz, e_fzF, f_aug, ↓f_augK, h_mkS, k_mkS, k_mkST, e_fmt, e_js, k_js, e_js0, q_callK, q_strO, q_reprO, q_isCint, q_isCbl, q_isCstr, q_isCtup, q_isClst, q_isCnon, q_intB, q_intI, g0, l0, hne, e3, hxb], k4.more (by decide), by omega, bA0⟩
  obtain ⟨A, t, e3, kt, lA, bA⟩ := S3
  have hL : (t ++ [O.lst [.lst (A.map rw2), .lst (B.map rw2)]])[1]? = some (.lst [.lst (A.map rw2), .lst (B.map rw2)]) := new_at0 kt
  generalize hL0 : [O.lst [.lst (A.map rw2), .lst (B.map rw2)]] = L at *
  generalize hs3 : t ++ L = s3 at *
  have kL : Kp ([o] ++ L) s3 0 30000 := hs3 ▸ kt.app L
  have at1 : ∀ {s' : Sto} {b : Nat}, Kp ([o] ++ L) s' 0 b → s'[1]? = some (.lst [.lst (A.map rw2), .lst (B.map rw2)]) := fun {s' b} k => by
    rw [k.out 1 (by decide), ← hL0]
    rfl
  -- lanes
  obtain ⟨ys, s4, f4, al4, rfl⟩ := cmpS_al (n := 1) (l := 2) (g := tNm 11) (e := E_law_5_17) (σ := [some (.sls (ns.map D.int)), some (.ref 0), some (.ref 1), none, none, none, none, none, none, none, none, none, none]) (s := s3) (fun r : List (Int × Int) => D.lst (r.map rw2)) LnV (fun _ s => s = s3) (fun r p => p = lfold r) [A, B] rfl (by show 2 ≤ 1000000; decide) (by
      rintro k s' rfl
      exact hL) rfl (by
      rintro r _ k s' rfl _
      have := lane_ok (s := s') r
      exact ⟨_, lfold r, s', rfl, by simp only [E_law_5_17, e_bnd, ↓e_bok, e_bexc, e_ret, e_nox, ↓e_nok, e_cst, e_yes, e_m2, e_m1, e_tst, e_chn, e_and, e_or, e_not, e_vand, e_vor, e_vnot, e_mif, e_anil, e_acons, e_mC, e_call, e_mM, e_sl, e_ono, e_oso, e_dic1, ↓k_tst, ↓k_chnT, ↓k_chnF, ↓k_andT, ↓k_andF, ↓k_orT, ↓k_orF, ↓k_not, ↓k_oso, ↓k_asg, e_seq, ↓e_snx, ↓e_srt, ↓e_sbk, ↓e_sct, ↓e_lok, e_nxs, e_bks, e_cts, e_ex, e_rt, e_set, e_if, e_par, e_asg, f_setix, f_augix, e_sFor, e_forfix, e_src, e_rng1, e_enum, e_lc, e_cmpfix, f_get, ↓f_oo, ↓f_o1, f_ixR, f_ixO, f_ixL, f_ixSl, f_ixT, f_lenR, f_lenO, f_augR, f_setR, f_setO, f_goO, f_run, ↓f_rt, ↓f_nx, v_lenL, v_lenT, v_lenSl, v_addI, v_addII, v_sub, v_neg, v_eqI, v_eqS, v_eqB, v_neI, v_neS, v_lt, v_le, v_gt, v_ge, at_lit, ix_lit', Option.map_some, List.map_cons, List.map_nil, List.length_cons, List.length_nil, List.length_map, List.cons_append, List.nil_append, List.replicate, List.getElem?_cons_zero, List.getElem?_cons_succ, List.set_cons_zero, List.set_cons_succ, List.set_set, f_isi, f_isiO, f_isiB, v_slL, v_slSl, v_abs, v_max, v_min, v_kF, v_srcL, v_srcS, decide_true, decide_false, ↓reduceIte, Bool.false_eq_true, Bool.true_eq_false, Bool.not_true, Bool.not_false, Nat.reduceAdd, Nat.reduceSub, Nat.reduceLT, ↓u_oS, u_mul, u_mulS, u_div, u_mod, u_addS, u_addL, u_slS, u_ixS, u_lenS, u_str, u_kLst, u_kTup, u_kLstS, u_rng, u_upper, u_tNm, u_tTup, u_tNil, u_tCns, ↓u_tcR, f_isTS, wipeD, beq_self_eq_true, and_self, true_and, and_true, Int.reduceLT, Nat.reduceLeDiff, Int.reduceLE, Int.reduceNeg, Int.reduceToNat, Int.reduceAdd, g_src, ↓g_srcO, g_enu, ↓g_enuO, g_isT, ↓g_isTO, g_app, ↓g_appO, g_rev, ↓g_revO, g_lis, ↓g_lisO, g_kS, g_LR, g_kLR, h_fld, h_prop, h_meth, h_callO, h_mk, h_isi, h_gfld, h_gprop, h_gisi, h_isC, h_kMeth, ↓h_methR, h_kCallO, ↓h_notR, h_arN, h_tLst, h_asgH, h_srcT, h_max, h_min, e_fz, e_fzF, f_aug, ↓f_augK, h_mkS, k_mkS, k_mkST, e_fmt, e_js, k_js, e_js0, q_callK, q_strO, q_reprO, q_isCint, q_isCbl, q_isCstr, q_isCtup, q_isClst, q_isCnon, q_intB, q_intI, this], rfl, rfl⟩)
  have hys : ys = [lfold A, lfold B] := by
    cases al4 with
    | cons h1 r1 =>
      cases r1 with
      | cons h2 r2 =>
        cases r2
        rw [h1, h2]
  subst hys
  simp only [List.map_cons, List.map_nil] at f4
  have va := lfold_v A
  have vb := lfold_v B
  -- right
  obtain ⟨s5, e5, k5⟩ := right_ok kL (by decide) (rows := A) (by omega) bA
  obtain ⟨s6, e6, k6⟩ := right_ok k5 (by decide) (rows := B) (by omega) bB
  have r2 : -(2 ^ 62) ≤ (2 : Int) ∧ (2 : Int) < 2 ^ 62 := by decide
  have h5 := at1 k5
  have hc6 : cmpL (tNm 12) yes E_law_6_15 [some (.sls (ns.map D.int)), some (.ref 0), some (.ref 1), some (.lst [LnV (lfold A), LnV (lfold B)]), none, none, none, none, none, none, none, none, none] (rng 0 2) [] s4 = .ok ([true, true].map D.bl) s6 := by
    rw [show rng 0 2 = [.int 0, .int 1] from rfl]
    rw [q_step (σ2 := _) (s1 := s4) (y := .bl true) (s2 := s5) rfl rfl (by simp only [E_law_6_15, e_bnd, ↓e_bok, e_bexc, e_ret, e_nox, ↓e_nok, e_cst, e_yes, e_m2, e_m1, e_tst, e_chn, e_and, e_or, e_not, e_vand, e_vor, e_vnot, e_mif, e_anil, e_acons, e_mC, e_call, e_mM, e_sl, e_ono, e_oso, e_dic1, ↓k_tst, ↓k_chnT, ↓k_chnF, ↓k_andT, ↓k_andF, ↓k_orT, ↓k_orF, ↓k_not, ↓k_oso, ↓k_asg, e_seq, ↓e_snx, ↓e_srt, ↓e_sbk, ↓e_sct, ↓e_lok, e_nxs, e_bks, e_cts, e_ex, e_rt, e_set, e_if, e_par, e_asg, f_setix, f_augix, e_sFor, e_forfix, e_src, e_rng1, e_enum, e_lc, e_cmpfix, f_get, ↓f_oo, ↓f_o1, f_ixR, f_ixO, f_ixL, f_ixSl, f_ixT, f_lenR, f_lenO, f_augR, f_setR, f_setO, f_goO, f_run, ↓f_rt, ↓f_nx, v_lenL, v_lenT, v_lenSl, v_addI, v_addII, v_sub, v_neg, v_eqI, v_eqS, v_eqB, v_neI, v_neS, v_lt, v_le, v_gt, v_ge, at_lit, ix_lit', Option.map_some, List.map_cons, List.map_nil, List.length_cons, List.length_nil, List.length_map, List.cons_append, List.nil_append, List.replicate, List.getElem?_cons_zero, List.getElem?_cons_succ, List.set_cons_zero, List.set_cons_succ, List.set_set, f_isi, f_isiO, f_isiB, v_slL, v_slSl, v_abs, v_max, v_min, v_kF, v_srcL, v_srcS, decide_true, decide_false, ↓reduceIte, Bool.false_eq_true, Bool.true_eq_false, Bool.not_true, Bool.not_false, Nat.reduceAdd, Nat.reduceSub, Nat.reduceLT, ↓u_oS, u_mul, u_mulS, u_div, u_mod, u_addS, u_addL, u_slS, u_ixS, u_lenS, u_str, u_kLst, u_kTup, u_kLstS, u_rng, u_upper, u_tNm, u_tTup, u_tNil, u_tCns, ↓u_tcR, f_isTS, wipeD, beq_self_eq_true, and_self, true_and, and_true, Int.reduceLT, Nat.reduceLeDiff, Int.reduceLE, Int.reduceNeg, Int.reduceToNat, Int.reduceAdd, g_src, ↓g_srcO, g_enu, ↓g_enuO, g_isT, ↓g_isTO, g_app, ↓g_appO, g_rev, ↓g_revO, g_lis, ↓g_lisO, g_kS, g_LR, g_kLR, h_fld, h_prop, h_meth, h_callO, h_mk, h_isi, h_gfld, h_gprop, h_gisi, h_isC, h_kMeth, ↓h_methR, h_kCallO, ↓h_notR, h_arN, h_tLst, h_asgH, h_srcT, h_max, h_min, e_fz, e_fzF, f_aug, ↓f_augK, h_mkS, k_mkS, k_mkST, e_fmt, e_js, k_js, e_js0, q_callK, q_strO, q_reprO, q_isCint, q_isCbl, q_isCstr, q_isCtup, q_isClst, q_isCnon, q_intB, q_intI, u_tNm, hL, e5]) (by simp only [List.nil_append, List.cons_append, List.length_cons, List.length_nil]; decide)]
    rw [q_step (σ2 := _) (s1 := s5) (y := .bl true) (s2 := s6) rfl rfl (by simp only [E_law_6_15, e_bnd, ↓e_bok, e_bexc, e_ret, e_nox, ↓e_nok, e_cst, e_yes, e_m2, e_m1, e_tst, e_chn, e_and, e_or, e_not, e_vand, e_vor, e_vnot, e_mif, e_anil, e_acons, e_mC, e_call, e_mM, e_sl, e_ono, e_oso, e_dic1, ↓k_tst, ↓k_chnT, ↓k_chnF, ↓k_andT, ↓k_andF, ↓k_orT, ↓k_orF, ↓k_not, ↓k_oso, ↓k_asg, e_seq, ↓e_snx, ↓e_srt, ↓e_sbk, ↓e_sct, ↓e_lok, e_nxs, e_bks, e_cts, e_ex, e_rt, e_set, e_if, e_par, e_asg, f_setix, f_augix, e_sFor, e_forfix, e_src, e_rng1, e_enum, e_lc, e_cmpfix, f_get, ↓f_oo, ↓f_o1, f_ixR, f_ixO, f_ixL, f_ixSl, f_ixT, f_lenR, f_lenO, f_augR, f_setR, f_setO, f_goO, f_run, ↓f_rt, ↓f_nx, v_lenL, v_lenT, v_lenSl, v_addI, v_addII, v_sub, v_neg, v_eqI, v_eqS, v_eqB, v_neI, v_neS, v_lt, v_le, v_gt, v_ge, at_lit, ix_lit', Option.map_some, List.map_cons, List.map_nil, List.length_cons, List.length_nil, List.length_map, List.cons_append, List.nil_append, List.replicate, List.getElem?_cons_zero, List.getElem?_cons_succ, List.set_cons_zero, List.set_cons_succ, List.set_set, f_isi, f_isiO, f_isiB, v_slL, v_slSl, v_abs, v_max, v_min, v_kF, v_srcL, v_srcS, decide_true, decide_false, ↓reduceIte, Bool.false_eq_true, Bool.true_eq_false, Bool.not_true, Bool.not_false, Nat.reduceAdd, Nat.reduceSub, Nat.reduceLT, ↓u_oS, u_mul, u_mulS, u_div, u_mod, u_addS, u_addL, u_slS, u_ixS, u_lenS, u_str, u_kLst, u_kTup, u_kLstS, u_rng, u_upper, u_tNm, u_tTup, u_tNil, u_tCns, ↓u_tcR, f_isTS, wipeD, beq_self_eq_true, and_self, true_and, and_true, Int.reduceLT, Nat.reduceLeDiff, Int.reduceLE, Int.reduceNeg, Int.reduceToNat, Int.reduceAdd, g_src, ↓g_srcO, g_enu, ↓g_enuO, g_isT, ↓g_isTO, g_app, ↓g_appO, g_rev, ↓g_revO, g_lis, ↓g_lisO, g_kS, g_LR, g_kLR, h_fld, h_prop, h_meth, h_callO, h_mk, h_isi, h_gfld, h_gprop, h_gisi, h_isC, h_kMeth, ↓h_methR, h_kCallO, ↓h_notR, h_arN, h_tLst, h_asgH, h_srcT, h_max, h_min, e_fz, e_fzF, f_aug, ↓f_augK, h_mkS, k_mkS, k_mkST, e_fmt, e_js, k_js, e_js0, q_callK, q_strO, q_reprO, q_isCint, q_isCbl, q_isCstr, q_isCtup, q_isClst, q_isCnon, q_intB, q_intI, u_tNm, h5, e6]) (by simp only [List.nil_append, List.cons_append, List.length_cons, List.length_nil]; decide)]
    rfl
  have hall : cAll [.lst [.bl true, .bl true]] s6 = .ok (.bl true) s6 := q_all [true, true]
  simp only [List.map_cons, List.map_nil] at hc6
  have h6 := at1 k6
  have m6 := own_mul (s := s6) va vb
  rw [← lfold_app] at m6
  obtain ⟨s7, e7, k7⟩ := right_ok k6 (by decide) (rows := A ++ B) (by rw [List.length_append]; omega) (fun r hr => (List.mem_append.mp hr).elim (bA r) (bB r))
  have happ : dAdd (.lst (A.map rw2)) (.lst (B.map rw2)) s6 = .ok (.lst ((A ++ B).map rw2)) s6 := by
    rw [u_addL, if_pos (by rw [List.length_map, List.length_map]; show A.length + B.length ≤ 1000000; omega), List.map_append]
  have h7 := at1 k7
  -- one
  have m0 := mkF0 (s := s7)
  have m7 := own_mul (s := s7) va (q := (0, 0)) ⟨by decide, by decide⟩
  rw [mulP_zero va] at m7
  have m8 := own_mul (s := s7) (p := (0, 0)) ⟨by decide, by decide⟩ va
  rw [zero_mulP va] at m8
  have n7 := ownN (s := s7) (lfold A) (lfold A)
  rw [beq_self_eq_true, beq_self_eq_true, Bool.and_self, Bool.not_true] at n7
  -- pairs
  have pl : ∀ (p : Int × Int) s, m_Lane_least [LnV p] s = .ok (.int p.1) s := fun p s => by simp only [m_Lane_least, B_Lane_least, S_Lane_least_1, e_bnd, ↓e_bok, e_bexc, e_ret, e_nox, ↓e_nok, e_cst, e_yes, e_m2, e_m1, e_tst, e_chn, e_and, e_or, e_not, e_vand, e_vor, e_vnot, e_mif, e_anil, e_acons, e_mC, e_call, e_mM, e_sl, e_ono, e_oso, e_dic1, ↓k_tst, ↓k_chnT, ↓k_chnF, ↓k_andT, ↓k_andF, ↓k_orT, ↓k_orF, ↓k_not, ↓k_oso, ↓k_asg, e_seq, ↓e_snx, ↓e_srt, ↓e_sbk, ↓e_sct, ↓e_lok, e_nxs, e_bks, e_cts, e_ex, e_rt, e_set, e_if, e_par, e_asg, f_setix, f_augix, e_sFor, e_forfix, e_src, e_rng1, e_enum, e_lc, e_cmpfix, f_get, ↓f_oo, ↓f_o1, f_ixR, f_ixO, f_ixL, f_ixSl, f_ixT, f_lenR, f_lenO, f_augR, f_setR, f_setO, f_goO, f_run, ↓f_rt, ↓f_nx, v_lenL, v_lenT, v_lenSl, v_addI, v_addII, v_sub, v_neg, v_eqI, v_eqS, v_eqB, v_neI, v_neS, v_lt, v_le, v_gt, v_ge, at_lit, ix_lit', Option.map_some, List.map_cons, List.map_nil, List.length_cons, List.length_nil, List.length_map, List.cons_append, List.nil_append, List.replicate, List.getElem?_cons_zero, List.getElem?_cons_succ, List.set_cons_zero, List.set_cons_succ, List.set_set, f_isi, f_isiO, f_isiB, v_slL, v_slSl, v_abs, v_max, v_min, v_kF, v_srcL, v_srcS, decide_true, decide_false, ↓reduceIte, Bool.false_eq_true, Bool.true_eq_false, Bool.not_true, Bool.not_false, Nat.reduceAdd, Nat.reduceSub, Nat.reduceLT, ↓u_oS, u_mul, u_mulS, u_div, u_mod, u_addS, u_addL, u_slS, u_ixS, u_lenS, u_str, u_kLst, u_kTup, u_kLstS, u_rng, u_upper, u_tNm, u_tTup, u_tNil, u_tCns, ↓u_tcR, f_isTS, wipeD, beq_self_eq_true, and_self, true_and, and_true, Int.reduceLT, Nat.reduceLeDiff, Int.reduceLE, Int.reduceNeg, Int.reduceToNat, Int.reduceAdd, g_src, ↓g_srcO, g_enu, ↓g_enuO, g_isT, ↓g_isTO, g_app, ↓g_appO, g_rev, ↓g_revO, g_lis, ↓g_lisO, g_kS, g_LR, g_kLR, h_fld, h_prop, h_meth, h_callO, h_mk, h_isi, h_gfld, h_gprop, h_gisi, h_isC, h_kMeth, ↓h_methR, h_kCallO, ↓h_notR, h_arN, h_tLst, h_asgH, h_srcT, h_max, h_min, e_fz, e_fzF, f_aug, ↓f_augK, h_mkS, k_mkS, k_mkST, e_fmt, e_js, k_js, e_js0, q_callK, q_strO, q_reprO, q_isCint, q_isCbl, q_isCstr, q_isCtup, q_isClst, q_isCnon, q_intB, q_intI, fd_Lane_low, fd_Lane_shift, pr_Lane_drift, pr_Lane_least, is_Lane_11099, bo_Lane, ic_Lane]
  have pd : ∀ (p : Int × Int) s, m_Lane_drift [LnV p] s = .ok (.int p.2) s := fun p s => by simp only [m_Lane_drift, B_Lane_drift, S_Lane_drift_1, e_bnd, ↓e_bok, e_bexc, e_ret, e_nox, ↓e_nok, e_cst, e_yes, e_m2, e_m1, e_tst, e_chn, e_and, e_or, e_not, e_vand, e_vor, e_vnot, e_mif, e_anil, e_acons, e_mC, e_call, e_mM, e_sl, e_ono, e_oso, e_dic1, ↓k_tst, ↓k_chnT, ↓k_chnF, ↓k_andT, ↓k_andF, ↓k_orT, ↓k_orF, ↓k_not, ↓k_oso, ↓k_asg, e_seq, ↓e_snx, ↓e_srt, ↓e_sbk, ↓e_sct, ↓e_lok, e_nxs, e_bks, e_cts, e_ex, e_rt, e_set, e_if, e_par, e_asg, f_setix, f_augix, e_sFor, e_forfix, e_src, e_rng1, e_enum, e_lc, e_cmpfix, f_get, ↓f_oo, ↓f_o1, f_ixR, f_ixO, f_ixL, f_ixSl, f_ixT, f_lenR, f_lenO, f_augR, f_setR, f_setO, f_goO, f_run, ↓f_rt, ↓f_nx, v_lenL, v_lenT, v_lenSl, v_addI, v_addII, v_sub, v_neg, v_eqI, v_eqS, v_eqB, v_neI, v_neS, v_lt, v_le, v_gt, v_ge, at_lit, ix_lit', Option.map_some, List.map_cons, List.map_nil, List.length_cons, List.length_nil, List.length_map, List.cons_append, List.nil_append, List.replicate, List.getElem?_cons_zero, List.getElem?_cons_succ, List.set_cons_zero, List.set_cons_succ, List.set_set, f_isi, f_isiO, f_isiB, v_slL, v_slSl, v_abs, v_max, v_min, v_kF, v_srcL, v_srcS, decide_true, decide_false, ↓reduceIte, Bool.false_eq_true, Bool.true_eq_false, Bool.not_true, Bool.not_false, Nat.reduceAdd, Nat.reduceSub, Nat.reduceLT, ↓u_oS, u_mul, u_mulS, u_div, u_mod, u_addS, u_addL, u_slS, u_ixS, u_lenS, u_str, u_kLst, u_kTup, u_kLstS, u_rng, u_upper, u_tNm, u_tTup, u_tNil, u_tCns, ↓u_tcR, f_isTS, wipeD, beq_self_eq_true, and_self, true_and, and_true, Int.reduceLT, Nat.reduceLeDiff, Int.reduceLE, Int.reduceNeg, Int.reduceToNat, Int.reduceAdd, g_src, ↓g_srcO, g_enu, ↓g_enuO, g_isT, ↓g_isTO, g_app, ↓g_appO, g_rev, ↓g_revO, g_lis, ↓g_lisO, g_kS, g_LR, g_kLR, h_fld, h_prop, h_meth, h_callO, h_mk, h_isi, h_gfld, h_gprop, h_gisi, h_isC, h_kMeth, ↓h_methR, h_kCallO, ↓h_notR, h_arN, h_tLst, h_asgH, h_srcT, h_max, h_min, e_fz, e_fzF, f_aug, ↓f_augK, h_mkS, k_mkS, k_mkST, e_fmt, e_js, k_js, e_js0, q_callK, q_strO, q_reprO, q_isCint, q_isCbl, q_isCstr, q_isCtup, q_isClst, q_isCnon, q_intB, q_intI, fd_Lane_low, fd_Lane_shift, pr_Lane_drift, pr_Lane_least, is_Lane_11099, bo_Lane, ic_Lane]
  have hc12 : cmpL (tNm 7) yes E_law_12_17 [some (.sls (ns.map D.int)), some (.ref 0), some (.ref 1), some (.lst [LnV (lfold A), LnV (lfold B)]), none, none, none, none, none, none, none, none, none] [LnV (lfold A), LnV (lfold B)] [] s7 = .ok [.tup [.int (lfold A).1, .int (lfold A).2], .tup [.int (lfold B).1, .int (lfold B).2]] s7 := by
    rw [q_step (σ2 := _) (s1 := s7) (y := .tup [.int (lfold A).1, .int (lfold A).2]) (s2 := s7) rfl rfl (by simp only [E_law_12_17, e_bnd, ↓e_bok, e_bexc, e_ret, e_nox, ↓e_nok, e_cst, e_yes, e_m2, e_m1, e_tst, e_chn, e_and, e_or, e_not, e_vand, e_vor, e_vnot, e_mif, e_anil, e_acons, e_mC, e_call, e_mM, e_sl, e_ono, e_oso, e_dic1, ↓k_tst, ↓k_chnT, ↓k_chnF, ↓k_andT, ↓k_andF, ↓k_orT, ↓k_orF, ↓k_not, ↓k_oso, ↓k_asg, e_seq, ↓e_snx, ↓e_srt, ↓e_sbk, ↓e_sct, ↓e_lok, e_nxs, e_bks, e_cts, e_ex, e_rt, e_set, e_if, e_par, e_asg, f_setix, f_augix, e_sFor, e_forfix, e_src, e_rng1, e_enum, e_lc, e_cmpfix, f_get, ↓f_oo, ↓f_o1, f_ixR, f_ixO, f_ixL, f_ixSl, f_ixT, f_lenR, f_lenO, f_augR, f_setR, f_setO, f_goO, f_run, ↓f_rt, ↓f_nx, v_lenL, v_lenT, v_lenSl, v_addI, v_addII, v_sub, v_neg, v_eqI, v_eqS, v_eqB, v_neI, v_neS, v_lt, v_le, v_gt, v_ge, at_lit, ix_lit', Option.map_some, List.map_cons, List.map_nil, List.length_cons, List.length_nil, List.length_map, List.cons_append, List.nil_append, List.replicate, List.getElem?_cons_zero, List.getElem?_cons_succ, List.set_cons_zero, List.set_cons_succ, List.set_set, f_isi, f_isiO, f_isiB, v_slL, v_slSl, v_abs, v_max, v_min, v_kF, v_srcL, v_srcS, decide_true, decide_false, ↓reduceIte, Bool.false_eq_true, Bool.true_eq_false, Bool.not_true, Bool.not_false, Nat.reduceAdd, Nat.reduceSub, Nat.reduceLT, ↓u_oS, u_mul, u_mulS, u_div, u_mod, u_addS, u_addL, u_slS, u_ixS, u_lenS, u_str, u_kLst, u_kTup, u_kLstS, u_rng, u_upper, u_tNm, u_tTup, u_tNil, u_tCns, ↓u_tcR, f_isTS, wipeD, beq_self_eq_true, and_self, true_and, and_true, Int.reduceLT, Nat.reduceLeDiff, Int.reduceLE, Int.reduceNeg, Int.reduceToNat, Int.reduceAdd, g_src, ↓g_srcO, g_enu, ↓g_enuO, g_isT, ↓g_isTO, g_app, ↓g_appO, g_rev, ↓g_revO, g_lis, ↓g_lisO, g_kS, g_LR, g_kLR, h_fld, h_prop, h_meth, h_callO, h_mk, h_isi, h_gfld, h_gprop, h_gisi, h_isC, h_kMeth, ↓h_methR, h_kCallO, ↓h_notR, h_arN, h_tLst, h_asgH, h_srcT, h_max, h_min, e_fz, e_fzF, f_aug, ↓f_augK, h_mkS, k_mkS, k_mkST, e_fmt, e_js, k_js, e_js0, q_callK, q_strO, q_reprO, q_isCint, q_isCbl, q_isCstr, q_isCtup, q_isClst, q_isCnon, q_intB, q_intI, fd_Lane_low, fd_Lane_shift, pr_Lane_drift, pr_Lane_least, is_Lane_11099, bo_Lane, ic_Lane, u_tNm, pl, pd, l2]) (by simp only [List.nil_append, List.cons_append, List.length_cons, List.length_nil]; decide)]
    rw [q_step (σ2 := _) (s1 := s7) (y := .tup [.int (lfold B).1, .int (lfold B).2]) (s2 := s7) rfl rfl (by simp only [E_law_12_17, e_bnd, ↓e_bok, e_bexc, e_ret, e_nox, ↓e_nok, e_cst, e_yes, e_m2, e_m1, e_tst, e_chn, e_and, e_or, e_not, e_vand, e_vor, e_vnot, e_mif, e_anil, e_acons, e_mC, e_call, e_mM, e_sl, e_ono, e_oso, e_dic1, ↓k_tst, ↓k_chnT, ↓k_chnF, ↓k_andT, ↓k_andF, ↓k_orT, ↓k_orF, ↓k_not, ↓k_oso, ↓k_asg, e_seq, ↓e_snx, ↓e_srt, ↓e_sbk, ↓e_sct, ↓e_lok, e_nxs, e_bks, e_cts, e_ex, e_rt, e_set, e_if, e_par, e_asg, f_setix, f_augix, e_sFor, e_forfix, e_src, e_rng1, e_enum, e_lc, e_cmpfix, f_get, ↓f_oo, ↓f_o1, f_ixR, f_ixO, f_ixL, f_ixSl, f_ixT, f_lenR, f_lenO, f_augR, f_setR, f_setO, f_goO, f_run, ↓f_rt, ↓f_nx, v_lenL, v_lenT, v_lenSl, v_addI, v_addII, v_sub, v_neg, v_eqI, v_eqS, v_eqB, v_neI, v_neS, v_lt, v_le, v_gt, v_ge, at_lit, ix_lit', Option.map_some, List.map_cons, List.map_nil, List.length_cons, List.length_nil, List.length_map, List.cons_append, List.nil_append, List.replicate, List.getElem?_cons_zero, List.getElem?_cons_succ, List.set_cons_zero, List.set_cons_succ, List.set_set, f_isi, f_isiO, f_isiB, v_slL, v_slSl, v_abs, v_max, v_min, v_kF, v_srcL, v_srcS, decide_true, decide_false, ↓reduceIte, Bool.false_eq_true, Bool.true_eq_false, Bool.not_true, Bool.not_false, Nat.reduceAdd, Nat.reduceSub, Nat.reduceLT, ↓u_oS, u_mul, u_mulS, u_div, u_mod, u_addS, u_addL, u_slS, u_ixS, u_lenS, u_str, u_kLst, u_kTup, u_kLstS, u_rng, u_upper, u_tNm, u_tTup, u_tNil, u_tCns, ↓u_tcR, f_isTS, wipeD, beq_self_eq_true, and_self, true_and, and_true, Int.reduceLT, Nat.reduceLeDiff, Int.reduceLE, Int.reduceNeg, Int.reduceToNat, Int.reduceAdd, g_src, ↓g_srcO, g_enu, ↓g_enuO, g_isT, ↓g_isTO, g_app, ↓g_appO, g_rev, ↓g_revO, g_lis, ↓g_lisO, g_kS, g_LR, g_kLR, h_fld, h_prop, h_meth, h_callO, h_mk, h_isi, h_gfld, h_gprop, h_gisi, h_isC, h_kMeth, ↓h_methR, h_kCallO, ↓h_notR, h_arN, h_tLst, h_asgH, h_srcT, h_max, h_min, e_fz, e_fzF, f_aug, ↓f_augK, h_mkS, k_mkS, k_mkST, e_fmt, e_js, k_js, e_js0, q_callK, q_strO, q_reprO, q_isCint, q_isCbl, q_isCstr, q_isCtup, q_isClst, q_isCnon, q_intB, q_intI, fd_Lane_low, fd_Lane_shift, pr_Lane_drift, pr_Lane_least, is_Lane_11099, bo_Lane, ic_Lane, u_tNm, pl, pd, l2]) (by simp only [List.nil_append, List.cons_append, List.length_cons, List.length_nil]; decide)]
    rfl
  have oE := ownE (s := s7) (lfold A) (lfold B)
  have oE2 := ownE (s := s7) (lfold A) (lfold A)
  rw [beq_self_eq_true, beq_self_eq_true, Bool.and_self] at oE2
  have oT : dOwnE "Lane" (arN 2 m_Lane_eq) dEq (.tup [.int (lfold A).1, .int (lfold A).2]) (.tup [.int (lfold B).1, .int (lfold B).2]) s7 = .ok (.bl ((lfold A).1 == (lfold B).1 && (lfold A).2 == (lfold B).2)) s7 := by
    rw [q_ownE, q_lhs, q_isCtup, Bool.false_and, if_neg (by decide), tup_eq]
  have oB : ∀ b : Bool, dOwnN "Lane" (arN 2 m_Lane_eq) dNe (.bl b) (.bl b) s7 = .ok (.bl false) s7 := fun b => by
    rw [q_ownN, q_lhs, q_isCbl, Bool.false_and, if_neg (by decide)]
    show Res.ok (D.bl (!(b == b))) s7 = _
    rw [beq_self_eq_true]
    rfl
  have eLA := lane_ok (s := s7) A
  -- three
  have hcut3 : ∀ R : List (Int × Int), cutD (R.map rw2) none (some 3) = (R.take 3).map rw2 := fun R => by rw [cutD_map, cutA_hi _ (by decide)]; rfl
  obtain ⟨x, y, z, T, hT, bx, by', bz⟩ : ∃ (x y z : Int × Int) (T : List (Int × Int)), A.take 3 ++ [(2, 1), (0, 3), (1, 1)] = x :: y :: z :: T ∧ bnd2 x ∧ bnd2 y ∧ bnd2 z := by
    have hall : ∀ r ∈ A.take 3 ++ [(2, 1), (0, 3), (1, 1)], bnd2 r := fun r hr => by
      rcases List.mem_append.mp hr with h | h
      · exact bA r (List.mem_of_mem_take h)
      · simp only [List.mem_cons, List.not_mem_nil, or_false] at h
        unfold bnd2 num
        rcases h with rfl | rfl | rfl <;> decide
    have hlen : 3 ≤ (A.take 3 ++ [(2, 1), (0, 3), (1, 1)]).length := by rw [List.length_append]; simp
    generalize A.take 3 ++ [(2, 1), (0, 3), (1, 1)] = Q at hall hlen
    match Q, hlen with
    | x :: y :: z :: T, _ => exact ⟨x, y, z, T, rfl, hall x (by simp), hall y (by simp), hall z (by simp)⟩
  have hm3 : (A.take 3).map rw2 ++ [D.tup [.int 2, .int 1], .tup [.int 0, .int 3], .tup [.int 1, .int 1]] = rw2 x :: rw2 y :: rw2 z :: T.map rw2 := by
    have : (A.take 3).map rw2 ++ [D.tup [.int 2, .int 1], .tup [.int 0, .int 3], .tup [.int 1, .int 1]] = (A.take 3 ++ [(2, 1), (0, 3), (1, 1)]).map rw2 := by rw [List.map_append]; rfl
    rw [this, hT]
    rfl
  have happ3 : dAdd (.lst ((A.take 3).map rw2)) (.lst [.tup [.int 2, .int 1], .tup [.int 0, .int 3], .tup [.int 1, .int 1]]) s7 = .ok (.lst (rw2 x :: rw2 y :: rw2 z :: T.map rw2)) s7 := by
    rw [u_addL, if_pos (by rw [List.length_map, List.length_take]; show _ + 3 ≤ 1000000; omega)]
    rw [hm3]
  have b3 : ∀ r ∈ [x, y, z], bnd2 r := fun r hr => by
    simp only [List.mem_cons, List.not_mem_nil, or_false] at hr
    rcases hr with rfl | rfl | rfl <;> assumption
  obtain ⟨s8, e8, k8⟩ := right_ok k7 (by decide) (rows := [x, y, z]) (by simp) b3
  simp only [List.map_cons, List.map_nil] at e8
  have mk3 : frzR s7 (mMk "Lane" (starF 1 m_Lane_init) [rw2 x, rw2 y, rw2 z] s7) = .ok (LnV (lfold [x, y, z])) s7 := mkF [x, y, z] (by simp)
  have hcut3' : cutD (rw2 x :: rw2 y :: rw2 z :: T.map rw2) none (some 3) = [rw2 x, rw2 y, rw2 z] := hcut3 (x :: y :: z :: T)
  -- more
  have p18 : ∀ s, dPow (.int 10) (.int 18) s = .ok (.int (10 ^ 18)) s := fun s => q_pow 18 (by decide)
  have q18 : num (10 ^ 18) := ⟨by omega, by omega⟩
  have sm : ∀ a : Nat, a ≤ 10 → num (a : Int) := fun a ha => ⟨by omega, by omega⟩
  have bM : ∀ r ∈ [x, y, z, (5, 2), (0, 4), (7, 7), (1, 0), x, y, z, (0, 9), (10 ^ 18, 10 ^ 18)], bnd2 r := by
    generalize (10 ^ 18 : Int) = big at q18
    simp only [List.forall_mem_cons]
    exact ⟨bx, by', bz, ⟨sm 5 (by decide), sm 2 (by decide)⟩, ⟨sm 0 (by decide), sm 4 (by decide)⟩, ⟨sm 7 (by decide), sm 7 (by decide)⟩, ⟨sm 1 (by decide), sm 0 (by decide)⟩, bx, by', bz, ⟨sm 0 (by decide), sm 9 (by decide)⟩, ⟨q18, q18⟩, fun _ h => nomatch h⟩
  obtain ⟨s9, e9, k9⟩ := right_ok k8 (by decide) (rows := [x, y, z, (5, 2), (0, 4), (7, 7), (1, 0), x, y, z, (0, 9), (10 ^ 18, 10 ^ 18)]) (by simp) bM
  have mkM := mkF (s := s8) [x, y, z, (5, 2), (0, 4), (7, 7), (1, 0), x, y, z, (0, 9), (10 ^ 18, 10 ^ 18)] (by simp)
  generalize lfold [x, y, z, (5, 2), (0, 4), (7, 7), (1, 0), x, y, z, (0, 9), (10 ^ 18, 10 ^ 18)] = PM at e9 mkM
  have c5 : rw2 (5, 2) = .tup [.int 5, .int 2] := rfl
  have c6 : rw2 (0, 4) = .tup [.int 0, .int 4] := rfl
  have c7 : rw2 (7, 7) = .tup [.int 7, .int 7] := rfl
  have c8 : rw2 (1, 0) = .tup [.int 1, .int 0] := rfl
  have c9 : rw2 (0, 9) = .tup [.int 0, .int 9] := rfl
  have c10 : rw2 (10 ^ 18, 10 ^ 18) = .tup [.int (10 ^ 18), .int (10 ^ 18)] := rfl
  simp only [List.map_cons, List.map_nil, c5, c6, c7, c8, c9, c10] at e9 mkM
  refine ⟨s9, ?_⟩
  have hlen2 : List.length s2 = 1 := len2
  simp only [m_law, B_law, S_law_1, S_law_2, S_law_5, S_law_6, S_law_8, S_law_10, S_law_12, S_law_13, S_law_15, S_law_16, S_law_18, S_law_19, S_law_20, S_law_21, e_bnd, ↓e_bok, e_bexc, e_ret, e_nox, ↓e_nok, e_cst, e_yes, e_m2, e_m1, e_tst, e_chn, e_and, e_or, e_not, e_vand, e_vor, e_vnot, e_mif, e_anil, e_acons, e_mC, e_call, e_mM, e_sl, e_ono, e_oso, e_dic1, ↓k_tst, ↓k_chnT, ↓k_chnF, ↓k_andT, ↓k_andF, ↓k_orT, ↓k_orF, ↓k_not, ↓k_oso, ↓k_asg, e_seq, ↓e_snx, ↓e_srt, ↓e_sbk, ↓e_sct, ↓e_lok, e_nxs, e_bks, e_cts, e_ex, e_rt, e_set, e_if, e_par, e_asg, f_setix, f_augix, e_sFor, e_forfix, e_src, e_rng1, e_enum, e_lc, e_cmpfix, f_get, ↓f_oo, ↓f_o1, f_ixR, f_ixO, f_ixL, f_ixSl, f_ixT, f_lenR, f_lenO, f_augR, f_setR, f_setO, f_goO, f_run, ↓f_rt, ↓f_nx, v_lenL, v_lenT, v_lenSl, v_addI, v_addII, v_sub, v_neg, v_eqI, v_eqS, v_eqB, v_neI, v_neS, v_lt, v_le, v_gt, v_ge, at_lit, ix_lit', Option.map_some, List.map_cons, List.map_nil, List.length_cons, List.length_nil, List.length_map, List.cons_append, List.nil_append, List.replicate, List.getElem?_cons_zero, List.getElem?_cons_succ, List.set_cons_zero, List.set_cons_succ, List.set_set, f_isi, f_isiO, f_isiB, v_slL, v_slSl, v_abs, v_max, v_min, v_kF, v_srcL, v_srcS, decide_true, decide_false, ↓reduceIte, Bool.false_eq_true, Bool.true_eq_false, Bool.not_true, Bool.not_false, Nat.reduceAdd, Nat.reduceSub, Nat.reduceLT, ↓u_oS, u_mul, u_mulS, u_div, u_mod, u_addS, u_slS, u_ixS, u_lenS, u_str, u_kLst, u_kTup, u_kLstS, u_rng, u_upper, u_tNm, u_tTup, u_tNil, u_tCns, ↓u_tcR, f_isTS, wipeD, beq_self_eq_true, and_self, true_and, and_true, Int.reduceLT, Nat.reduceLeDiff, Int.reduceLE, Int.reduceNeg, Int.reduceToNat, Int.reduceAdd, g_src, ↓g_srcO, g_enu, ↓g_enuO, g_isT, ↓g_isTO, g_app, ↓g_appO, g_rev, ↓g_revO, g_lis, ↓g_lisO, g_kS, g_LR, g_kLR, h_fld, h_prop, h_meth, h_callO, h_mk, h_isi, h_gfld, h_gprop, h_gisi, h_isC, h_kMeth, ↓h_methR, h_kCallO, ↓h_notR, h_arN, h_tLst, h_asgH, h_srcT, h_max, h_min, e_fz, e_fzF, f_aug, ↓f_augK, h_mkS, k_mkS, k_mkST, e_fmt, e_js, k_js, e_js0, q_callK, q_strO, q_reprO, q_isCint, q_isCbl, q_isCstr, q_isCtup, q_isClst, q_isCnon, q_intB, q_intI, fd_Lane_low, fd_Lane_shift, pr_Lane_drift, pr_Lane_least, is_Lane_11099, bo_Lane, ic_Lane, eb, e1, e2, l2, hlen2, hL0, e3, hL, f4, r2, hc6, hall, h6, m6, happ, e7, m0, m7, m8, n7, hc12, oE, oE2, oT, oB, h7, eLA, hcut3, l3, happ3, mk3, hcut3', e8, p18, l12, mkM, e9]

end RQ.Lw

open PySem PySem.W PyProof.Rows
set_option maxHeartbeats 0 in
theorem PySem.Challenge.cw_rowqueue_k86_lanes_as_maps_holds : PySem.Challenge.rw_rowqueue_k86_lanes_as_maps.Holds := by
  w_on; o_law; k_head; (case hw => w_witness2)
  k_fill
  refine RQ.walk_i (l := PySem.Challenge.rw_rowqueue_k86_lanes_as_maps) (n := 63) (k := 7) (x := "_law_script") (F := RQ.Lw.m_law) rfl (by decide) rfl ⟨rfl, by decide, by decide⟩ (fun w h Y => PySem.W.kIn_of Y) ?F RQ.Lw.law_true
  case F =>
    intro w mg fa h KX G hmg
    refine' RQ.Lw.all_mk KX G hmg ?aC0 ?a0 ?l0 ?c0 ?k0 ?a1 ?i1 ?l1 ?c1 ?k1 ?a2 ?rc2 ?pg2 ?pt2 ?l2 ?c2 ?k2 ?a3 ?rc3 ?pg3 ?pt3 ?l3 ?c3 ?k3 ?a4 ?i4 ?l4 ?c4 ?k4 ?a5 ?i5 ?l5 ?c5 ?k5 ?a6 ?l6 ?c6 ?k6 ?a7 ?l7 ?c7 ?k7 ?a8 ?l8 ?c8 ?k8 ?a9 ?i9 ?l9 ?c9 ?k9 ?a10 ?l10 ?c10 ?k10 ?a11 ?l11 ?c11 ?k11 ?a12 ?l12 ?c12 ?k12 ?a13 ?i13 ?l13 ?c13 ?k13 ?a14 ?l14 ?c14 ?k14 ?a15 ?l15 ?c15 ?k15 ?a16 ?l16 ?c16 ?k16 ?mkC0 ?kcC0 ?pgC0 ?hdC0 ?poC0 ?saC0 ?rsC0 ?roC0 ?fiC0 ?nfoC0 ?nfNoneTypeC0 ?nfboolC0 ?nfintC0 ?nfstrC0 ?nftupleC0 ?nflistC0 ?nfdictC0 ?neC0 ?soC0 ?sfC0 ?na0_shift ?na0_low ?ciaC0 ?cinC0 ?citC0 ?cimC0 ?kt0C0 ?kcNoneTypeC0 ?kcboolC0 ?kcintC0 ?kcstrC0 ?kctupleC0 ?kclistC0 ?kcdictC0 ?z0 ?z1 ?z2 ?z3 ?z4 ?z5 ?z6 ?z7 ?z8 ?z9
    (case aC0 => k_is); (case a0 => k_is); (case l0 => k_is); (case c0 => k_is); (case k0 => k_is); (case a1 => k_is); (case i1 => k_is); (case l1 => k_is); (case c1 => k_is); (case k1 => k_is); (case a2 => k_is); (case rc2 => k_is); (case pg2 => k_is); (case pt2 => k_is); (case l2 => k_is); (case c2 => k_is); (case k2 => k_is); (case a3 => k_is); (case rc3 => k_is); (case pg3 => k_is); (case pt3 => k_is); (case l3 => k_is); (case c3 => k_is); (case k3 => k_is); (case a4 => k_is); (case i4 => k_is); (case l4 => k_is); (case c4 => k_is); (case k4 => k_is); (case a5 => k_is); (case i5 => k_is); (case l5 => k_is); (case c5 => k_is); (case k5 => k_is); (case a6 => k_is); (case l6 => k_is); (case c6 => k_is); (case k6 => k_is); (case a7 => k_is); (case l7 => k_is); (case c7 => k_is); (case k7 => k_is); (case a8 => k_is); (case l8 => k_is); (case c8 => k_is); (case k8 => k_is); (case a9 => k_is); (case i9 => k_is); (case l9 => k_is); (case c9 => k_is); (case k9 => k_is); (case a10 => k_is); (case l10 => k_is); (case c10 => k_is); (case k10 => k_is); (case a11 => k_is); (case l11 => k_is); (case c11 => k_is); (case k11 => k_is); (case a12 => k_is); (case l12 => k_is); (case c12 => k_is); (case k12 => k_is); (case a13 => k_is); (case i13 => k_is); (case l13 => k_is); (case c13 => k_is); (case k13 => k_is); (case a14 => k_is); (case l14 => k_is); (case c14 => k_is); (case k14 => k_is); (case a15 => k_is); (case l15 => k_is); (case c15 => k_is); (case k15 => k_is); (case a16 => k_is); (case l16 => k_is); (case c16 => k_is); (case k16 => k_is); (case mkC0 => k_is); (case kcC0 => k_is); (case pgC0 => k_is); (case hdC0 => k_is); (case poC0 => k_is); (case saC0 => k_is); (case rsC0 => k_is); (case roC0 => k_is); (case fiC0 => k_is); (case nfoC0 => k_is); (case nfNoneTypeC0 => k_is); (case nfboolC0 => k_is); (case nfintC0 => k_is); (case nfstrC0 => k_is); (case nftupleC0 => k_is); (case nflistC0 => k_is); (case nfdictC0 => k_is); (case neC0 => k_is); (case soC0 => k_is); (case sfC0 => k_is); (case na0_shift => k_is); (case na0_low => k_is); (case ciaC0 => k_is); (case cinC0 => k_is); (case citC0 => k_is); (case cimC0 => k_is); (case kt0C0 => kit_is); (case kcNoneTypeC0 => kit_is); (case kcboolC0 => kit_is); (case kcintC0 => kit_is); (case kcstrC0 => kit_is); (case kctupleC0 => kit_is); (case kclistC0 => kit_is); (case kcdictC0 => kit_is); (case z0 => k_is); (case z1 => k_is); (case z2 => k_is); (case z3 => k_is); (case z4 => k_is); (case z5 => k_is); (case z6 => k_is); (case z7 => k_is); (case z8 => k_is); (case z9 => k_is)

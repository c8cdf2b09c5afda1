import PyProof.Rows.All
import Wide.All
import OpenK.AllK
import Wide.FinOn
import HandS.ForMost
import HandS.Wide
import HandS.IsInst
import HandS.Flow
import HandS.ForExc
import PyProof.ReprRoads
import HandS.Ends
import HandS.DeepEq
import PyProof.NeKinds
import HandS.Conv
import HandS.Remove
import HandS.SetFor
import HandS.SortRule
import HandS.Property
import HandS.Star
import PyProof.InstNe
import HandS.TryOnly
import HandS.FStr
import HandS.Defaults
import KE.KFmtOwn
import HandS.ExcInit
import HandS.ExcValue
import HandS.TupAny
import HandS.Deep
import HandS.More
import HandS.Style
import KE.DataFind
import PyProof.StrLawsRepr
import PySem.Challenge.RW_rowqueue_k12_plans_of_any_value
set_option Elab.async false
set_option linter.all false
set_option maxRecDepth 100000
set_option autoImplicit false
/-! RQ: a program as functions of plain data and a store; the walk is by rules, one a construct. -/
namespace RQ
open PySem PySem.Spec PyProof.Rows L2
abbrev SV := L2.St

/-- plain data; `ref n` is the n-th thing of the store (what may change) -/
inductive D where
  | non | bl (b : Bool) | int (i : Int) | str (x : Str)
  | tup (xs : List D) | lst (xs : List D) | sls (xs : List D) | dic (kvs : List (Key × D)) | ins (c : Str) (fs : List (Str × D))
  | ref (n : Nat) | ty (n : String) | obj (a : Addr)
inductive O where
  | lst (xs : List D) | dic (kvs : List (Key × D)) | ins (c : Str) (fs : List (Str × D))
abbrev Sto := List O
abbrev EV := List (Option D)
inductive Res (α : Type) where
  | ok (a : α) (s : Sto) | exc (c : Str) (fs : List (Str × D)) (s : Sto) | bad
abbrev M (α : Type) := Sto → Res α
inductive Fl where
  | nx | rt (d : D) | bk | ct
inductive SRes where
  | go (fl : Fl) (σ : EV) (s : Sto) | exc (c : Str) (fs : List (Str × D)) (σ : EV) (s : Sto) | bad
abbrev SM := EV → Sto → SRes

/-- a thing that ties a continuation: what reckons goes into the first part alone -/
inductive Tie {α : Type} (a : α) : Type
  | mk
def Res.bnd {α β : Type} (r : Res α) (g : α → M β) (_ : Tie g := Tie.mk) : Res β :=
  match r with
  | .ok a s => g a s
  | .exc c fs s => .exc c fs s
  | .bad => .bad
def bnd {α β : Type} (f : M α) (g : α → M β) : M β := fun s => (f s).bnd g
def ret {α : Type} (a : α) : M α := fun s => .ok a s
def bad {α : Type} : M α := fun _ => .bad
theorem bnd_ok {α β : Type} (a : α) (s : Sto) (g : α → M β) : (Res.ok a s).bnd g = g a s := rfl

/-! ### how data lies in a heap -/
/-- where the things of the store lie (ix), and what nobody may see (ex: a list that is being made) -/
structure MM where
  ix : List Addr
  ex : List Addr
def MM.has (m : MM) (a : Addr) : Prop := a ∈ m.ix ∨ a ∈ m.ex
instance (m : MM) (a : Addr) : Decidable (m.has a) := inferInstanceAs (Decidable (_ ∨ _))
def hid (m : MM) (H : Hp) : Hp := fun b => if m.has b then none else H b
mutual
inductive RV (K : PySem.W.Frag) (m : MM) (G : Hp) : D → V → Prop where
  | non : RV K m G .non .non
  | bl (b : Bool) : RV K m G (.bl b) (.bl b)
  | int (i : Int) : RV K m G (.int i) (.int i)
  | str (x : Str) : RV K m G (.str x) (.str x)
  | ty (n : String) : RV K m G (.ty n) (.ty n)
  | obj (a : Addr) : RV K m G (.obj a) (.ref a)
  | ref {n : Nat} {a : Addr} : m.ix[n]? = some a → RV K m G (.ref n) (.ref a)
  | tup {a : Addr} {vs : List V} {ds : List D} : SqT K G a vs → RVs K m G ds vs → RV K m G (.tup ds) (.ref a)
  | lst {a : Addr} {vs : List V} {ds : List D} : G a = some (.lst vs) → RVs K m G ds vs → RV K m G (.lst ds) (.ref a)
  | sls {a : Addr} {vs : List V} {ds : List D} : SqL K G a vs → RVs K m G ds vs → RV K m G (.sls ds) (.ref a)
  | dic {a : Addr} {kvs : List (Key × D)} {kws : List (Key × V)} : Rd G a (.dK kws) → kws.map (·.1) = kvs.map (·.1) →
      RVs K m G (kvs.map (·.2)) (kws.map (·.2)) → RV K m G (.dic kvs) (.ref a)
  | ins {a C dx : Addr} {c : Str} {fs : List (Str × D)} {gs : List (Str × V)} : PySem.W.nsIn K mainGlobals c = some (some (.ref C)) → G a = some (.ins C dx gs) → gs.map (·.1) = fs.map (·.1) →
      RVs K m G (fs.map (·.2)) (gs.map (·.2)) → RV K m G (.ins c fs) (.ref a)
inductive RVs (K : PySem.W.Frag) (m : MM) (G : Hp) : List D → List V → Prop where
  | nil : RVs K m G [] []
  | cons {d : D} {v : V} {ds : List D} {vs : List V} : RV K m G d v → RVs K m G ds vs → RVs K m G (d :: ds) (v :: vs)
end

theorem rd_mono {G G' : Hp} (hs : Same G G') {a : Addr} {u : HO} (h : Rd G a u) : Rd G' a u := by
  rcases h with h | ⟨o, h⟩
  · exact .inl (hs _ _ h)
  · exact .inr ⟨o, hs _ _ h⟩
theorem sqt_mono {K : PySem.W.Frag} {G G' : Hp} (hs : Same G G') {a : Addr} {xs : List V} (h : SqT K G a xs) : SqT K G' a xs :=
  h.elim (fun z => .inl (rd_mono hs z)) .inr
theorem sql_mono {K : PySem.W.Frag} {G G' : Hp} (hs : Same G G') {a : Addr} {xs : List V} (h : SqL K G a xs) : SqL K G' a xs :=
  h.elim (fun z => .inl (rd_mono hs z)) .inr

section
variable {K : PySem.W.Frag} {m m' : MM} {G G' : Hp}
theorem pre_get {m m' : List Addr} (hm : m <+: m') {n : Nat} {a : Addr} (h : m[n]? = some a) : m'[n]? = some a := by
  obtain ⟨r, rfl⟩ := hm
  obtain ⟨h1, h2⟩ := List.getElem?_eq_some_iff.mp h
  rw [List.getElem?_append_left h1]; exact h
mutual
theorem RV.mono (hm : m.ix <+: m'.ix) (hs : Same G G') : ∀ {d : D} {v : V}, RV K m G d v → RV K m' G' d v
  | _, _, .non => .non
  | _, _, .bl b => .bl b
  | _, _, .int i => .int i
  | _, _, .str x => .str x
  | _, _, .ty n => .ty n
  | _, _, .obj a => .obj a
  | _, _, .ref h => .ref (pre_get hm h)
  | _, _, .tup h r => .tup (sqt_mono hs h) (RVs.mono hm hs r)
  | _, _, .lst h r => .lst (hs _ _ h) (RVs.mono hm hs r)
  | _, _, .sls h r => .sls (sql_mono hs h) (RVs.mono hm hs r)
  | _, _, .dic h e r => .dic (rd_mono hs h) e (RVs.mono hm hs r)
  | _, _, .ins n h e r => .ins n (hs _ _ h) e (RVs.mono hm hs r)
theorem RVs.mono (hm : m.ix <+: m'.ix) (hs : Same G G') : ∀ {ds : List D} {vs : List V}, RVs K m G ds vs → RVs K m' G' ds vs
  | _, _, .nil => .nil
  | _, _, .cons h r => .cons (RV.mono hm hs h) (RVs.mono hm hs r)
end
theorem RVs.length : ∀ {ds : List D} {vs : List V}, RVs K m G ds vs → vs.length = ds.length
  | _, _, .nil => rfl
  | _, _, .cons _ r => by rw [List.length_cons, List.length_cons, RVs.length r]
theorem RVs.get : ∀ {ds : List D} {vs : List V} {i : Nat} {d : D}, RVs K m G ds vs → ds[i]? = some d → ∃ v, vs[i]? = some v ∧ RV K m G d v
  | _, _, _, _, .nil, e => by simp at e
  | _, _, 0, _, .cons h _, e => by simp at e; subst e; exact ⟨_, rfl, h⟩
  | _, _, i + 1, d, .cons _ r, e => by
    obtain ⟨v, h1, h2⟩ := RVs.get (i := i) (d := d) r (by simpa using e)
    exact ⟨v, by simpa using h1, h2⟩
theorem RVs.get' : ∀ {ds : List D} {vs : List V} {i : Nat} {v : V}, RVs K m G ds vs → vs[i]? = some v → ∃ d, ds[i]? = some d ∧ RV K m G d v
  | _, _, _, _, .nil, e => by simp at e
  | _, _, 0, _, .cons h _, e => by simp at e; subst e; exact ⟨_, rfl, h⟩
  | _, _, i + 1, d, .cons _ r, e => by
    obtain ⟨v, h1, h2⟩ := RVs.get' (i := i) (v := d) r (by simpa using e)
    exact ⟨v, by simpa using h1, h2⟩
theorem RVs.append : ∀ {ds es : List D} {vs ws : List V}, RVs K m G ds vs → RVs K m G es ws → RVs K m G (ds ++ es) (vs ++ ws)
  | _, _, _, _, .nil, s => s
  | _, _, _, _, .cons h r, s => .cons h (RVs.append r s)
theorem RVs.take : ∀ {ds : List D} {vs : List V} (n : Nat), RVs K m G ds vs → RVs K m G (ds.take n) (vs.take n)
  | _, _, 0, _ => .nil
  | _, _, _ + 1, .nil => .nil
  | _, _, n + 1, .cons h r => .cons h (RVs.take n r)
theorem RVs.drop : ∀ {ds : List D} {vs : List V} (n : Nat), RVs K m G ds vs → RVs K m G (ds.drop n) (vs.drop n)
  | _, _, 0, r => r
  | _, _, _ + 1, .nil => .nil
  | _, _, n + 1, .cons _ r => RVs.drop n r
theorem RVs.set {d : D} {v : V} (h : RV K m G d v) : ∀ {ds : List D} {vs : List V} (n : Nat), RVs K m G ds vs → RVs K m G (ds.set n d) (vs.set n v)
  | _, _, _, .nil => .nil
  | _, _, 0, .cons _ r => .cons h r
  | _, _, n + 1, .cons q r => .cons q (RVs.set h n r)
theorem RVs.reverse : ∀ {ds : List D} {vs : List V}, RVs K m G ds vs → RVs K m G ds.reverse vs.reverse
  | _, _, .nil => .nil
  | _, _, .cons h r => by
    rw [List.reverse_cons, List.reverse_cons]
    exact (RVs.reverse r).append (.cons h .nil)
end

structure Ext (m : MM) (H : Hp) (m' : MM) (H' : Hp) : Prop where
  pre : m.ix <+: m'.ix
  same : Same (hid m H) (hid m' H')
  exq : m'.ex = m.ex
  keep : ∀ a ∈ m.ex, H' a = H a
theorem Ext.refl (m : MM) (H : Hp) : Ext m H m H := ⟨List.prefix_rfl, Same.refl _, rfl, fun _ _ => rfl⟩
theorem Ext.trans {m m1 m2 : MM} {H H1 H2 : Hp} (a : Ext m H m1 H1) (b : Ext m1 H1 m2 H2) : Ext m H m2 H2 :=
  ⟨a.pre.trans b.pre, a.same.trans b.same, b.exq.trans a.exq, fun c hc => (b.keep c (by rw [a.exq]; exact hc)).trans (a.keep c hc)⟩

def RO (K : PySem.W.Frag) (mg : Str → Option Value) (m : MM) (H : Hp) (a : Addr) : O → Prop
  | .lst ds => ∃ vs, H a = some (.lst vs) ∧ RVs K m (hid m H) ds vs
  | .dic kvs => ∃ kws, H a = some (.dK kws) ∧ kws.map (·.1) = kvs.map (·.1) ∧ RVs K m (hid m H) (kvs.map (·.2)) (kws.map (·.2))
  | .ins c fs => ∃ C dx gs, PySem.W.nsIn K mainGlobals c = some (some (.ref C)) ∧ H a = some (.ins C dx gs) ∧ gs.map (·.1) = fs.map (·.1) ∧ RVs K m (hid m H) (fs.map (·.2)) (gs.map (·.2))
theorem RO.there {K : PySem.W.Frag} {mg : Str → Option Value} {m : MM} {H : Hp} {a : Addr} : ∀ {o : O}, RO K mg m H a o → ∃ u, H a = some u
  | .lst _, ⟨_, h, _⟩ => ⟨_, h⟩
  | .dic _, ⟨_, h, _⟩ => ⟨_, h⟩
  | .ins _ _, ⟨_, _, _, _, h, _⟩ => ⟨_, h⟩
theorem RO.mono {K : PySem.W.Frag} {mg : Str → Option Value} {m m' : MM} {H H' : Hp} {a : Addr} (e : Ext m H m' H') (ha : H' a = H a) : ∀ {o : O}, RO K mg m H a o → RO K mg m' H' a o
  | .lst _, ⟨vs, h, r⟩ => ⟨vs, ha.trans h, r.mono e.pre e.same⟩
  | .dic _, ⟨kws, h, z, r⟩ => ⟨kws, ha.trans h, z, r.mono e.pre e.same⟩
  | .ins _ _, ⟨C, dx, gs, g, h, z, r⟩ => ⟨C, dx, gs, g, ha.trans h, z, r.mono e.pre e.same⟩

structure R (K : PySem.W.Frag) (mg : Str → Option Value) (m : MM) (s : Sto) (H : Hp) : Prop where
  len : m.ix.length = s.length
  nd : m.ix.Nodup
  obj : ∀ (n : Nat) (a : Addr) (o : O), m.ix[n]? = some a → s[n]? = some o → RO K mg m H a o
  ext : ∀ a ∈ m.ex, (∃ u, H a = some u) ∧ a ∉ m.ix
  ns : ∀ c C, PySem.W.nsIn K mainGlobals c = some (some (.ref C)) → mg c = some (.ref C)

section
variable {K : PySem.W.Frag} {mg : Str → Option Value} {m : MM} {s : Sto} {H : Hp}
theorem R.there (r : R K mg m s H) {a : Addr} (h : m.has a) : ∃ u, H a = some u := by
  rcases h with h | h
  · obtain ⟨n, hn⟩ := List.getElem?_of_mem h
    have h1 := (List.getElem?_eq_some_iff.mp hn).1
    rw [r.len] at h1
    exact (r.obj n a _ hn (List.getElem?_eq_getElem h1)).there
  · exact (r.ext a h).1
theorem R.fresh (r : R K mg m s H) {p : Addr} (h : H p = none) : ¬ m.has p := fun z => by
  obtain ⟨u, e⟩ := r.there z
  rw [h] at e; cases e
theorem hid_in {a : Addr} (h : m.has a) : hid m H a = none := if_pos h
theorem hid_out {a : Addr} (h : ¬ m.has a) : hid m H a = H a := if_neg h
theorem of_hid {a : Addr} {o : HO} (h : hid m H a = some o) : ¬ m.has a ∧ H a = some o := by
  unfold hid at h
  by_cases z : m.has a
  · rw [if_pos z] at h; cases h
  · rw [if_neg z] at h; exact ⟨z, h⟩
/-- a new thing that will never change -/
theorem R.newF (r : R K mg m s H) {p : Addr} {o : HO} (h : H p = none) : Ext m H m (upd H p o) ∧ R K mg m s (upd H p o) ∧ hid m (upd H p o) p = some o := by
  have hp := r.fresh h
  have nx : ∀ a ∈ m.ex, a ≠ p := fun a ha z => hp (.inr (z ▸ ha))
  have e : Ext m H m (upd H p o) := ⟨List.prefix_rfl, fun b u q => by
    obtain ⟨q1, q2⟩ := of_hid q
    rw [hid_out q1, upd_ne (ne_of_none q2 h)]; exact q2, rfl, fun a ha => upd_ne (nx a ha)⟩
  refine ⟨e, ⟨r.len, r.nd, fun n a ob h1 h2 => ?_, fun a ha => ?_, r.ns⟩, by rw [hid_out hp, upd_same]⟩
  · have ha : a ≠ p := fun z => hp (.inl (z ▸ List.mem_of_getElem? h1))
    exact (r.obj n a ob h1 h2).mono e (upd_ne ha)
  · rw [upd_ne (nx a ha)]; exact r.ext a ha
/-- the store has one thing more -/
def MM.more (m : MM) (p : Addr) : MM := ⟨m.ix ++ [p], m.ex⟩
theorem R.newS (r : R K mg m s H) {p : Addr} {ho : HO} {o : O} (h : H p = none)
    (hn : Ext m H (m.more p) (upd H p ho) → RO K mg (m.more p) (upd H p ho) p o) : Ext m H (m.more p) (upd H p ho) ∧ R K mg (m.more p) (s ++ [o]) (upd H p ho) := by
  have hp := r.fresh h
  have nx : ∀ a ∈ m.ex, a ≠ p := fun a ha z => hp (.inr (z ▸ ha))
  have e : Ext m H (m.more p) (upd H p ho) := ⟨List.prefix_append _ _, fun b u q => by
    obtain ⟨q1, q2⟩ := of_hid q
    have nb : b ≠ p := ne_of_none q2 h
    rw [hid_out (m := m.more p) (fun z => z.elim (fun z => (List.mem_append.mp z).elim (fun y => q1 (.inl y)) fun y => nb (by simpa using y)) fun z => q1 (.inr z)), upd_ne nb]; exact q2, rfl, fun a ha => upd_ne (nx a ha)⟩
  refine ⟨e, ⟨by show (m.ix ++ [p]).length = _; simp [r.len], ?_, fun n a ob h1 h2 => ?_, fun a ha => ?_, r.ns⟩⟩
  · exact List.nodup_append.mpr ⟨r.nd, by simp, fun a ha b hb => by
      have : b = p := by simpa using hb
      subst this
      exact fun z => hp (.inl (z ▸ ha))⟩
  · have h1 : (m.ix ++ [p])[n]? = some a := h1
    by_cases hl : n < m.ix.length
    · rw [List.getElem?_append_left hl] at h1
      rw [List.getElem?_append_left (by rw [← r.len]; exact hl)] at h2
      have ha : a ≠ p := fun z => hp (.inl (z ▸ List.mem_of_getElem? h1))
      exact (r.obj n a ob h1 h2).mono e (upd_ne ha)
    · have hn' : n = m.ix.length := by
        have := (List.getElem?_eq_some_iff.mp h1).1
        simp at this; omega
      subst hn'
      simp at h1
      rw [r.len] at h2
      simp at h2
      subst h1 h2
      exact hn e
  · refine ⟨by rw [upd_ne (nx a ha)]; exact (r.ext a ha).1, fun z => ?_⟩
    rcases List.mem_append.mp (show a ∈ m.ix ++ [p] from z) with z | z
    · exact (r.ext a ha).2 z
    · exact nx a ha (by simpa using z)
/-- a thing of the store changes -/
theorem R.put (r : R K mg m s H) {n : Nat} {a : Addr} {ho : HO} {o : O} (ha : m.ix[n]? = some a)
    (hn : Ext m H m (upd H a ho) → RO K mg m (upd H a ho) a o) : Ext m H m (upd H a ho) ∧ R K mg m (s.set n o) (upd H a ho) := by
  have am : a ∈ m.ix := List.mem_of_getElem? ha
  have nx : ∀ b ∈ m.ex, b ≠ a := fun b hb z => (r.ext b hb).2 (by rw [z]; exact am)
  have e : Ext m H m (upd H a ho) := ⟨List.prefix_rfl, fun b u q => by
    obtain ⟨q1, q2⟩ := of_hid q
    have nb : b ≠ a := fun z => q1 (.inl (by rw [z]; exact am))
    rw [hid_out q1, upd_ne nb]; exact q2, rfl, fun b hb => upd_ne (nx b hb)⟩
  refine ⟨e, ⟨by rw [List.length_set]; exact r.len, r.nd, fun k b ob h1 h2 => ?_, fun b hb => ?_, r.ns⟩⟩
  · by_cases hk : k = n
    · subst hk
      rw [ha] at h1; cases h1
      have hl : k < s.length := by rw [← r.len]; exact (List.getElem?_eq_some_iff.mp ha).1
      rw [List.getElem?_set_self hl] at h2
      cases h2
      exact hn e
    · rw [List.getElem?_set_ne (Ne.symm hk)] at h2
      have hb : b ≠ a := fun z => by
        subst z
        obtain ⟨x1, y1⟩ := List.getElem?_eq_some_iff.mp h1
        obtain ⟨x2, y2⟩ := List.getElem?_eq_some_iff.mp ha
        exact hk ((List.getElem_inj r.nd).mp (y1.trans y2.symm))
      exact (r.obj k b ob h1 h2).mono e (upd_ne hb)
  · rw [upd_ne (nx b hb)]; exact r.ext b hb
/-- one thing more that nobody sees -/
def MM.cover (m : MM) (p : Addr) : MM := ⟨m.ix, p :: m.ex⟩
theorem R.cover (r : R K mg m s H) {p : Addr} {ho : HO} (h : H p = none) : R K mg (m.cover p) s (upd H p ho) ∧ Same (hid m H) (hid (m.cover p) (upd H p ho)) := by
  have hp := r.fresh h
  have sm : Same (hid m H) (hid (m.cover p) (upd H p ho)) := fun b u q => by
    obtain ⟨q1, q2⟩ := of_hid q
    have nb : b ≠ p := ne_of_none q2 h
    rw [hid_out (m := m.cover p) (fun z => z.elim (fun y => q1 (.inl y)) fun y => (List.mem_cons.mp y).elim nb fun y => q1 (.inr y)), upd_ne nb]; exact q2
  refine ⟨⟨r.len, r.nd, fun n a ob h1 h2 => ?_, fun a ha => ?_, r.ns⟩, sm⟩
  · have ha : a ≠ p := fun z => hp (.inl (z ▸ List.mem_of_getElem? h1))
    have q := r.obj n a ob h1 h2
    have px : m.ix <+: (m.cover p).ix := List.prefix_rfl
    cases ob with
    | lst ds => obtain ⟨vs, z, y⟩ := q; exact ⟨vs, (upd_ne ha).trans z, y.mono px sm⟩
    | dic kvs => obtain ⟨vs, z, y, x⟩ := q; exact ⟨vs, (upd_ne ha).trans z, y, x.mono px sm⟩
    | ins c fs => obtain ⟨C, dx, gs, z, y, x, u⟩ := q; exact ⟨C, dx, gs, z, (upd_ne ha).trans y, x, u.mono px sm⟩
  · rcases List.mem_cons.mp ha with z | z
    · subst z; exact ⟨⟨_, upd_same⟩, fun y => hp (.inl y)⟩
    · have na : a ≠ p := fun y => hp (.inr (y ▸ z))
      rw [upd_ne na]; exact r.ext a z
end

/-- the names of a def -/
structure RS (K : PySem.W.Frag) (m : MM) (G : Hp) (σd : EV) (σ : SV) : Prop where
  len : σ.length = σd.length
  get : ∀ (i : Nat) (d : D), σd[i]? = some (some d) → ∃ v, σ[i]? = some (some v) ∧ RV K m G d v
theorem RS.mono {K : PySem.W.Frag} {m m' : MM} {G G' : Hp} {σd : EV} {σ : SV} (hm : m.ix <+: m'.ix) (hs : Same G G') (h : RS K m G σd σ) : RS K m' G' σd σ :=
  ⟨h.len, fun i d e => let ⟨v, h1, h2⟩ := h.get i d e; ⟨v, h1, h2.mono hm hs⟩⟩
theorem RS.put {K : PySem.W.Frag} {m : MM} {G : Hp} {σd : EV} {σ : SV} {i : Nat} {d : D} {v : V} (h : RS K m G σd σ) (r : RV K m G d v) : RS K m G (σd.set i (some d)) (σ.set i (some v)) := by
  refine ⟨by simp [h.len], fun j e hj => ?_⟩
  by_cases hi : j = i
  · subst hi
    by_cases hl : j < σd.length
    · rw [List.getElem?_set_self hl] at hj
      cases hj
      exact ⟨v, List.getElem?_set_self (by rw [h.len]; exact hl), r⟩
    · rw [List.getElem?_eq_none (by simpa using hl)] at hj; cases hj
  · rw [List.getElem?_set_ne (Ne.symm hi)] at hj
    rw [List.getElem?_set_ne (Ne.symm hi)]
    exact h.get j e hj

/-! ### what is wanted of an outcome -/
def RX (K : PySem.W.Frag) (m : MM) (G : Hp) (fs : List (Str × D)) (d : Option Addr) : Prop :=
  (fs = [] ∧ d = none) ∨ ∃ dx gs, d = some dx ∧ G dx = some (.xd gs) ∧ gs.map (·.1) = fs.map (·.1) ∧ RVs K m G (fs.map (·.2)) (gs.map (·.2))
def XC (W : WX) (K : PySem.W.Frag) (mg : Str → Option Value) (σ : SV) (m : MM) (H : Hp) (c : Str) (fs : List (Str × D)) (s' : Sto) : Prop :=
  ∀ C d m' H', Ext m H m' H' → R K mg m' s' H' → mg c = some (.ref C) → RX K m' (hid m' H') fs d → W (.ref C) d σ H'
abbrev Rel (α β : Type) := MM → Hp → α → β → Prop
def Go {α β : Type} (W : WX) (K : PySem.W.Frag) (mg : Str → Option Value) (σ : SV) (rel : Rel α β) (m : MM) (H : Hp) (r : Res α) (Q : β → Hp → Prop) : Prop :=
  match r with
  | .ok a s' => ∀ b m' H', Ext m H m' H' → R K mg m' s' H' → rel m' (hid m' H') a b → Q b H'
  | .exc c fs s' => XC W K mg σ m H c fs s'
  | .bad => False
def relB : Rel Bool Bool := fun _ _ a b => b = a

section
variable {α β γ δ : Type} {W : WX} {K : PySem.W.Frag} {mg : Str → Option Value} {σ : SV} {rel : Rel α β} {rel2 : Rel γ δ} {m m1 : MM} {H H1 : Hp}
theorem XC.ext {c : Str} {fs : List (Str × D)} {s' : Sto} (e : Ext m H m1 H1) (h : XC W K mg σ m H c fs s') : XC W K mg σ m1 H1 c fs s' :=
  fun C d m' H' e' => h C d m' H' (e.trans e')
theorem Go.ext {r : Res α} {Q : β → Hp → Prop} (e : Ext m H m1 H1) (h : Go W K mg σ rel m H r Q) : Go W K mg σ rel m1 H1 r Q := by
  cases r with
  | ok a s' => exact fun b m' H' e' => h b m' H' (e.trans e')
  | exc c fs s' => exact XC.ext e h
  | bad => exact h
theorem Go.bnd {r : Res α} {g : α → M γ} {Q : δ → Hp → Prop} (h : Go W K mg σ rel2 m H (r.bnd g) Q) :
    Go W K mg σ rel m H r (fun b H1 => ∃ m1 a s1, Ext m H m1 H1 ∧ R K mg m1 s1 H1 ∧ rel m1 (hid m1 H1) a b ∧ Go W K mg σ rel2 m1 H1 (g a s1) Q) := by
  cases r with
  | ok a s' => exact fun b m' H' e' r' v' => ⟨m', a, s', e', r', v', Go.ext e' h⟩
  | exc c fs s' => exact h
  | bad => exact h
theorem Go.imp {r : Res α} {Q Q' : β → Hp → Prop} (h : Go W K mg σ rel m H r Q) (q : ∀ b H1, Q b H1 → Q' b H1) : Go W K mg σ rel m H r Q' := by
  cases r with
  | ok a s' => exact fun b m' H' e' r' v' => q _ _ (h b m' H' e' r' v')
  | exc c fs s' => exact h
  | bad => exact h
theorem Go.ok {a : α} {s : Sto} {b : β} {Q : β → Hp → Prop} (h : Go W K mg σ rel m H (.ok a s) Q) (r : R K mg m s H) (v : rel m (hid m H) a b) : Q b H := h b m H (Ext.refl m H) r v
end

/-! ### the judgements -/
def rE (X : Cx) (W : WX) (f : EV → M D) : TE := fun σ H Q => ∃ m σd s, R X.K X.mg m s H ∧ RS X.K m (hid m H) σd σ ∧ Go W X.K X.mg σ (RV X.K) m H (f σd s) Q
def rT (X : Cx) (W : WX) (f : EV → M Bool) : TT := fun σ H Q => ∃ m σd s, R X.K X.mg m s H ∧ RS X.K m (hid m H) σd σ ∧ Go W X.K X.mg σ relB m H (f σd s) Q
def rA (X : Cx) (W : WX) (f : EV → M (List D)) : TA := fun σ H Q => ∃ m σd s, R X.K X.mg m s H ∧ RS X.K m (hid m H) σd σ ∧ Go W X.K X.mg σ (RVs X.K) m H (f σd s) Q
structure IE (X : Cx) (W : WX) (e : Expr) (f : EV → M D) : Prop where
  pe : PE X e (rE X W f)
structure IT (X : Cx) (W : WX) (e : Expr) (f : EV → M Bool) : Prop where
  pt : PT X e (rT X W f)
structure IW (X : Cx) (W : WX) (e : Expr) (f : EV → M Bool) : Prop where
  pw : PW X e (rT X W f)
structure IA (X : Cx) (W : WX) (es : List Expr) (f : EV → M (List D)) : Prop where
  pa : PA X es (rA X W f)
theorem IW.it {X : Cx} {W : WX} {e : Expr} {f : EV → M Bool} (h : IW X W e f) : IT X W e f := ⟨h.pw.pt⟩

theorem pe_mono {X : Cx} {e : Expr} {t t' : TE} (h : PE X e t) (i : ∀ σ H Q, t' σ H Q → t σ H Q) : PE X e t' := ⟨fun pins s σ H Q I q => h.run pins s σ H Q I (i σ H Q q)⟩
theorem pt_mono {X : Cx} {e : Expr} {t t' : TT} (h : PT X e t) (i : ∀ σ H Q, t' σ H Q → t σ H Q) : PT X e t' := ⟨fun pins s σ H Q I q => h.run pins s σ H Q I (i σ H Q q)⟩
theorem pw_mono {X : Cx} {e : Expr} {t t' : TT} (h : PW X e t) (i : ∀ σ H Q, t' σ H Q → t σ H Q) : PW X e t' := ⟨fun wh pins s σ H Q I q => h.run wh pins s σ H Q I (i σ H Q q)⟩
theorem pa_mono {X : Cx} {es : List Expr} {t t' : TA} (h : PA X es t) (i : ∀ σ H Q, t' σ H Q → t σ H Q) : PA X es t' := ⟨fun ps pins s σ H Q I q => h.run ps pins s σ H Q I (i σ H Q q)⟩
theorem ps_mono {X : Cx} {st : Stmt} {t t' : TS} (h : PS X st t) (i : ∀ D σ H, t' D σ H → t D σ H) : PS X st t' := ⟨fun pins s σ H D I q => h.run pins s σ H D I (i D σ H q)⟩
theorem pss_mono {X : Cx} {st : List Stmt} {t t' : TS} (h : PSs X st t) (i : ∀ D σ H, t' D σ H → t D σ H) : PSs X st t' := ⟨fun pins s σ H D I q => h.run pins s σ H D I (i D σ H q)⟩

/-! ### by values -/
abbrev W0 : WX := fun _ _ _ _ => False
def g2 (X : Cx) (h : D → D → M D) : R2 := fun v u H Q => ∃ m x y s, R X.K X.mg m s H ∧ RV X.K m (hid m H) x v ∧ RV X.K m (hid m H) y u ∧ Go W0 X.K X.mg [] (RV X.K) m H (h x y s) Q
def g1 (X : Cx) (h : D → M D) : V → Hp → VK → Prop := fun v H Q => ∃ m x s, R X.K X.mg m s H ∧ RV X.K m (hid m H) x v ∧ Go W0 X.K X.mg [] (RV X.K) m H (h x s) Q
def gn (X : Cx) (h : List D → M D) : List V → Hp → VK → Prop := fun vs H Q => ∃ m xs s, R X.K X.mg m s H ∧ RVs X.K m (hid m H) xs vs ∧ Go W0 X.K X.mg [] (RV X.K) m H (h xs s) Q
def gt (X : Cx) (h : D → M Bool) : V → Hp → (Bool → Hp → Prop) → Prop := fun v H Q => ∃ m x s, R X.K X.mg m s H ∧ RV X.K m (hid m H) x v ∧ Go W0 X.K X.mg [] relB m H (h x s) Q
def OpI (X : Cx) (f : Value → Value → Sem Value) (h : D → D → M D) : Prop := OpR X f (g2 X h)
def UnI (X : Cx) (f : Value → Sem Value) (h : D → M D) : Prop := UnR X f (g1 X h)
def CallI (X : Cx) (f : Value) (h : List D → M D) : Prop := CallR X f (gn X h)
def TruI (X : Cx) (h : D → M Bool) : Prop := TruR X (gt X h)
/-- an operation by values raises nothing: its outcome serves any wish -/
def nox {α : Type} (f : M α) : M α := fun s => match f s with | .exc _ _ _ => .bad | r => r
theorem Go.nox {α β : Type} {W : WX} {K : PySem.W.Frag} {mg : Str → Option Value} {σ : SV} {rel : Rel α β} {m : MM} {H : Hp} {f : M α} {s : Sto} {Q : β → Hp → Prop} (h : Go W K mg σ rel m H (RQ.nox f s) Q) : Go W0 K mg [] rel m H (f s) Q := by
  unfold RQ.nox at h
  cases e : f s with
  | ok a s' => rw [e] at h; exact h
  | exc c fs s' => rw [e] at h; exact h.elim
  | bad => rw [e] at h; exact h.elim
end RQ

namespace RQ
open PySem PySem.Spec PyProof.Rows L2
section
variable {X : Cx} {W : WX} {pos : Pos}

/-! ### names, constants -/
def vGet (i : Nat) : EV → M D := fun σ s => match σ[i]? with | some (some d) => .ok d s | _ => .bad
theorem ie_var {i : Nat} {x : Str} (hN : X.N[i]? = some x) (hv : Vis X.env.scope x) (hd : (x == ("__debug__" : Str)) = false := by decide) (hcd : (x == ("__classdict__" : Str)) = false := by decide) : IE X W (.Name x pos) (vGet i) := by
  refine ⟨pe_mono (pe_var (pos := pos) hN hv hd hcd) fun σ H Q ⟨m, σd, s, hR, hS, hG⟩ => ?_⟩
  unfold vGet at hG
  split at hG
  · rename_i d e
    obtain ⟨v, h1, h2⟩ := hS.get i d e
    exact ⟨v, h1, hG.ok hR h2⟩
  · exact hG.elim
def cst (d : D) : EV → M D := fun _ s => .ok d s
theorem ie_int {i : Int} {j} : IE X W (.Constant (.int i) j pos) (cst (.int i)) := ⟨pe_mono pe_int fun σ H Q ⟨m, σd, s, hR, hS, hG⟩ => hG.ok hR (.int i)⟩
theorem ie_bl {b : Bool} {j} : IE X W (.Constant (.bool b) j pos) (cst (.bl b)) := ⟨pe_mono pe_bl fun σ H Q ⟨m, σd, s, hR, hS, hG⟩ => hG.ok hR (.bl b)⟩
theorem ie_non {j} : IE X W (.Constant .none j pos) (cst .non) := ⟨pe_mono pe_non fun σ H Q ⟨m, σd, s, hR, hS, hG⟩ => hG.ok hR .non⟩
theorem ie_str {x : Str} {j} : IE X W (.Constant (.str x) j pos) (cst (.str x)) := ⟨pe_mono pe_str fun σ H Q ⟨m, σd, s, hR, hS, hG⟩ => hG.ok hR (.str x)⟩
/-- a module's constant -/
theorem ie_glob {x : Str} {d : D} {v : V} {u : Value} (hg : Gl X x) (hm : X.mg x = some u) (r : RelV v u) (h : ∀ m G, RV X.K m G d v) (hd : (x == ("__debug__" : Str)) = false := by decide) : IE X W (.Name x pos) (cst d) :=
  ⟨pe_mono (pe_glob hg hm r hd) fun σ H Q ⟨m, σd, s, hR, hS, hG⟩ => hG.ok hR (h _ _)⟩
theorem ie_ty {x : Str} {n : String} (hg : Gl X x) (hm : X.mg x = none) (hv : bootBuiltins x = some (.type n)) (hn : x ≠ "__name__" := by decide) (hd : (x == ("__debug__" : Str)) = false := by decide) : IE X W (.Name x pos) (cst (.ty n)) :=
  ⟨pe_mono (pe_bltn (v := .ty n) hg hm hv rfl hn hd) fun σ H Q ⟨m, σd, s, hR, hS, hG⟩ => hG.ok hR (.ty n)⟩

/-! ### operators -/
variable {a b c : Expr} {f g h : EV → M D}
def m2 (o : D → D → M D) (f g : EV → M D) : EV → M D := fun σ => bnd (f σ) fun x => bnd (g σ) fun y => nox (o x y)
def m1 (o : D → M D) (f : EV → M D) : EV → M D := fun σ => bnd (f σ) fun x => nox (o x)
theorem two {o : D → D → M D} (σ : SV) (H : Hp) (Q : VK) (hw : rE X W (m2 o f g) σ H Q) : tOp (g2 X o) (rE X W f) (rE X W g) σ H Q := by
  obtain ⟨m, σd, s, hR, hS, hG⟩ := hw
  refine ⟨m, σd, s, hR, hS, (Go.bnd (rel := RV X.K) hG).imp fun x H1 ⟨m1, d, s1, e1, r1, v1, g1⟩ => ?_⟩
  refine ⟨m1, σd, s1, r1, hS.mono e1.pre e1.same, (Go.bnd (rel := RV X.K) g1).imp fun y H2 ⟨m2, d2, s2, e2, r2, v2, g2⟩ => ?_⟩
  exact ⟨m2, d, d2, s2, r2, v1.mono e2.pre e2.same, v2, g2.nox⟩
theorem one {o : D → M D} (σ : SV) (H : Hp) (Q : VK) (hw : rE X W (m1 o f) σ H Q) : tUn (g1 X o) (rE X W f) σ H Q := by
  obtain ⟨m, σd, s, hR, hS, hG⟩ := hw
  refine ⟨m, σd, s, hR, hS, (Go.bnd (rel := RV X.K) hG).imp fun x H1 ⟨m1, d, s1, e1, r1, v1, g1⟩ => ?_⟩
  exact ⟨m1, d, s1, r1, v1, g1.nox⟩
theorem ie_op {op : Operator} {o : D → D → M D} (ho : OpI X (binaryOp op) o) (ha : IE X W a f) (hb : IE X W b g) : IE X W (.BinOp a op b pos) (m2 o f g) := ⟨pe_mono (pe_op ho ha.pe hb.pe) two⟩
theorem ie_un {op : UnaryOp} {o : D → M D} (ho : UnI X (unaryOp op) o) (ha : IE X W a f) : IE X W (.UnaryOp op a pos) (m1 o f) := ⟨pe_mono (pe_un ho ha.pe) one⟩
theorem ie_cmp {op : CmpOp} {o : D → D → M D} (ho : OpI X (compareOp op) o) (ha : IE X W a f) (hb : IE X W b g) (hm : behindInMarks op b = false := by first | exact nomark _ | rfl) : IE X W (.Compare a [op] [b] pos) (m2 o f g) := ⟨pe_mono (pe_cmpR ho ha.pe hb.pe hm) two⟩
def tst (f : EV → M D) : EV → M Bool := fun σ => bnd (f σ) fun x => match x with | .bl k => ret k | _ => bad
theorem tsts {t : TE} (ht : ∀ σ H Q, rE X W f σ H Q → t σ H Q) (σ : SV) (H : Hp) (Q : Bool → Hp → Prop) (hw : rT X W (tst f) σ H Q) : t σ H fun x H' => ∃ k, x = .bl k ∧ Q k H' := by
  obtain ⟨m, σd, s, hR, hS, hG⟩ := hw
  refine ht σ H _ ⟨m, σd, s, hR, hS, (Go.bnd (rel := RV X.K) hG).imp fun x H1 ⟨m1, d, s1, e1, r1, v1, g1⟩ => ?_⟩
  split at g1
  · cases v1
    exact ⟨_, rfl, Go.ok (a := _) g1 r1 rfl⟩
  · exact g1.elim
theorem it_cmp {op : CmpOp} {o : D → D → M D} (ho : OpI X (compareOp op) o) (ha : IE X W a f) (hb : IE X W b g) (hm : behindInMarks op b = false := by first | exact nomark _ | rfl) : IT X W (.Compare a [op] [b] pos) (tst (m2 o f g)) :=
  ⟨pt_mono (pt_cmpR ho ha.pe hb.pe hm) (tsts two)⟩
/-- a bool as a test -/
theorem it_val {e : Expr} (he : IE X W e f) (hp : ∀ whole, isTrue e X.env whole = (do let v ← whole; standAt e.pos; holding [v] (truthy v)) := by intro _; rfl) : IT X W e (tst f) :=
  ⟨pt_mono (pt_val he.pe hp) (tsts fun _ _ _ q => q)⟩
/-- any value as a test -/
def tru (o : D → M Bool) (f : EV → M D) : EV → M Bool := fun σ => bnd (f σ) fun x => o x
def chn (o o' : D → D → M D) (f g h : EV → M D) : EV → M D := fun σ => bnd (f σ) fun x => bnd (g σ) fun y => bnd (nox (o x y)) fun z =>
  match z with | .bl true => bnd (h σ) fun w => nox (o' y w) | .bl false => ret (.bl false) | _ => bad
theorem chain {o o' : D → D → M D} (σ : SV) (H : Hp) (Q : VK) (hw : rE X W (chn o o' f g h) σ H Q) : tChain (g2 X o) (g2 X o') (rE X W f) (rE X W g) (rE X W h) σ H Q := by
  obtain ⟨m, σd, s, hR, hS, hG⟩ := hw
  refine ⟨m, σd, s, hR, hS, (Go.bnd (rel := RV X.K) hG).imp fun x H1 ⟨m1, d, s1, e1, r1, v1, g1⟩ => ?_⟩
  refine ⟨m1, σd, s1, r1, hS.mono e1.pre e1.same, (Go.bnd (rel := RV X.K) g1).imp fun y H2 ⟨m2, d2, s2, e2, r2, v2, g2⟩ => ?_⟩
  refine ⟨m2, d, d2, s2, r2, v1.mono e2.pre e2.same, v2, (Go.nox (Go.bnd (rel := RV X.K) g2)).imp fun z H3 ⟨m3, d3, s3, e3, r3, v3, g3⟩ => ?_⟩
  split at g3
  · cases v3
    refine ⟨true, rfl, ?_⟩
    rw [if_pos rfl]
    refine ⟨m3, σd, s3, r3, hS.mono (e1.pre.trans (e2.pre.trans e3.pre)) (e1.same.trans (e2.same.trans e3.same)), (Go.bnd (rel := RV X.K) g3).imp fun u H4 ⟨m4, d4, s4, e4, r4, v4, g4⟩ => ?_⟩
    exact ⟨m4, d2, d4, s4, r4, v2.mono (e3.pre.trans e4.pre) (e3.same.trans e4.same), v4, g4.nox⟩
  · cases v3
    refine ⟨false, rfl, ?_⟩
    rw [if_neg Bool.false_ne_true]
    exact Go.ok (a := D.bl false) g3 r3 (.bl false)
  · exact g3.elim
end
end RQ

namespace RQ
open PySem PySem.Spec PyProof.Rows L2
section
variable {X : Cx} {W : WX} {pos : Pos} {a b c : Expr} {f g h : EV → M D} {rest : List Expr} {p q : EV → M Bool}
theorem ie_chain {op op' : CmpOp} {o o' : D → D → M D} (ho : OpI X (compareOp op) o) (ho' : OpI X (compareOp op') o') (ha : IE X W a f) (hb : IE X W b g) (hc : IE X W c h)
    (hm : lastMarks [op, op'] [b, c] = false := by with_unfolding_all rfl) : IE X W (.Compare a [op, op'] [b, c] pos) (chn o o' f g h) := ⟨pe_mono (pe_chain ho ho' ha.pe hb.pe hc.pe hm) chain⟩
theorem it_chain {op op' : CmpOp} {o o' : D → D → M D} (ho : OpI X (compareOp op) o) (ho' : OpI X (compareOp op') o') (ha : IE X W a f) (hb : IE X W b g) (hc : IE X W c h)
    (hm : lastMarks [op, op'] [b, c] = false := by with_unfolding_all rfl) : IT X W (.Compare a [op, op'] [b, c] pos) (tst (chn o o' f g h)) := ⟨pt_mono (pt_chain ho ho' ha.pe hb.pe hc.pe hm) (tsts chain)⟩

/-! ### and, or, not -/
def mAnd (p q : EV → M Bool) : EV → M Bool := fun σ => bnd (p σ) fun k => if k = true then q σ else ret false
def mOr (p q : EV → M Bool) : EV → M Bool := fun σ => bnd (p σ) fun k => if k = true then ret true else q σ
def mNot (p : EV → M Bool) : EV → M Bool := fun σ => bnd (p σ) fun k => ret (!k)
theorem iw_and1 (ha : IT X W a p) : IW X W (.BoolOp .And [a] pos) p := ⟨pw_and1 ha.pt⟩
theorem iw_or1 (ha : IT X W a p) : IW X W (.BoolOp .Or [a] pos) p := ⟨pw_or1 ha.pt⟩
theorem iw_and (ha : IT X W a p) (hb : IW X W (.BoolOp .And (b :: rest) pos) q) : IW X W (.BoolOp .And (a :: b :: rest) pos) (mAnd p q) := by
  refine ⟨pw_mono (pw_and ha.pt hb.pw) fun σ H Q ⟨m, σd, s, hR, hS, hG⟩ => ?_⟩
  refine ⟨m, σd, s, hR, hS, (Go.bnd (rel := relB) hG).imp fun k H1 ⟨m1, d, s1, e1, r1, v1, g1⟩ => ?_⟩
  cases (show k = d from v1)
  cases k with
  | true => exact ⟨m1, σd, s1, r1, hS.mono e1.pre e1.same, g1⟩
  | false => exact Go.ok (a := false) g1 r1 rfl
theorem iw_or (ha : IT X W a p) (hb : IW X W (.BoolOp .Or (b :: rest) pos) q) : IW X W (.BoolOp .Or (a :: b :: rest) pos) (mOr p q) := by
  refine ⟨pw_mono (pw_or ha.pt hb.pw) fun σ H Q ⟨m, σd, s, hR, hS, hG⟩ => ?_⟩
  refine ⟨m, σd, s, hR, hS, (Go.bnd (rel := relB) hG).imp fun k H1 ⟨m1, d, s1, e1, r1, v1, g1⟩ => ?_⟩
  cases (show k = d from v1)
  cases k with
  | true => exact Go.ok (a := true) g1 r1 rfl
  | false => exact ⟨m1, σd, s1, r1, hS.mono e1.pre e1.same, g1⟩
theorem it_not (ha : IT X W a p) : IT X W (.UnaryOp .Not a pos) (mNot p) := by
  refine ⟨pt_mono (pt_not ha.pt) fun σ H Q ⟨m, σd, s, hR, hS, hG⟩ => ?_⟩
  refine ⟨m, σd, s, hR, hS, (Go.bnd (rel := relB) hG).imp fun k H1 ⟨m1, d, s1, e1, r1, v1, g1⟩ => ?_⟩
  cases (show k = d from v1)
  exact Go.ok (a := !k) g1 r1 rfl
/-- .. as values, all but the last bools -/
def vAnd (f g : EV → M D) : EV → M D := fun σ => bnd (f σ) fun x => match x with | .bl true => g σ | .bl false => ret (.bl false) | _ => bad
def vOr (f g : EV → M D) : EV → M D := fun σ => bnd (f σ) fun x => match x with | .bl true => ret (.bl true) | .bl false => g σ | _ => bad
def vNot (f : EV → M D) : EV → M D := fun σ => bnd (f σ) fun x => match x with | .bl k => ret (.bl (!k)) | _ => bad
theorem ie_one {op} (ha : IE X W a f) : IE X W (.BoolOp op [a] pos) f := ⟨pe_one ha.pe⟩
theorem ie_and (ha : IE X W a f) (hb : IE X W (.BoolOp .And (b :: rest) pos) g) : IE X W (.BoolOp .And (a :: b :: rest) pos) (vAnd f g) := by
  refine ⟨pe_mono (pe_and ha.pe hb.pe) fun σ H Q ⟨m, σd, s, hR, hS, hG⟩ => ?_⟩
  refine ⟨m, σd, s, hR, hS, (Go.bnd (rel := RV X.K) hG).imp fun x H1 ⟨m1, d, s1, e1, r1, v1, g1⟩ => ?_⟩
  split at g1
  · cases v1; exact ⟨true, rfl, m1, σd, s1, r1, hS.mono e1.pre e1.same, g1⟩
  · cases v1; exact ⟨false, rfl, Go.ok (a := D.bl false) g1 r1 (.bl _)⟩
  · exact g1.elim
theorem ie_or (ha : IE X W a f) (hb : IE X W (.BoolOp .Or (b :: rest) pos) g) : IE X W (.BoolOp .Or (a :: b :: rest) pos) (vOr f g) := by
  refine ⟨pe_mono (pe_or ha.pe hb.pe) fun σ H Q ⟨m, σd, s, hR, hS, hG⟩ => ?_⟩
  refine ⟨m, σd, s, hR, hS, (Go.bnd (rel := RV X.K) hG).imp fun x H1 ⟨m1, d, s1, e1, r1, v1, g1⟩ => ?_⟩
  split at g1
  · cases v1; exact ⟨true, rfl, Go.ok (a := D.bl true) g1 r1 (.bl _)⟩
  · cases v1; exact ⟨false, rfl, m1, σd, s1, r1, hS.mono e1.pre e1.same, g1⟩
  · exact g1.elim
theorem ie_not (ha : IE X W a f) : IE X W (.UnaryOp .Not a pos) (vNot f) := by
  refine ⟨pe_mono (pe_not ha.pe) fun σ H Q ⟨m, σd, s, hR, hS, hG⟩ => ?_⟩
  refine ⟨m, σd, s, hR, hS, (Go.bnd (rel := RV X.K) hG).imp fun x H1 ⟨m1, d, s1, e1, r1, v1, g1⟩ => ?_⟩
  split at g1
  · cases v1; exact ⟨_, rfl, Go.ok (a := D.bl _) g1 r1 (.bl _)⟩
  · exact g1.elim
def mIf (p : EV → M Bool) (f g : EV → M D) : EV → M D := fun σ => bnd (p σ) fun k => if k = true then f σ else g σ
theorem ie_if (hc : IT X W c p) (ha : IE X W a f) (hb : IE X W b g) : IE X W (.IfExp c a b pos) (mIf p f g) := by
  refine ⟨pe_mono (pe_ifExp hc.pt ha.pe hb.pe) fun σ H Q ⟨m, σd, s, hR, hS, hG⟩ => ?_⟩
  refine ⟨m, σd, s, hR, hS, (Go.bnd (rel := relB) hG).imp fun k H1 ⟨m1, d, s1, e1, r1, v1, g1⟩ => ?_⟩
  cases (show k = d from v1)
  cases k with
  | true => exact ⟨m1, σd, s1, r1, hS.mono e1.pre e1.same, g1⟩
  | false => exact ⟨m1, σd, s1, r1, hS.mono e1.pre e1.same, g1⟩

/-! ### argument lists, displays -/
variable {es : List Expr} {fs gs : EV → M (List D)}
def aNil : EV → M (List D) := fun _ s => .ok [] s
def aCons (f : EV → M D) (fs : EV → M (List D)) : EV → M (List D) := fun σ => bnd (f σ) fun x => bnd (fs σ) fun xs => ret (x :: xs)
theorem ia_nil : IA X W [] aNil := ⟨pa_mono pa_nil fun σ H Q ⟨m, σd, s, hR, hS, hG⟩ => Go.ok (a := []) hG hR .nil⟩
theorem ia_cons (ha : IE X W a f) (hr : IA X W es fs) (hs : starEach (a :: es) X.env = (false, eval a X.env) :: starEach es X.env := by rfl) : IA X W (a :: es) (aCons f fs) := by
  refine ⟨pa_mono (pa_cons ha.pe hr.pa hs) fun σ H Q ⟨m, σd, s, hR, hS, hG⟩ => ?_⟩
  refine ⟨m, σd, s, hR, hS, (Go.bnd (rel := RV X.K) hG).imp fun x H1 ⟨m1, d, s1, e1, r1, v1, g1⟩ => ?_⟩
  refine ⟨m1, σd, s1, r1, hS.mono e1.pre e1.same, (Go.bnd (rel := RVs X.K) g1).imp fun y H2 ⟨m2, d2, s2, e2, r2, v2, g2⟩ => ?_⟩
  exact Go.ok (a := d :: d2) g2 r2 (.cons (v1.mono e2.pre e2.same) v2)
/-- the largest length that is reckoned with -/
def lim : Nat := 1000000
theorem lim_le {n : Nat} (h : n ≤ lim) : n ≤ sizeLine := Nat.le_trans h (by decide)
theorem lim_lt {n : Nat} (h : n ≤ lim) : n < sizeLine := Nat.lt_of_le_of_lt h (by decide)
def kLst (xs : List D) : M D := fun s => if xs.length ≤ lim then .ok (.lst xs) s else .bad
def kTup (xs : List D) : M D := fun s => if xs.length ≤ lim then .ok (.tup xs) s else .bad
def kNew (o : O) : M D := fun s => .ok (.ref s.length) (s ++ [o])
def kLstS (xs : List D) : M D := fun s => if xs.length ≤ lim then kNew (.lst xs) s else .bad
section
variable {σ : SV} {m : MM} {H : Hp} {s : Sto} {Q : VK} {W' : WX} {K : PySem.W.Frag} {mg : Str → Option Value}
theorem Go.newL {ds : List D} {vs : List V} {p : Addr} (hR : R K mg m s H) (hv : RVs K m (hid m H) ds vs) (hp : H p = none) (hG : Go W' K mg σ (RV K) m H (.ok (.lst ds) s) Q) : Q (.ref p) (upd H p (.lst vs)) := by
  obtain ⟨e, r, hh⟩ := hR.newF (o := .lst vs) hp
  exact hG _ m _ e r (.lst hh (hv.mono e.pre e.same))
theorem Go.newT {ds : List D} {vs : List V} {p : Addr} (hR : R K mg m s H) (hv : RVs K m (hid m H) ds vs) (hp : H p = none) (hG : Go W' K mg σ (RV K) m H (.ok (.tup ds) s) Q) : Q (.ref p) (upd H p (.tup vs)) := by
  obtain ⟨e, r, hh⟩ := hR.newF (o := .tup vs) hp
  exact hG _ m _ e r (.tup (.inl (.inl hh)) (hv.mono e.pre e.same))
theorem Go.newLS {ds : List D} {vs : List V} {p : Addr} (hR : R K mg m s H) (hv : RVs K m (hid m H) ds vs) (hp : H p = none) (hG : Go W' K mg σ (RV K) m H (kNew (.lst ds) s) Q) : Q (.ref p) (upd H p (.lst vs)) := by
  obtain ⟨e, r⟩ := hR.newS (ho := .lst vs) (o := .lst ds) hp fun e => ⟨vs, upd_same, hv.mono e.pre e.same⟩
  exact hG _ _ _ e r (.ref (by rw [← hR.len]; show (m.ix ++ [p])[m.ix.length]? = _; simp))
end
theorem ie_lst (h : IA X W es fs) : IE X W (.List es pos) (fun σ => bnd (fs σ) kLst) := by
  refine ⟨pe_mono (pe_lst h.pa) fun σ H Q ⟨m, σd, s, hR, hS, hG⟩ => ?_⟩
  refine ⟨m, σd, s, hR, hS, (Go.bnd (rel := RVs X.K) hG).imp fun vs H1 ⟨m1, ds, s1, e1, r1, v1, g1⟩ => ?_⟩
  unfold kLst at g1
  split at g1
  · rename_i hl
    exact ⟨by rw [v1.length]; exact lim_le hl, fun p hp => Go.newL r1 v1 hp g1⟩
  · exact g1.elim
theorem ie_lstS (h : IA X W es fs) : IE X W (.List es pos) (fun σ => bnd (fs σ) kLstS) := by
  refine ⟨pe_mono (pe_lst h.pa) fun σ H Q ⟨m, σd, s, hR, hS, hG⟩ => ?_⟩
  refine ⟨m, σd, s, hR, hS, (Go.bnd (rel := RVs X.K) hG).imp fun vs H1 ⟨m1, ds, s1, e1, r1, v1, g1⟩ => ?_⟩
  unfold kLstS at g1
  split at g1
  · rename_i hl
    exact ⟨by rw [v1.length]; exact lim_le hl, fun p hp => Go.newLS r1 v1 hp g1⟩
  · exact g1.elim
theorem ie_tup {x1} (h : IA X W es fs) : IE X W (.Tuple es x1 pos) (fun σ => bnd (fs σ) kTup) := by
  refine ⟨pe_mono (pe_tup h.pa) fun σ H Q ⟨m, σd, s, hR, hS, hG⟩ => ?_⟩
  refine ⟨m, σd, s, hR, hS, (Go.bnd (rel := RVs X.K) hG).imp fun vs H1 ⟨m1, ds, s1, e1, r1, v1, g1⟩ => ?_⟩
  unfold kTup at g1
  split at g1
  · rename_i hl
    exact ⟨by rw [v1.length]; exact lim_le hl, fun p hp => Go.newT r1 v1 hp g1⟩
  · exact g1.elim

/-! ### calls by values -/
def mC (k : List D → M D) (fs : EV → M (List D)) : EV → M D := fun σ => bnd (fs σ) fun xs => nox (k xs)
theorem callBy {k : List D → M D} (σ : SV) (H : Hp) (Q : VK) (hw : rE X W (mC k fs) σ H Q) : tCB (gn X k) (rA X W fs) σ H Q := by
  obtain ⟨m, σd, s, hR, hS, hG⟩ := hw
  refine ⟨m, σd, s, hR, hS, (Go.bnd (rel := RVs X.K) hG).imp fun x H1 ⟨m1, d, s1, e1, r1, v1, g1⟩ => ?_⟩
  exact ⟨m1, d, s1, r1, v1, g1.nox⟩
variable {x : Str} {id T : String} {pp : Pos}
theorem ie_callB {k : List D → M D} (hc : CallI X (.builtin id) k) (hg : Gl X x) (hm : X.mg x = none) (hv : bootBuiltins x = some (.builtin id)) (ha : IA X W (a :: es) fs) (hn : x ≠ "__name__" := by decide) (hdb : (x == ("__debug__" : Str)) = false := by decide)
    (he : starEach (a :: es) X.env = (false, eval a X.env) :: starEach es X.env := by rfl) (hpl : (backTo pos (starEach es X.env)).any (·.1) = false := by rfl) : IE X W (.Call (.Name x pp) (a :: es) [] pos) (mC k fs) :=
  ⟨pe_mono (pe_callB hc hg hm hv ha.pa hn hdb he hpl) callBy⟩
theorem ie_callTy {k : List D → M D} (hc : CallI X (.type T) k) (hg : Gl X x) (hm : X.mg x = none) (hv : bootBuiltins x = some (.type T)) (ha : IA X W (a :: es) fs) (hn : x ≠ "__name__" := by decide) (hdb : (x == ("__debug__" : Str)) = false := by decide)
    (he : starEach (a :: es) X.env = (false, eval a X.env) :: starEach es X.env := by rfl) (hpl : (backTo pos (starEach es X.env)).any (·.1) = false := by rfl) : IE X W (.Call (.Name x pp) (a :: es) [] pos) (mC k fs) :=
  ⟨pe_mono (pe_callTy hc hg hm hv ha.pa hn hdb he hpl) callBy⟩
/-! ### subscripts -/
def IxI (X : Cx) (o : D → D → M D) : Prop := IxR X (g2 X o)
theorem ie_ix {o : D → D → M D} (ho : IxI X o) (ha : IE X W a f) (hb : IE X W b g) (hs : PlainIx b := by intro _ _; rfl) : IE X W (.Subscript a b pos) (m2 o f g) := ⟨pe_mono (pe_ix ho ha.pe hb.pe hs) two⟩
/-! slices -/
def gs3 (X : Cx) (o : D → Option Int → Option Int → M D) : V → Option Int → Option Int → Hp → VK → Prop := fun v lo hi H Q => ∃ m x s, R X.K X.mg m s H ∧ RV X.K m (hid m H) x v ∧ Go W0 X.K X.mg [] (RV X.K) m H (o x lo hi s) Q
def SlI (X : Cx) (o : D → Option Int → Option Int → M D) : Prop := SlR X (gs3 X o)
abbrev relI : Rel (Option Int) (Option Int) := fun _ _ a b => b = a
structure IO (X : Cx) (W : WX) (e : Option Expr) (f : EV → M (Option Int)) : Prop where
  po : PO X e (fun σ H Q => ∃ m σd s, R X.K X.mg m s H ∧ RS X.K m (hid m H) σd σ ∧ Go W X.K X.mg σ relI m H (f σd s) Q)
def oNo : EV → M (Option Int) := fun _ s => .ok none s
def oSo (f : EV → M D) : EV → M (Option Int) := fun σ => bnd (f σ) fun x => match x with | .int i => ret (some i) | _ => bad
theorem io_none : IO X W none oNo := ⟨⟨fun pins s σ H Q I ⟨m, σd, s', hR, hS, hG⟩ => po_none.run pins s σ H Q I (Go.ok (a := none) hG hR rfl)⟩⟩
theorem io_some (h : IE X W a f) : IO X W (some a) (oSo f) := by
  refine ⟨⟨fun pins s σ H Q I ⟨m, σd, s', hR, hS, hG⟩ => (po_some h.pe).run pins s σ H Q I ?_⟩⟩
  refine ⟨m, σd, s', hR, hS, (Go.bnd (rel := RV X.K) hG).imp fun x H1 ⟨m1, d, s1, e1, r1, v1, g1⟩ => ?_⟩
  split at g1
  · cases v1; exact ⟨_, rfl, Go.ok (a := some _) g1 r1 rfl⟩
  · exact g1.elim
def mSl (o : D → Option Int → Option Int → M D) (f : EV → M D) (u v : EV → M (Option Int)) : EV → M D := fun σ => bnd (f σ) fun x => bnd (u σ) fun i => bnd (v σ) fun j => nox (o x i j)
theorem ie_slice {lo hi : Option Expr} {p2 : Pos} {o : D → Option Int → Option Int → M D} {u v : EV → M (Option Int)} (ho : SlI X o) (he : IE X W a f) (hl : IO X W lo u) (hh : IO X W hi v) : IE X W (.Subscript a (.Slice lo hi none p2) pos) (mSl o f u v) := by
  refine ⟨pe_mono (pe_slice ho he.pe hl.po hh.po) fun σ H Q ⟨m, σd, s, hR, hS, hG⟩ => ?_⟩
  refine ⟨m, σd, s, hR, hS, (Go.bnd (rel := RV X.K) hG).imp fun x H1 ⟨m1, d, s1, e1, r1, v1, g1⟩ => ?_⟩
  refine ⟨m1, σd, s1, r1, hS.mono e1.pre e1.same, (Go.bnd (rel := relI) g1).imp fun i H2 ⟨m2, i2, s2, e2, r2, v2, g2⟩ => ?_⟩
  cases (show i = i2 from v2)
  refine ⟨m2, σd, s2, r2, hS.mono (e1.pre.trans e2.pre) (e1.same.trans e2.same), (Go.bnd (rel := relI) g2).imp fun j H3 ⟨m3, j2, s3, e3, r3, v3, g3⟩ => ?_⟩
  cases (show j = j2 from v3)
  exact ⟨m3, d, s3, r3, v1.mono (e2.pre.trans e3.pre) (e2.same.trans e3.same), g3.nox⟩
/-! ### methods of built-in types -/
def gm (X : Cx) (T : String) (k : D → List D → M D) : V → List V → Hp → VK → Prop := fun v vs H Q => ∃ m x xs s, R X.K X.mg m s H ∧ RV X.K m (hid m H) x v ∧ RVs X.K m (hid m H) xs vs ∧ Go W0 X.K X.mg [] (RV X.K) m H (k x xs s) Q
def MtI (X : Cx) (id : String) (k : D → List D → M D) : Prop := MtR X id (gm X id k)
/-- what is of a built-in type -/
def isT (T : String) (x : D) (s : Sto) : Bool := match x with
  | .str _ => T == "str"
  | .int _ => T == "int"
  | .lst _ => T == "list"
  | .sls _ => T == "list"
  | .ref n => match s[n]? with | some (.lst _) => T == "list" | some (.dic _) => T == "dict" | _ => false
  | _ => false
theorem hid_sub (m : MM) (H : Hp) : Same (hid m H) H := fun _ _ q => (of_hid q).2
theorem isT_ty {T : String} {x : D} {v : V} {m : MM} {s : Sto} {H : Hp} (hR : R X.K X.mg m s H) (r : RV X.K m (hid m H) x v) (h : isT T x s = true) : tyV X.K T v H := by
  unfold isT at h
  split at h
  · cases r; exact eq_of_beq h
  · cases r; exact eq_of_beq h
  · cases r with | lst q _ => exact .inl ⟨eq_of_beq h, _, .inl (.inl (hid_sub _ _ _ _ q))⟩
  · cases r with | sls q _ => exact .inl ⟨eq_of_beq h, _, sql_mono (hid_sub _ _) q⟩
  · cases r with
    | @ref n a q =>
      split at h
      · rename_i xs e
        obtain ⟨vs, h1, _⟩ := hR.obj _ a _ q e
        exact .inl ⟨eq_of_beq h, _, .inl (.inl h1)⟩
      · rename_i kvs e
        obtain ⟨kws, h1, _⟩ := hR.obj _ a _ q e
        exact .inr (.inr (.inl ⟨eq_of_beq h, .inl ⟨_, h1⟩⟩))
      · cases h
  · cases h
def mM (T : String) (k : D → List D → M D) (f : EV → M D) (fs : EV → M (List D)) : EV → M D := fun σ => bnd (f σ) fun x s => if isT T x s = true then bnd (fs σ) (fun xs => nox (k x xs)) s else .bad
variable {name : Str} {apos cpos : Pos}
theorem ie_bm {k : D → List D → M D} (pa : PlainAttrs T) (slot : Slot T name id) (hty : typeOf (.builtin id) = pure (.type "method_descriptor")) (hm : MtI X id k) (ho : IE X W a f) (ha : IA X W (b :: es) fs)
    (hbase : attributeBase a name X.env (eval a X.env) = eval a X.env := by rfl)
    (hfew : ((backTo cpos (starEach (b :: es) X.env)).all (fun x => !x.1) && (backToKw cpos (keywordEach [] X.env)).all (fun x => x.1.isSome)
      && decide ((b :: es).length + ([] : List Keyword).length + (if ([] : List Keyword).isEmpty then 0 else 1) < 30)) = true := by rfl)
    (hline : (apos.endLine == cpos.line) = true := by rfl) (hs : starEach (b :: es) X.env = (false, eval b X.env) :: starEach es X.env := by rfl) (hplain : (backTo cpos (starEach es X.env)).any (·.1) = false := by rfl) :
    IE X W (.Call (.Attribute a name apos) (b :: es) [] cpos) (mM T k f fs) := by
  refine ⟨pe_mono (pe_bm pa slot hty hm ho.pe ha.pa hbase hfew hline hs hplain) fun σ H Q ⟨m, σd, s, hR, hS, hG⟩ => ?_⟩
  refine ⟨m, σd, s, hR, hS, (Go.bnd (rel := RV X.K) hG).imp fun x H1 ⟨m1, d, s1, e1, r1, v1, g1⟩ => ?_⟩
  split at g1
  · rename_i ht
    refine ⟨isT_ty r1 v1 ht, m1, σd, s1, r1, hS.mono e1.pre e1.same, (Go.bnd (rel := RVs X.K) g1).imp fun y H2 ⟨m2, d2, s2, e2, r2, v2, g2⟩ => ?_⟩
    exact ⟨m2, d, d2, s2, r2, v1.mono e2.pre e2.same, v2, g2.nox⟩
  · exact g1.elim
theorem ie_bm0 {k : D → List D → M D} (pa : PlainAttrs T) (slot : Slot T name id) (hty : typeOf (.builtin id) = pure (.type "method_descriptor")) (hm : MtI X id k) (ho : IE X W a f)
    (hbase : attributeBase a name X.env (eval a X.env) = eval a X.env := by rfl) (hline : (apos.endLine == cpos.line) = true := by rfl) : IE X W (.Call (.Attribute a name apos) [] [] cpos) (mM T k f aNil) := by
  refine ⟨pe_mono (pe_bm0 pa slot hty hm ho.pe hbase hline) fun σ H Q ⟨m, σd, s, hR, hS, hG⟩ => ?_⟩
  refine ⟨m, σd, s, hR, hS, (Go.bnd (rel := RV X.K) hG).imp fun x H1 ⟨m1, d, s1, e1, r1, v1, g1⟩ => ?_⟩
  split at g1
  · rename_i ht
    exact ⟨isT_ty r1 v1 ht, m1, d, [], s1, r1, v1, .nil, Go.nox g1⟩
  · exact g1.elim
end
end RQ

namespace RQ
open PySem PySem.Spec PyProof.Rows L2

/-! ### what is wanted behind a statement -/
def endOf (K : PySem.W.Frag) (E : Ends) (m : MM) (σ : SV) (H : Hp) : Fl → Prop
  | .nx => E.nx σ H
  | .bk => E.bk σ H
  | .ct => E.ct σ H
  | .rt d => ∀ v, RV K m (hid m H) d v → E.rt v H
def GoS (W : WX) (K : PySem.W.Frag) (mg : Str → Option Value) (m : MM) (H : Hp) (r : SRes) (E : Ends) : Prop :=
  match r with
  | .go fl σd s => ∀ σ m' H', Ext m H m' H' → R K mg m' s H' → RS K m' (hid m' H') σd σ → endOf K E m' σ H' fl
  | .exc c fs σd s => ∀ C d σ m' H', Ext m H m' H' → R K mg m' s H' → RS K m' (hid m' H') σd σ → mg c = some (.ref C) → RX K m' (hid m' H') fs d → W (.ref C) d σ H'
  | .bad => False
def lft {α : Type} (r : Res α) (σ : EV) (k : α → Sto → SRes) (_ : Tie k := Tie.mk) : SRes :=
  match r with
  | .ok a s => k a s
  | .exc c fs s => .exc c fs σ s
  | .bad => .bad
def rS (X : Cx) (W : WX) (F : SM) : TS := fun E σ H => ∃ m σd s, R X.K X.mg m s H ∧ RS X.K m (hid m H) σd σ ∧ GoS W X.K X.mg m H (F σd s) E
structure IS (X : Cx) (W : WX) (st : Stmt) (F : SM) : Prop where
  ps : PS X st (rS X W F)
structure ISs (X : Cx) (W : WX) (st : List Stmt) (F : SM) : Prop where
  ps : PSs X st (rS X W F)
section
variable {W : WX} {K : PySem.W.Frag} {mg : Str → Option Value} {m m1 : MM} {H H1 : Hp}
theorem GoS.ext {r : SRes} {E : Ends} (e : Ext m H m1 H1) (h : GoS W K mg m H r E) : GoS W K mg m1 H1 r E := by
  cases r with
  | go fl σd s => exact fun σ m' H' e' => h σ m' H' (e.trans e')
  | exc c fs σd s => exact fun C d σ m' H' e' => h C d σ m' H' (e.trans e')
  | bad => exact h
theorem GoS.lft {α β : Type} {rel : Rel α β} {r : Res α} {σd : EV} {σ : SV} {k : α → Sto → SRes} {E : Ends} (hS : RS K m (hid m H) σd σ) (h : GoS W K mg m H (lft r σd k) E) :
    Go W K mg σ rel m H r (fun b H1 => ∃ m1 a s1, Ext m H m1 H1 ∧ R K mg m1 s1 H1 ∧ rel m1 (hid m1 H1) a b ∧ GoS W K mg m1 H1 (k a s1) E) := by
  cases r with
  | ok a s => exact fun b m' H' e' r' v' => ⟨m', a, s, e', r', v', GoS.ext e' h⟩
  | exc c fs s => exact fun C d m' H' e' r' hc hx => h C d σ m' H' e' r' (hS.mono e'.pre e'.same) hc hx
  | bad => exact h
theorem GoS.at {fl : Fl} {σd : EV} {s : Sto} {σ : SV} {E : Ends} (h : GoS W K mg m H (.go fl σd s) E) (r : R K mg m s H) (hS : RS K m (hid m H) σd σ) : endOf K E m σ H fl := h σ m H (Ext.refl _ _) r hS
end
section
variable {X : Cx} {W : WX} {pos : Pos} {st : Stmt} {rest : List Stmt} {F G : SM} {e a b : Expr} {f g : EV → M D}
def sNx : SM := fun σ s => .go .nx σ s
def sSeq (F G : SM) : SM := fun σ s => match F σ s with
  | .go .nx σ' s' => G σ' s'
  | r => r
theorem iss_nil : ISs X W [] sNx := ⟨pss_mono pss_nil fun E σ H ⟨m, σd, s, hR, hS, hG⟩ => GoS.at (fl := .nx) hG hR hS⟩
theorem iss_one (h : IS X W st F) : ISs X W [st] F := ⟨pss_one h.ps⟩
theorem iss_cons (h : IS X W st F) (h2 : ISs X W rest G) : ISs X W (st :: rest) (sSeq F G) := by
  refine ⟨pss_mono (pss_cons h.ps h2.ps) fun E σ H ⟨m, σd, s, hR, hS, hG⟩ => ?_⟩
  refine ⟨m, σd, s, hR, hS, ?_⟩
  unfold sSeq at hG
  split at hG
  · rename_i σ' s' e
    rw [e]
    exact fun σ1 m1 H1 e1 r1 q1 => ⟨m1, σ', s', r1, q1, hG.ext e1⟩
  · rename_i r hr
    cases q : F σd s with
    | go fl σ1 s1 =>
      rw [q] at hG
      cases fl with
      | nx => exact absurd q (hr _ _)
      | rt d => exact hG
      | bk => exact hG
      | ct => exact hG
    | exc c fs σ1 s1 => rw [q] at hG; exact hG
    | bad => rw [q] at hG; exact hG
def sEx (f : EV → M D) : SM := fun σ s => lft (f σ s) σ fun _ s' => .go .nx σ s'
def sRt (f : EV → M D) : SM := fun σ s => lft (f σ s) σ fun d s' => .go (.rt d) σ s'
def sRtN : SM := fun σ s => .go (.rt .non) σ s
def sSet (i : Nat) (f : EV → M D) : SM := fun σ s => lft (f σ s) σ fun d s' => .go .nx (σ.set i (some d)) s'
def sIf (p : EV → M Bool) (F G : SM) : SM := fun σ s => lft (p σ s) σ fun k s' => if k = true then F σ s' else G σ s'
def sBk : SM := fun σ s => .go .bk σ s
def sCt : SM := fun σ s => .go .ct σ s
theorem is_pass : IS X W (.Pass pos) sNx := ⟨ps_mono ps_pass fun E σ H ⟨m, σd, s, hR, hS, hG⟩ => GoS.at (fl := .nx) hG hR hS⟩
theorem is_break : IS X W (.Break pos) sBk := ⟨ps_mono ps_break fun E σ H ⟨m, σd, s, hR, hS, hG⟩ => GoS.at (fl := .bk) hG hR hS⟩
theorem is_continue : IS X W (.Continue pos) sCt := ⟨ps_mono ps_continue fun E σ H ⟨m, σd, s, hR, hS, hG⟩ => GoS.at (fl := .ct) hG hR hS⟩
theorem is_expr (he : IE X W e f) (hs : swapsWith e none pos.line X.env = pure false := by rfl) : IS X W (.Expr e pos) (sEx f) := by
  refine ⟨ps_mono (ps_expr he.pe hs) fun E σ H ⟨m, σd, s, hR, hS, hG⟩ => ?_⟩
  refine ⟨m, σd, s, hR, hS, (GoS.lft (rel := RV X.K) hS hG).imp fun x H1 ⟨m1, d, s1, e1, r1, v1, g1⟩ => ?_⟩
  exact GoS.at (fl := .nx) g1 r1 (hS.mono e1.pre e1.same)
theorem is_ret (he : IE X W e f) : IS X W (.Return (some e) pos) (sRt f) := by
  refine ⟨ps_mono (ps_ret he.pe) fun E σ H ⟨m, σd, s, hR, hS, hG⟩ => ?_⟩
  refine ⟨m, σd, s, hR, hS, (GoS.lft (rel := RV X.K) hS hG).imp fun x H1 ⟨m1, d, s1, e1, r1, v1, g1⟩ => ?_⟩
  exact GoS.at (fl := .rt d) g1 r1 (hS.mono e1.pre e1.same) x v1
theorem is_retN : IS X W (.Return none pos) sRtN := ⟨ps_mono ps_retN fun E σ H ⟨m, σd, s, hR, hS, hG⟩ => GoS.at (fl := .rt .non) hG hR hS .non .non⟩
theorem is_set {i : Nat} {x : Str} {pos' : Pos} (hN : X.N.Nodup) (hi : X.N[i]? = some x) (hx : Loc X.env.scope x) (he : IE X W e f) (hs : swapsWith e (some (.Name x pos')) pos.line X.env = pure false := by rfl) (hf : X.fn x = true ∨ X.env.scope.names.lookup x = some .local := by first | exact .inl rfl | exact .inr rfl) :
    IS X W (.Assign [.Name x pos'] e pos) (sSet i f) := by
  refine ⟨ps_mono (ps_set hN hi hx he.pe hs hf) fun E σ H ⟨m, σd, s, hR, hS, hG⟩ => ?_⟩
  refine ⟨m, σd, s, hR, hS, (GoS.lft (rel := RV X.K) hS hG).imp fun x H1 ⟨m1, d, s1, e1, r1, v1, g1⟩ => ?_⟩
  exact GoS.at (fl := .nx) g1 r1 ((hS.mono e1.pre e1.same).put v1)
theorem is_if {c : Expr} {A B : List Stmt} {p : EV → M Bool} (hc : IT X W c p) (ha : ISs X W A F) (hb : ISs X W B G) : IS X W (.If c A B pos) (sIf p F G) := by
  refine ⟨ps_mono (ps_if hc.pt ha.ps hb.ps) fun E σ H ⟨m, σd, s, hR, hS, hG⟩ => ?_⟩
  refine ⟨m, σd, s, hR, hS, (GoS.lft (rel := relB) hS hG).imp fun k H1 ⟨m1, d, s1, e1, r1, v1, g1⟩ => ?_⟩
  cases (show k = d from v1)
  cases k with
  | true => exact ⟨m1, σd, s1, r1, hS.mono e1.pre e1.same, g1⟩
  | false => exact ⟨m1, σd, s1, r1, hS.mono e1.pre e1.same, g1⟩
/-- a, b = x, y -/
def sPar (i j : Nat) (f g : EV → M D) : SM := fun σ s => lft (bnd (f σ) (fun x => bnd (g σ) fun y => ret (x, y)) s) σ fun d s' => .go .nx ((σ.set i (some d.1)).set j (some d.2)) s'
theorem is_par {i j : Nat} {x y : Str} {px py pt : Pos} {kt k2 pt2} (hc : X.calm = true) (hN : X.N.Nodup) (hi : X.N[i]? = some x) (hj : X.N[j]? = some y) (hij : i ≠ j)
    (hx : X.env.scope.names.lookup x = some .local) (hy : X.env.scope.names.lookup y = some .local) (ha : IE X W a f) (hb : IE X W b g)
    (hw : swappedStores [.Tuple [.Name x px, .Name y py] kt pt] (.Tuple [a, b] k2 pt2) X.env = pure (some [x, y]) := by rfl)
    (hs : swapsWithSole [.Tuple [.Name x px, .Name y py] kt pt] (.Tuple [a, b] k2 pt2) pos.line X.env = pure false := by rfl)
    (h1 : starEach (a :: [b]) X.env = (false, eval a X.env) :: starEach [b] X.env := by rfl) (h2 : starEach (b :: []) X.env = (false, eval b X.env) :: starEach [] X.env := by rfl) :
    IS X W (.Assign [.Tuple [.Name x px, .Name y py] kt pt] (.Tuple [a, b] k2 pt2) pos) (sPar i j f g) := by
  refine ⟨ps_mono (ps_par hc hN hi hj hij hx hy (pa_cons ha.pe (pa_cons hb.pe pa_nil h2) h1) hw hs) fun E σ H ⟨m, σd, s, hR, hS, hG⟩ => ?_⟩
  have hG2 := Go.bnd (rel := RV X.K) (GoS.lft (rel := fun m G (d : D × D) (v : V × V) => RV X.K m G d.1 v.1 ∧ RV X.K m G d.2 v.2) hS hG)
  refine ⟨m, σd, s, hR, hS, hG2.imp fun v H1 ⟨m1, d, s1, e1, r1, v1, g1⟩ => ?_⟩
  refine ⟨m1, σd, s1, r1, hS.mono e1.pre e1.same, (Go.bnd (rel := RV X.K) g1).imp fun u H2 ⟨m2, d2, s2, e2, r2, v2, g2⟩ => ?_⟩
  obtain ⟨m3, dd, s3, e3, r3, ⟨w1, w2⟩, g3⟩ := Go.ok (a := (d, d2)) (b := (v, u)) g2 r2 ⟨v1.mono e2.pre e2.same, v2⟩
  have h := GoS.at (fl := .nx) g3 r3 (((hS.mono e3.pre e3.same).put w1).put w2)
  exact ⟨v, u, rfl, h⟩
end

/-! ### targets -/
def wipeD (σ : EV) : List Nat → EV
  | [] => σ
  | v :: vs => (wipeD σ vs).set v none
theorem wipe_get {α : Type} {σ : List (Option α)} {v i : Nat} {x : α} (h : (σ.set v none)[i]? = some (some x)) : i ≠ v ∧ σ[i]? = some (some x) := by
  by_cases hi : v = i
  · subst hi
    by_cases hv : v < σ.length
    · rw [List.getElem?_set_self hv] at h; cases h
    · rw [List.getElem?_eq_none (by simpa using hv)] at h; cases h
  · rw [List.getElem?_set_ne hi] at h; exact ⟨fun z => hi z.symm, h⟩
theorem RS.wipe {K : PySem.W.Frag} {m : MM} {G : Hp} {σd : EV} {σ : SV} (h : RS K m G σd σ) : ∀ vs : List Nat, RS K m G (wipeD σd vs) (L2.wipe σ vs)
  | [] => h
  | v :: vs => by
    have ih := RS.wipe h vs
    refine ⟨by show ((L2.wipe σ vs).set v none).length = ((wipeD σd vs).set v none).length; simp [ih.len], fun i d e => ?_⟩
    obtain ⟨h1, h2⟩ := wipe_get (show ((wipeD σd vs).set v none)[i]? = _ from e)
    obtain ⟨x, h3, h4⟩ := ih.get i d h2
    refine ⟨x, ?_, h4⟩
    show ((L2.wipe σ vs).set v none)[i]? = _
    rw [List.getElem?_set_ne (Ne.symm h1)]; exact h3
theorem wipe_set {σ : SV} {i : Nat} {x : Option V} : ∀ {vs : List Nat}, i ∈ vs → L2.wipe (σ.set i x) vs = L2.wipe σ vs
  | v :: vs, h => by
    show (L2.wipe (σ.set i x) vs).set v none = (L2.wipe σ vs).set v none
    by_cases hv : i ∈ vs
    · rw [wipe_set hv]
    · have e : i = v := by
        rcases List.mem_cons.mp h with z | z
        · exact z
        · exact absurd z hv
      subst e
      have : ∀ (ws : List Nat), i ∉ ws → L2.wipe (σ.set i x) ws = (L2.wipe σ ws).set i x := by
        intro ws
        induction ws with
        | nil => intro _; rfl
        | cons w ws ih =>
          intro hw
          have h1 : i ≠ w := fun z => hw (by simp [z])
          have h2 : i ∉ ws := fun z => hw (by simp [z])
          show (L2.wipe (σ.set i x) ws).set w none = ((L2.wipe σ ws).set w none).set i x
          rw [ih h2, List.set_comm _ _ h1]
      rw [this vs hv, List.set_set]
theorem wipe_wipe (σ : SV) : ∀ (vs us : List Nat), (∀ v ∈ us, v ∈ vs) → L2.wipe (L2.wipe σ us) vs = L2.wipe σ vs
  | vs, [], _ => rfl
  | vs, u :: us, h => by
    show L2.wipe ((L2.wipe σ us).set u none) vs = _
    rw [wipe_set (h u (by simp)), wipe_wipe σ vs us fun v hv => h v (by simp [hv])]
abbrev TF := D → EV → Option EV
abbrev TFs := List D → EV → Option EV
def rG (X : Cx) (vs : List Nat) (g : TF) : TG := fun v σ H Q => ∃ m d σd s σd', R X.K X.mg m s H ∧ RV X.K m (hid m H) d v ∧ RS X.K m (hid m H) σd σ ∧ g d σd = some σd' ∧
  ∀ σ', RS X.K m (hid m H) σd' σ' → L2.wipe σ' vs = L2.wipe σ vs → Q σ' H
def rGs (X : Cx) (vs : List Nat) (g : TFs) : TGs := fun us σ H Q => ∃ m ds σd s σd', R X.K X.mg m s H ∧ RVs X.K m (hid m H) ds us ∧ RS X.K m (hid m H) σd σ ∧ g ds σd = some σd' ∧
  ∀ σ', RS X.K m (hid m H) σd' σ' → L2.wipe σ' vs = L2.wipe σ vs → Q σ' H
structure IG (X : Cx) (vs : List Nat) (tg : Expr) (g : TF) : Prop where
  pg : PG X tg (rG X vs g)
structure IGs (X : Cx) (vs : List Nat) (tgs : List Expr) (n : Nat) (g : TFs) : Prop where
  pg : PGs X tgs (rGs X vs g)
  len : ∀ ds σ σ', g ds σ = some σ' → ds.length = n
theorem pg_mono {X : Cx} {tg : Expr} {t t' : TG} (h : PG X tg t) (i : ∀ v σ H Q, t' v σ H Q → t v σ H Q) : PG X tg t' := ⟨fun pins s σ H v u Q I r q => h.run pins s σ H v u Q I r (i v σ H Q q)⟩
theorem pgs_mono {X : Cx} {tg : List Expr} {t t' : TGs} (h : PGs X tg t) (i : ∀ v σ H Q, t' v σ H Q → t v σ H Q) : PGs X tg t' := ⟨fun pins s σ H v u Q I r q => h.run pins s σ H v u Q I r (i v σ H Q q)⟩
section
variable {X : Cx} {pos : Pos} {vs : List Nat}
def tNm (i : Nat) : TF := fun d σ => some (σ.set i (some d))
def tNil : TFs := fun ds σ => match ds with | [] => some σ | _ => none
def tCns (g : TF) (gs : TFs) : TFs := fun ds σ => match ds with | d :: r => (match g d σ with | some σ' => gs r σ' | none => none) | [] => none
def tTup (gs : TFs) : TF := fun d σ => match d with | .tup ds => gs ds σ | _ => none
theorem ig_name {i : Nat} {x : Str} (hN : X.N.Nodup) (hi : X.N[i]? = some x) (hx : Loc X.env.scope x) (hv : i ∈ vs := by decide) (hf : X.fn x = true ∨ X.env.scope.names.lookup x = some .local := by first | exact .inl rfl | exact .inr rfl) : IG X vs (.Name x pos) (tNm i) := by
  refine ⟨pg_mono (pg_name hN hi hx hf) fun v σ H Q ⟨m, d, σd, s, σd', hR, hv', hS, hg, hQ⟩ => ?_⟩
  cases hg
  exact hQ _ (hS.put hv') (wipe_set hv)
theorem igs_nil : IGs X vs [] 0 tNil := by
  refine ⟨pgs_mono pgs_nil fun us σ H Q ⟨m, ds, σd, s, σd', hR, hv, hS, hg, hQ⟩ => ?_, fun ds σ σ' h => ?_⟩
  · cases hv with
    | nil => cases hg; exact ⟨rfl, hQ _ hS rfl⟩
    | cons _ _ => cases hg
  · cases ds with
    | nil => rfl
    | cons _ _ => cases h
theorem igs_cons {e : Expr} {es : List Expr} {n : Nat} {g : TF} {gs : TFs} (h1 : IG X vs e g) (h2 : IGs X vs es n gs)
    (hs : (assignEach (e :: es) X.env).map (·.2) = assign e X.env :: (assignEach es X.env).map (·.2) := by rfl) : IGs X vs (e :: es) (n + 1) (tCns g gs) := by
  refine ⟨pgs_mono (pgs_cons h1.pg h2.pg hs) fun us σ H Q ⟨m, ds, σd, s, σd', hR, hv, hS, hg, hQ⟩ => ?_, fun ds σ σ' h => ?_⟩
  · cases hv with
    | nil => cases hg
    | @cons d v dr vr q qr =>
      unfold tCns at hg
      simp only at hg
      split at hg
      · rename_i σ1 e1
        exact ⟨v, vr, rfl, m, d, σd, s, σ1, hR, q, hS, e1, fun σ2 hS2 w2 => ⟨m, dr, σ1, s, σd', hR, qr, hS2, hg, fun σ3 hS3 w3 => hQ σ3 hS3 (w3.trans w2)⟩⟩
      · cases hg
  · unfold tCns at h
    split at h
    · split at h
      · rename_i d r σ1 e1
        rw [List.length_cons, h2.len _ _ _ h]
      · cases h
    · cases h
theorem ig_tup {es : List Expr} {k n : Nat} {gs : TFs} (hc : X.calm = true) (h : IGs X vs es n gs) (hn : (assignEach es X.env).length = n := by rfl) (hst : (assignEach es X.env).findIdx? (·.1) = none := by rfl) : IG X vs (.Tuple es k pos) (tTup gs) := by
  refine ⟨pg_mono (pg_tup hc h.pg hn hst) fun v σ H Q ⟨m, d, σd, s, σd', hR, hv, hS, hg, hQ⟩ => ?_⟩
  unfold tTup at hg
  split at hg
  · cases hv with
    | tup q qs => exact ⟨_, _, rfl, sqt_mono (hid_sub _ _) q, by rw [qs.length]; exact h.len _ _ _ hg, m, _, σd, s, σd', hR, qs, hS, hg, hQ⟩
  · cases hg
def sAsg (g : TF) (f : EV → M D) : SM := fun σ s => lft (f σ s) σ fun d s' => match g d σ with | some σ' => .go .nx σ' s' | none => .bad
theorem is_asg {W : WX} {tg e : Expr} {g : TF} {f : EV → M D} (he : IE X W e f) (hg : IG X vs tg g) (hs : swapsWithSole [tg] e pos.line X.env = pure false := by rfl) (hw : swappedStores [tg] e X.env = pure none := by rfl)
    (h1 : (assignEach [tg] X.env).map (·.2) = [assign tg X.env] := by rfl) : IS X W (.Assign [tg] e pos) (sAsg g f) := by
  refine ⟨ps_mono (ps_asg he.pe hg.pg hs hw h1) fun E σ H ⟨m, σd, s, hR, hS, hG⟩ => ?_⟩
  refine ⟨m, σd, s, hR, hS, (GoS.lft (rel := RV X.K) hS hG).imp fun x H1 ⟨m1, d, s1, e1, r1, v1, g1⟩ => ?_⟩
  split at g1
  · rename_i σ' eg
    exact ⟨m1, d, σd, s1, σ', r1, v1, hS.mono e1.pre e1.same, eg, fun σ2 hS2 _ => GoS.at (fl := .nx) g1 r1 hS2⟩
  · exact g1.elim
end
end RQ

namespace RQ
open PySem PySem.Spec PyProof.Rows L2

/-! ### what is walked -/
structure Src where
  item : Sto → Nat → Option (Option D)
  n : Nat
def fix (ds : List D) : Src := ⟨fun _ i => some ds[i]?, ds.length⟩
def Wk (K : PySem.W.Frag) (mg : Str → Option Value) : Rel Src It := fun m G J I => ∀ (m' : MM) (s' : Sto) (H' : Hp), m.ix <+: m'.ix → Same G (hid m' H') → R K mg m' s' H' → ∀ i,
  match J.item s' i with
  | some (some d) => I.go i H' ∧ ∀ x H2, I.yld i H' x H2 → ∃ m2, Ext m' H' m2 H2 ∧ R K mg m2 s' H2 ∧ RV K m2 (hid m2 H2) d x
  | some none => I.stop i H'
  | none => True
def rI (X : Cx) (W : WX) (f : EV → M Src) : TI := fun σ H Rk => ∃ m σd s, R X.K X.mg m s H ∧ RS X.K m (hid m H) σd σ ∧ Go W X.K X.mg σ (Wk X.K X.mg) m H (f σd s) Rk
structure II (X : Cx) (W : WX) (tg iter : Expr) (f : EV → M Src) : Prop where
  pi : PI X tg iter (rI X W f)
theorem pi_mono {X : Cx} {tg it : Expr} {t t' : TI} (h : PI X tg it t) (i : ∀ σ H Q, t' σ H Q → t σ H Q) : PI X tg it t' := ⟨fun pins s σ H Q I q => h.run pins s σ H Q I (i σ H Q q)⟩
theorem Wk.fixed {K : PySem.W.Frag} {mg : Str → Option Value} {m : MM} {G : Hp} {ds : List D} {I : It}
    (hs : ∀ (m' : MM) (s' : Sto) (H' : Hp), m.ix <+: m'.ix → Same G (hid m' H') → R K mg m' s' H' → ∀ i, (∀ d, ds[i]? = some d → I.go i H' ∧ ∀ x H2, I.yld i H' x H2 → ∃ m2, Ext m' H' m2 H2 ∧ R K mg m2 s' H2 ∧ RV K m2 (hid m2 H2) d x) ∧ (ds.length ≤ i → I.stop i H')) :
    Wk K mg m G (fix ds) I := fun m' s' H' hp sm r i => by
  obtain ⟨h1, h2⟩ := hs m' s' H' hp sm r i
  show match some ds[i]? with | some (some d) => _ | some none => _ | none => _
  cases e : ds[i]? with
  | none => exact h2 (List.getElem?_eq_none_iff.mp e)
  | some d => exact h1 d e

/-! ### for -/
def forS (J : Src) (body : D → SM) : Nat → Nat → SM
  | 0, _ => fun _ _ => .bad
  | n + 1, i => fun σ s => match J.item s i with
    | none => .bad
    | some none => .go .nx σ s
    | some (some d) => match body d σ s with
      | .go .nx σ' s' => forS J body n (i + 1) σ' s'
      | .go .ct σ' s' => forS J body n (i + 1) σ' s'
      | .go .bk σ' s' => .go .nx σ' s'
      | r => r
def bdy (g : TF) (F : SM) : D → SM := fun d σ s => match g d σ with | some σ' => F σ' s | none => .bad
def sFor (f : EV → M Src) (g : TF) (F : SM) : SM := fun σ s => lft (f σ s) σ fun J s' => forS J (bdy g F) (J.n + 1) 0 σ s'
section
variable {X : Cx} {W : WX} {pos : Pos} {tg iter : Expr} {body : List Stmt} {f : EV → M Src} {g : TF} {F : SM} {vs : List Nat}
theorem is_for (hp : PassesOwn (model X.prog X.w) X.A X.env X.xe) (hc : X.calm = true) (hi : II X W tg iter f) (hg : IG X vs tg g) (hb : ISs X W body F)
    (hs : ∀ x, foldedSetIterable iter X.env x = pure x := by intro _; rfl) : IS X W (.For tg iter body [] pos) (sFor f g F) := by
  refine ⟨ps_mono (ps_for hp hc hi.pi hg.pg hb.ps hs) fun E σ H ⟨m, σd, s, hR, hS, hG⟩ => ?_⟩
  refine ⟨m, σd, s, hR, hS, (GoS.lft (rel := Wk X.K X.mg) hS hG).imp fun I H1 ⟨m1, J, s1, e1, r1, v1, g1⟩ => ?_⟩
  refine ⟨fun i k σ' H' => ∃ m' σd' s', Ext m1 H1 m' H' ∧ R X.K X.mg m' s' H' ∧ RS X.K m' (hid m' H') σd' σ' ∧ GoS W X.K X.mg m' H' (forS J (bdy g F) k i σd' s') E, ⟨J.n + 1, m1, σd, s1, Ext.refl _ _, r1, hS.mono e1.pre e1.same, g1⟩, fun i k σ' H' hW => ?_⟩
  obtain ⟨m', σd', s', e', r', q', g'⟩ := hW
  cases k with
  | zero => exact g'.elim
  | succ k =>
    have hw := v1 m' s' H' e'.pre e'.same r' i
    unfold forS at g'
    cases hj : J.item s' i with
    | none => rw [hj] at g'; exact g'.elim
    | some o =>
      cases o with
      | none =>
        rw [hj] at g' hw
        exact .inl ⟨hw, GoS.at (fl := .nx) g' r' q'⟩
      | some d =>
        rw [hj] at g' hw
        obtain ⟨hgo, hy⟩ := hw
        refine .inr ⟨hgo, fun σ2 H2 => ∃ m' σd' s', Ext m1 H1 m' H2 ∧ R X.K X.mg m' s' H2 ∧ RS X.K m' (hid m' H2) σd' σ2 ∧ GoS W X.K X.mg m' H2 (forS J (bdy g F) k (i + 1) σd' s') E, fun σ2 H2 z => ⟨k, Nat.lt_succ_self k, z⟩, fun x H2 hx => ?_⟩
        obtain ⟨m2, e2, r2, v2⟩ := hy x H2 hx
        have q2 := q'.mono e2.pre e2.same
        have g2 := g'.ext e2
        unfold bdy at g2
        simp only at g2
        cases hgd : g d σd' with
        | none => rw [hgd] at g2; exact g2.elim
        | some σ3 =>
          rw [hgd] at g2
          simp only at g2
          refine ⟨m2, d, σd', s', σ3, r2, v2, q2, hgd, fun σ4 q4 _ => ⟨m2, σ3, s', r2, q4, ?_⟩⟩
          cases hF : F σ3 s' with
          | go fl σ5 s5 =>
            rw [hF] at g2
            cases fl with
            | nx => exact fun σ6 m6 H6 e6 r6 q6 => ⟨m6, σ5, s5, e'.trans (e2.trans e6), r6, q6, GoS.ext e6 g2⟩
            | ct => exact fun σ6 m6 H6 e6 r6 q6 => ⟨m6, σ5, s5, e'.trans (e2.trans e6), r6, q6, GoS.ext e6 g2⟩
            | bk => exact g2
            | rt dd => exact g2
          | exc c fs σ5 s5 => rw [hF] at g2; exact g2
          | bad => rw [hF] at g2; exact g2
/-! ### while -/
def whlS (p : EV → M Bool) (F : SM) : Nat → SM
  | 0 => fun _ _ => .bad
  | n + 1 => fun σ s => lft (p σ s) σ fun k s1 => if k = true then
      (match F σ s1 with
      | .go .nx σ' s' => whlS p F n σ' s'
      | .go .ct σ' s' => whlS p F n σ' s'
      | .go .bk σ' s' => .go .nx σ' s'
      | r => r)
    else .go .nx σ s1
theorem is_while {c : Expr} {p : EV → M Bool} (n : Nat) (hp : PassesOwn (model X.prog X.w) X.A X.env X.xe) (hc : IT X W c p) (hb : ISs X W body F) : IS X W (.While c body [] pos) (whlS p F n) := by
  refine ⟨ps_mono (ps_while hp hc.pt hb.ps) fun E σ H ⟨m, σd, s, hR, hS, hG⟩ => ?_⟩
  refine ⟨fun k σ' H' => ∃ m' σd' s', R X.K X.mg m' s' H' ∧ RS X.K m' (hid m' H') σd' σ' ∧ GoS W X.K X.mg m' H' (whlS p F k σd' s') E, ⟨n, m, σd, s, hR, hS, hG⟩, fun k σ' H' hW => ?_⟩
  obtain ⟨m', σd', s', r', q', g'⟩ := hW
  cases k with
  | zero => exact g'.elim
  | succ k =>
    unfold whlS at g'
    refine ⟨m', σd', s', r', q', (GoS.lft (rel := relB) q' g').imp fun b H1 ⟨m1, d, s1, e1, r1, v1, g1⟩ => ?_⟩
    cases (show b = d from v1)
    have q1 := q'.mono e1.pre e1.same
    cases b with
    | false => exact GoS.at (fl := .nx) g1 r1 q1
    | true =>
      refine ⟨fun σ2 H2 => ∃ m' σd' s', R X.K X.mg m' s' H2 ∧ RS X.K m' (hid m' H2) σd' σ2 ∧ GoS W X.K X.mg m' H2 (whlS p F k σd' s') E, fun σ2 H2 z => ⟨k, Nat.lt_succ_self k, z⟩, m1, σd', s1, r1, q1, ?_⟩
      rw [if_pos rfl] at g1
      cases hF : F σd' s1 with
      | go fl σ5 s5 =>
        rw [hF] at g1
        cases fl with
        | nx => exact fun σ6 m6 H6 e6 r6 q6 => ⟨m6, σ5, s5, r6, q6, GoS.ext e6 g1⟩
        | ct => exact fun σ6 m6 H6 e6 r6 q6 => ⟨m6, σ5, s5, r6, q6, GoS.ext e6 g1⟩
        | bk => exact g1
        | rt dd => exact g1
      | exc c fs σ5 s5 => rw [hF] at g1; exact g1
      | bad => rw [hF] at g1; exact g1
end

/-! ### comprehensions -/
def cmp (J : Src) (g : TF) (t : EV → M Bool) (e : EV → M D) (σ : EV) : Nat → Nat → List D → M (List D)
  | 0, _, _ => fun _ => .bad
  | n + 1, i, acc => fun s => match J.item s i with
    | none => .bad
    | some none => .ok acc s
    | some (some d) => match g d σ with
      | none => .bad
      | some σ2 => match t σ2 s with
        | .ok false s1 => cmp J g t e σ n (i + 1) acc s1
        | .ok true s1 => (match e σ2 s1 with
          | .ok y s2 => if acc.length < lim then cmp J g t e σ n (i + 1) (acc ++ [y]) s2 else .bad
          | _ => .bad)
        | _ => .bad
def mLc (own : List Nat) (f : EV → M Src) (g : TF) (t : EV → M Bool) (e : EV → M D) (k : List D → M D) : EV → M D := fun σ => bnd (f σ) fun J => bnd (nox (cmp J g t e (wipeD σ own) (J.n + 1) 0 [])) k
def kF (xs : List D) : M D := ret (.lst xs)
def kS (xs : List D) : M D := kNew (.lst xs)
section
variable {K : PySem.W.Frag} {mg : Str → Option Value} {m : MM} {s : Sto} {H : Hp}
theorem R.exput (r : R K mg m s H) {p : Addr} {ho : HO} (hp : p ∈ m.ex) : R K mg m s (upd H p ho) ∧ Same (hid m H) (hid m (upd H p ho)) := by
  have sm : Same (hid m H) (hid m (upd H p ho)) := fun b u q => by
    obtain ⟨q1, q2⟩ := of_hid q
    have nb : b ≠ p := fun z => q1 (.inr (by rw [z]; exact hp))
    rw [hid_out q1, upd_ne nb]; exact q2
  have px : m.ix <+: m.ix := List.prefix_rfl
  refine ⟨⟨r.len, r.nd, fun n a ob h1 h2 => ?_, fun a ha => ?_, r.ns⟩, sm⟩
  · have ha : a ≠ p := fun z => (r.ext p hp).2 (z ▸ List.mem_of_getElem? h1)
    have q := r.obj n a ob h1 h2
    cases ob with
    | lst ds => obtain ⟨vs, z, y⟩ := q; exact ⟨vs, (upd_ne ha).trans z, y.mono px sm⟩
    | dic kvs => obtain ⟨vs, z, y, x⟩ := q; exact ⟨vs, (upd_ne ha).trans z, y, x.mono px sm⟩
    | ins c fs => obtain ⟨C, dx, gs, z, y, x, u⟩ := q; exact ⟨C, dx, gs, z, (upd_ne ha).trans y, x, u.mono px sm⟩
  · by_cases z : a = p
    · subst z; exact ⟨⟨_, upd_same⟩, (r.ext a ha).2⟩
    · rw [upd_ne z]; exact r.ext a ha
/-- what was covered is seen -/
theorem R.uncover {ix ex : List Addr} {p : Addr} {o : HO} (r : R K mg ⟨ix, p :: ex⟩ s H) (hp : H p = some o) (hn : p ∉ ex) :
    R K mg ⟨ix, ex⟩ s H ∧ Same (hid ⟨ix, p :: ex⟩ H) (hid ⟨ix, ex⟩ H) ∧ hid ⟨ix, ex⟩ H p = some o := by
  have sm : Same (hid ⟨ix, p :: ex⟩ H) (hid ⟨ix, ex⟩ H) := fun b u q => by
    obtain ⟨q1, q2⟩ := of_hid q
    rw [hid_out (m := ⟨ix, ex⟩) (fun z => q1 (z.elim .inl fun y => .inr (List.mem_cons_of_mem _ y)))]; exact q2
  have px : (⟨ix, p :: ex⟩ : MM).ix <+: (⟨ix, ex⟩ : MM).ix := List.prefix_rfl
  refine ⟨⟨r.len, r.nd, fun n a ob h1 h2 => ?_, fun a ha => r.ext a (List.mem_cons_of_mem _ ha), r.ns⟩, sm, ?_⟩
  · have q := r.obj n a ob h1 h2
    cases ob with
    | lst ds => obtain ⟨vs, z, y⟩ := q; exact ⟨vs, z, y.mono px sm⟩
    | dic kvs => obtain ⟨vs, z, y, x⟩ := q; exact ⟨vs, z, y, x.mono px sm⟩
    | ins c fs => obtain ⟨C, dx, gs, z, y, x, u⟩ := q; exact ⟨C, dx, gs, z, y, x, u.mono px sm⟩
  · have h1 := (r.ext p (List.mem_cons_self)).2
    rw [hid_out (m := ⟨ix, ex⟩) (fun z => z.elim h1 hn)]; exact hp
/-- a thing of one's own becomes a thing of the store -/
theorem R.adopt {p : Addr} {o : O} (r : R K mg m s H) (hp : ¬ m.has p) (ho : ∃ u, H p = some u) (hn : ∀ G', (∀ b u, b ≠ p → hid m H b = some u → G' b = some u) → G' = hid (m.more p) H → RO K mg (m.more p) H p o)
    (hfree : ∀ (n : Nat) (a : Addr) (ob : O), m.ix[n]? = some a → s[n]? = some ob → RO K mg (m.more p) H a ob) : R K mg (m.more p) (s ++ [o]) H := by
  refine ⟨by show (m.ix ++ [p]).length = _; simp [r.len], ?_, fun n a ob h1 h2 => ?_, fun a ha => ⟨(r.ext a ha).1, fun z => ?_⟩, r.ns⟩
  · exact List.nodup_append.mpr ⟨r.nd, by simp, fun a ha b hb => by
      have : b = p := by simpa using hb
      subst this
      exact fun z => hp (.inl (z ▸ ha))⟩
  · have h1 : (m.ix ++ [p])[n]? = some a := h1
    by_cases hl : n < m.ix.length
    · rw [List.getElem?_append_left hl] at h1
      rw [List.getElem?_append_left (by rw [← r.len]; exact hl)] at h2
      exact hfree n a ob h1 h2
    · have hn' : n = m.ix.length := by
        have := (List.getElem?_eq_some_iff.mp h1).1
        simp at this; omega
      subst hn'
      simp at h1
      rw [r.len] at h2
      simp at h2
      subst h1 h2
      refine hn _ (fun b u nb q => ?_) rfl
      obtain ⟨q1, q2⟩ := of_hid q
      rw [hid_out (m := m.more p) (fun z => z.elim (fun z => (List.mem_append.mp z).elim (fun y => q1 (.inl y)) fun y => nb (by simpa using y)) fun z => q1 (.inr z))]; exact q2
  · rcases List.mem_append.mp (show a ∈ m.ix ++ [p] from z) with z | z
    · exact (r.ext a ha).2 z
    · exact hp (.inr (by have : a = p := by simpa using z
                         rw [← this]; exact ha))
end
/-- how the list that was made is handed on -/
def LcK (K : PySem.W.Frag) (mg : Str → Option Value) (k : List D → M D) : Prop :=
  ∀ (W : WX) (σ : SV) (Q : VK) (m1 : MM) (H1 H : Hp) (ix : List Addr) (p : Addr) (ds : List D) (vs : List V) (s : Sto), H1 p = none → R K mg m1 [] H1 ∨ True → m1.ix <+: ix → Same (hid m1 H1) (hid ⟨ix, p :: m1.ex⟩ H) →
    (∀ a ∈ m1.ex, H a = H1 a) → p ∉ m1.ex → R K mg ⟨ix, p :: m1.ex⟩ s H → H p = some (.lst vs) → RVs K ⟨ix, p :: m1.ex⟩ (hid ⟨ix, p :: m1.ex⟩ H) ds vs → Go W K mg σ (RV K) m1 H1 (k ds s) Q → Q (.ref p) H
theorem lck_F {K : PySem.W.Frag} {mg : Str → Option Value} : LcK K mg kF := by
  intro W σ Q m1 H1 H ix p ds vs s hp _ pre sm kx hx r hv rv hG
  obtain ⟨r2, sm2, h2⟩ := r.uncover hv hx
  have e : Ext m1 H1 ⟨ix, m1.ex⟩ H := ⟨pre, sm.trans sm2, rfl, kx⟩
  have px : (⟨ix, p :: m1.ex⟩ : MM).ix <+: (⟨ix, m1.ex⟩ : MM).ix := List.prefix_rfl
  exact hG _ ⟨ix, m1.ex⟩ H e r2 (.lst h2 (rv.mono px sm2))
theorem lck_S {K : PySem.W.Frag} {mg : Str → Option Value} : LcK K mg kS := by
  intro W σ Q m1 H1 H ix p ds vs s hp _ pre sm kx hx r hv rv hG
  obtain ⟨r2, sm2, h2⟩ := r.uncover hv hx
  have hni : p ∉ ix := (r.ext p List.mem_cons_self).2
  have sm3 : Same (hid ⟨ix, p :: m1.ex⟩ H) (hid ((⟨ix, m1.ex⟩ : MM).more p) H) := fun b u q => by
    obtain ⟨q1, q2⟩ := of_hid q
    have nh : ¬ ((⟨ix, m1.ex⟩ : MM).more p).has b := fun z => q1 (by
      rcases z with z | z
      · rcases List.mem_append.mp z with y | y
        · exact .inl y
        · have e : b = p := by simpa using y
          exact .inr (by rw [e]; exact List.mem_cons_self)
      · exact .inr (List.mem_cons_of_mem _ z))
    rw [hid_out nh]; exact q2
  have px : (⟨ix, p :: m1.ex⟩ : MM).ix <+: ((⟨ix, m1.ex⟩ : MM).more p).ix := List.prefix_append _ _
  have r3 : R K mg ((⟨ix, m1.ex⟩ : MM).more p) (s ++ [.lst ds]) H := by
    refine r2.adopt (fun z => z.elim hni hx) ⟨_, hv⟩ (fun _ _ _ => ⟨vs, hv, rv.mono px sm3⟩) fun n a ob h1 h2 => ?_
    have q := r.obj n a ob h1 h2
    cases ob with
    | lst ds => obtain ⟨vs, z, y⟩ := q; exact ⟨vs, z, y.mono px sm3⟩
    | dic kvs => obtain ⟨vs, z, y, x⟩ := q; exact ⟨vs, z, y, x.mono px sm3⟩
    | ins c fs => obtain ⟨C, dx, gs, z, y, x, u⟩ := q; exact ⟨C, dx, gs, z, y, x, u.mono px sm3⟩
  have e : Ext m1 H1 ((⟨ix, m1.ex⟩ : MM).more p) H := ⟨pre.trans (List.prefix_append _ _), sm.trans sm3, rfl, kx⟩
  exact hG _ _ H e r3 (.ref (by rw [← r2.len]; show (ix ++ [p])[ix.length]? = _; simp))
structure ITs (X : Cx) (W : WX) (ifs : List Expr) (t : EV → M Bool) : Prop where
  pt : PTs X ifs (rT X W t)
theorem pts_mono {X : Cx} {ifs : List Expr} {t t' : TT} (h : PTs X ifs t) (i : ∀ σ H Q, t' σ H Q → t σ H Q) : PTs X ifs t' := ⟨fun pins s σ H Q I q => h.run pins s σ H Q I (i σ H Q q)⟩
def yes : EV → M Bool := fun _ s => .ok true s
theorem its_nil {X : Cx} {W : WX} : ITs X W [] yes := ⟨pts_mono pts_nil fun σ H Q ⟨m, σd, s, hR, hS, hG⟩ => Go.ok (a := true) hG hR rfl⟩
theorem its_one {X : Cx} {W : WX} {c : Expr} {t : EV → M Bool} (h : IT X W c t) : ITs X W [c] t := ⟨pts_one h.pt⟩
section
variable {X : Cx} {W : WX}
theorem lcs {own : List Nat} {f : EV → M Src} {g : TF} {t : EV → M Bool} {e : EV → M D} {k : List D → M D} (hk : LcK X.K X.mg k) {σ : SV} {H : Hp} {Q : VK} (hw : rE X W (mLc own f g t e k) σ H Q) : tLc (rI X W f) (rG X own g) (rT X W0 t) (rE X W0 e) own σ H Q := by
  obtain ⟨m, σd, s, hR, hS, hG⟩ := hw
  refine ⟨m, σd, s, hR, hS, (Go.bnd (rel := Wk X.K X.mg) hG).imp fun I H1 ⟨m1, J, s1, e1, r1, v1, g1⟩ => ?_⟩
  intro p hp
  have hS1 := hS.mono e1.pre e1.same
  generalize hr0 : nox (cmp J g t e (wipeD σd own) (J.n + 1) 0 []) s1 = r0 at g1
  have g1 : Go W X.K X.mg σ (RV X.K) m1 H1 (r0.bnd k) Q := by
    have : bnd (nox (cmp J g t e (wipeD σd own) (J.n + 1) 0 [])) k s1 = r0.bnd k := by unfold bnd; rw [hr0]
    rw [← this]; exact g1
  have hpx : p ∉ m1.ex := fun z => r1.fresh hp (.inr z)
  obtain ⟨rc, smc⟩ := r1.cover (ho := .lst []) hp
  -- the invariant
  refine ⟨fun i k' H' => ∃ ix s' acc vs, m1.ix <+: ix ∧ Same (hid m1 H1) (hid ⟨ix, p :: m1.ex⟩ H') ∧ (∀ a ∈ m1.ex, H' a = H1 a) ∧ R X.K X.mg ⟨ix, p :: m1.ex⟩ s' H' ∧ H' p = some (.lst vs) ∧ RVs X.K ⟨ix, p :: m1.ex⟩ (hid ⟨ix, p :: m1.ex⟩ H') acc vs ∧ nox (cmp J g t e (wipeD σd own) k' i acc) s' = r0,
    ⟨J.n + 1, m1.ix, s1, [], [], List.prefix_rfl, smc, fun a ha => upd_ne fun z => hpx (z ▸ ha), rc, upd_same, .nil, hr0⟩, fun i k' H' hW => ?_⟩
  obtain ⟨ix, s', acc, vs, px, sm, kx, r', hv, rv, hc⟩ := hW
  cases k' with
  | zero =>
    have : r0 = .bad := hc.symm
    rw [this] at g1; exact g1.elim
  | succ k' =>
    have hwk := v1 ⟨ix, p :: m1.ex⟩ s' H' px sm r' i
    unfold cmp at hc
    cases hj : J.item s' i with
    | none =>
      have : r0 = .bad := by rw [← hc]; unfold RQ.nox; simp only [hj]
      rw [this] at g1; exact g1.elim
    | some o =>
      cases o with
      | none =>
        rw [hj] at hwk
        have : r0 = .ok acc s' := by rw [← hc]; unfold RQ.nox; simp only [hj]
        rw [this] at g1
        exact .inl ⟨hwk, hk W σ Q m1 H1 H' ix p acc vs s' hp (.inr True.intro) px sm kx hpx r' hv rv g1⟩
      | some d =>
        rw [hj] at hwk
        obtain ⟨hgo, hy⟩ := hwk
        refine .inr ⟨hgo, fun H2 => ∃ ix s' acc vs, m1.ix <+: ix ∧ Same (hid m1 H1) (hid ⟨ix, p :: m1.ex⟩ H2) ∧ (∀ a ∈ m1.ex, H2 a = H1 a) ∧ R X.K X.mg ⟨ix, p :: m1.ex⟩ s' H2 ∧ H2 p = some (.lst vs) ∧ RVs X.K ⟨ix, p :: m1.ex⟩ (hid ⟨ix, p :: m1.ex⟩ H2) acc vs ∧ nox (cmp J g t e (wipeD σd own) k' (i + 1) acc) s' = r0, fun H2 z => ⟨k', Nat.lt_succ_self _, z⟩, fun x H2 hx => ?_⟩
        -- heaps that grow, with what is covered as it was
        have step : ∀ {m2 : MM} {H2 : Hp}, Ext ⟨ix, p :: m1.ex⟩ H' m2 H2 → m2 = ⟨m2.ix, p :: m1.ex⟩ ∧ m1.ix <+: m2.ix ∧ Same (hid m1 H1) (hid m2 H2) ∧ (∀ a ∈ m1.ex, H2 a = H1 a) ∧ H2 p = some (.lst vs) := fun {m2 H2} e2 => by
          obtain ⟨ix2, ex2⟩ := m2
          have hex : ex2 = p :: m1.ex := e2.exq
          subst hex
          exact ⟨rfl, px.trans e2.pre, sm.trans e2.same, fun a ha => (e2.keep a (List.mem_cons_of_mem _ ha)).trans (kx a ha), (e2.keep p List.mem_cons_self).trans hv⟩
        obtain ⟨m2, e2, r2, v2⟩ := hy x H2 hx
        have hS2 : RS X.K m2 (hid m2 H2) (wipeD σd own) (L2.wipe σ own) := ((hS1.mono (step e2).2.1 (step e2).2.2.1).wipe own)
        cases hgd : g d (wipeD σd own) with
        | none =>
          have : r0 = .bad := by rw [← hc]; unfold RQ.nox; simp only [hj, hgd]
          rw [this] at g1; exact g1.elim
        | some σ2 =>
          refine ⟨m2, d, _, s', σ2, r2, v2, hS2, hgd, fun σ3 q3 w3 => ⟨w3.trans (wipe_wipe σ own own fun _ h => h), m2, σ2, s', r2, q3, ?_⟩⟩
          cases ht : t σ2 s' with
          | bad =>
            have : r0 = .bad := by rw [← hc]; unfold RQ.nox; simp only [hj, hgd, ht]
            rw [this] at g1; exact g1.elim
          | exc c fs s3 =>
            have : r0 = .bad := by rw [← hc]; unfold RQ.nox; simp only [hj, hgd, ht]
            rw [this] at g1; exact g1.elim
          | ok b s3 =>
            intro b' m3 H3 e3 r3 hb
            have hb : b' = b := hb
            subst hb
            cases b' with
            | false =>
              have hc' : nox (cmp J g t e (wipeD σd own) k' (i + 1) acc) s3 = r0 := by rw [← hc]; unfold RQ.nox; simp only [hj, hgd, ht]
              obtain ⟨z1, z2, z3, z4, z5⟩ := step (e2.trans e3)
              rw [if_neg Bool.false_ne_true]
              rw [z1] at r3 z3 e3
              refine ⟨m3.ix, s3, acc, vs, z2, z3, z4, r3, z5, ?_, hc'⟩
              exact rv.mono (m' := ⟨m3.ix, p :: m1.ex⟩) (e2.pre.trans e3.pre) (e2.same.trans e3.same)
            | true =>
              rw [if_pos rfl]
              refine ⟨m3, σ2, s3, r3, q3.mono e3.pre e3.same, ?_⟩
              cases hel : e σ2 s3 with
              | bad =>
                have : r0 = .bad := by rw [← hc]; unfold RQ.nox; simp only [hj, hgd, ht, hel]
                rw [this] at g1; exact g1.elim
              | exc c fs s4 =>
                have : r0 = .bad := by rw [← hc]; unfold RQ.nox; simp only [hj, hgd, ht, hel]
                rw [this] at g1; exact g1.elim
              | ok y s4 =>
                intro yv m4 H4 e4 r4 vy
                by_cases hl : acc.length < lim
                · have hc' : nox (cmp J g t e (wipeD σd own) k' (i + 1) (acc ++ [y])) s4 = r0 := by
                    rw [← hc]; unfold RQ.nox; simp only [hj, hgd, ht, hel, if_pos hl]
                  obtain ⟨z1, z2, z3, z4, z5⟩ := step (e2.trans (e3.trans e4))
                  rw [z1] at r4 z3 e4 vy
                  have hpm : p ∈ (⟨m4.ix, p :: m1.ex⟩ : MM).ex := List.mem_cons_self
                  have npx : ∀ a ∈ m1.ex, a ≠ p := fun a ha z => hpx (z ▸ ha)
                  obtain ⟨r5, sm5⟩ := r4.exput (ho := .lst (vs ++ [yv])) hpm
                  have rv4 := rv.mono (m' := ⟨m4.ix, p :: m1.ex⟩) (e2.pre.trans (e3.pre.trans e4.pre)) (e2.same.trans (e3.same.trans e4.same))
                  refine ⟨vs, z5, by rw [rv.length]; exact Nat.lt_of_lt_of_le hl (lim_le (Nat.le_refl _)), m4.ix, s4, acc ++ [y], vs ++ [yv], z2, z3.trans sm5, fun a ha => (upd_ne (npx a ha)).trans (z4 a ha), r5, upd_same, ?_, hc'⟩
                  exact (rv4.append (.cons vy .nil)).mono List.prefix_rfl sm5
                · have : r0 = .bad := by rw [← hc]; unfold RQ.nox; simp only [hj, hgd, ht, hel, if_neg hl]
                  rw [this] at g1; exact g1.elim
theorem ie_lc {elt tg iter : Expr} {ifs : List Expr} {scope : Scope} {own : List (Str × Nat)} {pos : Pos} {f : EV → M Src} {g : TF} {t : EV → M Bool} {e : EV → M D} {k : List D → M D} (hk : LcK X.K X.mg k) (hc : X.calm = true) (hN : X.N.Nodup) (hi : II X W tg iter f) (ok : BlkOk X.N X.env.scope scope own)
    (hg : ∀ (s : Shared) (H : Hp) (C : Addr) (cl : List (Str × Addr)) (fp : List Addr), IG (X.blk s H scope (compEnvC scope cl C X.env) fp) (own.map (·.2)) tg g) (ht : ∀ (s : Shared) (H : Hp) (C : Addr) (cl : List (Str × Addr)) (fp : List Addr), ITs (X.blk s H scope (compEnvC scope cl C X.env) fp) W0 ifs t)
    (he : ∀ (s : Shared) (H : Hp) (C : Addr) (cl : List (Str × Addr)) (fp : List Addr), IE (X.blk s H scope (compEnvC scope cl C X.env) fp) W0 elt e) (hs : ∀ x, foldedSetIterable iter X.env x = pure x := by intro _; rfl) :
    IE X W (.ListComp elt [⟨tg, iter, ifs, 0⟩] scope pos) (mLc (own.map (·.2)) f g t e k) :=
  ⟨pe_mono (pe_lc (wi := rI X W f) (g := rG X (List.map (fun x => Prod.snd x) own) g) (tt := rT X W0 t) (te := rE X W0 e) hc hN hi.pi ok (fun s H C cl fp => (hg s H C cl fp).pg) (fun s H C cl fp => (ht s H C cl fp).pt) (fun s H C cl fp => (he s H C cl fp).pe) hs) fun σ H Q hw => lcs hk hw⟩
/-- name = [..] -/
theorem is_setLc {i : Nat} {y : Str} {py : Pos} {elt tg iter : Expr} {ifs : List Expr} {scope : Scope} {own : List (Str × Nat)} {pos spos : Pos} {f : EV → M Src} {g : TF} {t : EV → M Bool} {e : EV → M D} {k : List D → M D} (hk : LcK X.K X.mg k) (hc : X.calm = true) (hN : X.N.Nodup) (hy : X.N[i]? = some y) (hyl : X.env.scope.names.lookup y = some .local)
    (hsw : swapsWith (.ListComp elt [⟨tg, iter, ifs, 0⟩] scope pos) (some (.Name y py)) spos.line X.env = pure true) (hi : II X W tg iter f) (ok : BlkOk X.N X.env.scope scope own)
    (hg : ∀ (s : Shared) (H : Hp) (C : Addr) (cl : List (Str × Addr)) (fp : List Addr), IG (X.blk s H scope (compEnvC scope cl C X.env) fp) (own.map (·.2)) tg g) (ht : ∀ (s : Shared) (H : Hp) (C : Addr) (cl : List (Str × Addr)) (fp : List Addr), ITs (X.blk s H scope (compEnvC scope cl C X.env) fp) W0 ifs t)
    (he : ∀ (s : Shared) (H : Hp) (C : Addr) (cl : List (Str × Addr)) (fp : List Addr), IE (X.blk s H scope (compEnvC scope cl C X.env) fp) W0 elt e) (hs : ∀ x, foldedSetIterable iter X.env x = pure x := by intro _; rfl) :
    IS X W (.Assign [.Name y py] (.ListComp elt [⟨tg, iter, ifs, 0⟩] scope pos) spos) (sSet i (mLc (own.map (·.2)) f g t e k)) := by
  refine ⟨ps_mono (ps_setLc (wi := rI X W f) (g := rG X (List.map (fun x => Prod.snd x) own) g) (tt := rT X W0 t) (te := rE X W0 e) hc hN hy hyl hsw hi.pi ok (fun s H C cl fp => (hg s H C cl fp).pg) (fun s H C cl fp => (ht s H C cl fp).pt) (fun s H C cl fp => (he s H C cl fp).pe) hs) fun E σ H ⟨m, σd, s, hR, hS, hG⟩ => ?_⟩
  refine lcs hk ⟨m, σd, s, hR, hS, (GoS.lft (rel := RV X.K) hS hG).imp fun x H1 ⟨m1, d, s1, e1, r1, v1, g1⟩ => ?_⟩
  exact GoS.at (fl := .nx) g1 r1 ((hS.mono e1.pre e1.same).put v1)
end
end RQ

namespace RQ
open PySem PySem.Spec PyProof.Rows L2

/-! ### defs -/
abbrev WE (E : XK) : WX := fun c d _ H => E c d H
structure FnI (P : Program) (w : World) (K : PySem.W.Frag) (mg : Str → Option Value) (base : Heap) (k : Nat) (f : Addr) (fd : FuncData) (ps : List Str) (F : List D → M D) : Prop where
  run : ∀ (A : Around) (outer : List Env) (s : Shared) (H : Hp) (args : Args) (us : List Value) (vs : List V) (ds : List D) (m : MM) (t : Sto) (Q : VK) (E : XK),
    Room k A → A.guards = some [] → Env0 P w K mg base A outer s H → BindsTo s fd args (ps.zip us) → Vals vs us → vs.length = ps.length →
    R K mg m t H → RVs K m (hid m H) ds vs → Go (WE E) K mg [] (RV K) m H (F ds t) Q →
    codeAny (model P w) A (.call (.ref f) args) (CR (L2.CX P w) outer P w H s Q E) s
theorem FnI.mono {P : Program} {w : World} {K : PySem.W.Frag} {mg : Str → Option Value} {base : Heap} {j k : Nat} {f : Addr} {fd : FuncData} {ps : List Str} {F : List D → M D} (h : FnI P w K mg base j f fd ps F) (hj : j ≤ k) : FnI P w K mg base k f fd ps F :=
  ⟨fun A outer s H args us vs ds m t Q E hr => h.run A outer s H args us vs ds m t Q E (hr.mono hj)⟩
/-- the def of the text at f -/
structure Fn (K : PySem.W.Frag) (x qual : Str) (st : Stmt) (f : Addr) (fd : FuncData) : Prop where
  at' : ∃ (oc : Value) (od : Option Addr) (dV kV doc pm : Value) (an : Option Addr) (cdv ct : Value) (osl : Array (Option Value)),
    fd = PySem.W.fnOf x qual (defArgs st) (defBody st) (defScope st) dV kV doc pm an cdv ct ∧ K.lookup f = some ⟨oc, od, .func fd, osl⟩ ∧ PySem.W.codeIn K cdv qual = true
  kp : PySem.W.keepIn K (.ref f) = true
def runB (n : Nat) (B : SM) : List D → M D := fun ds s => match B (ds.map some ++ List.replicate (n - ds.length) none) s with
  | .go .nx _ s' => .ok .non s'
  | .go (.rt d) _ s' => .ok d s'
  | .exc c fs _ s' => .exc c fs s'
  | _ => .bad
theorem rs_start {K : PySem.W.Frag} {m : MM} {G : Hp} {N : List Str} {ds : List D} {vs : List V} (h : RVs K m G ds vs) : RS K m G (ds.map some ++ List.replicate (N.length - ds.length) none) (start N vs) := by
  have hl := h.length
  refine ⟨by unfold L2.start; simp [hl], fun i d e => ?_⟩
  by_cases hi : i < ds.length
  · rw [List.getElem?_append_left (by simpa using hi), List.getElem?_map] at e
    cases q : ds[i]? with
    | none => rw [q] at e; cases e
    | some y =>
      rw [q] at e
      cases e
      obtain ⟨v, h1, h2⟩ := h.get q
      refine ⟨v, ?_, h2⟩
      unfold L2.start
      rw [List.getElem?_append_left (by simpa [hl] using hi), List.getElem?_map, h1]; rfl
  · rw [List.getElem?_append_right (by simpa using hi), List.getElem?_replicate] at e
    split at e <;> cases e
theorem fn_i {P : Program} {w : World} {K : PySem.W.Frag} {mg : Str → Option Value} {base : Heap} {k : Nat} {x qual : Str} {st : Stmt} {f : Addr} {fd : FuncData} {N ps : List Str} {B : SM} {n : Nat} (hn : N.length = n) (F : Fn K x qual st f fd) (S : FnScope N ps (defScope st))
    (hB : ∀ (cdv : Value) (A : Around) (outer : List Env) (s : Shared) (H : Hp) (E : XK), Room k (A.deeper (envOfC qual (defScope st) s.heap.objs.size f cdv)) → A.guards = some [] →
      ISs (cxOf (L2.CX P w) P w K mg base N qual (defScope st) f cdv A outer s H E) (WE E) (defBody st) B) : FnI P w K mg base (k + 1) f fd ps (runB n B) := by
  subst hn
  obtain ⟨oc, od, dV, kV, doc, pm, an, cdv, ct, osl, rfl, lk, hcd⟩ := F.at'
  refine ⟨fun A outer s H args us vs ds m t Q E hr hgd e0 bd rv hlen hR hV hG => ?_⟩
  have KX : K.In s.heap := e0.mod.kin.keeps fun b o q => (e0.bs b o q).1
  have lim0 : s.heap.NoLimit := e0.mod.nolimit.keeps fun b o q => (e0.bs b o q).1
  refine codeAny_call_function hr.depth (KX _ _ lk) rfl S.co S.gen rfl (PySem.W.codeRec_of KX hcd) (bd _ _ _ _ (wpAny_newFunctionEnv_cells S.kind (fun ⟨n, v⟩ hy => ?kd) fun env he s1 ic => ?_))
  case kd =>
    rcases S.par n (List.of_mem_zip hy).1 with q | q
    · exact .inl q
    · exact .inr ⟨q, PySem.W.cellsFrom_some _ _ _ (.inl q)⟩
  subst he
  refine ⟨lim0.keeps ic.toInCall.keep, codeAny_func ?_⟩
  have hb := hB cdv A outer s H E (hr.deeper _) hgd
  have I : Inv (cxOf (L2.CX P w) P w K mg base N qual (defScope st) f cdv A outer s H E) [] (start N vs) H s1 := inv_start S hr.hd e0 hlen rv ic
  have hq : rS (cxOf (L2.CX P w) P w K mg base N qual (defScope st) f cdv A outer s H E) (WE E) B { nx := fun _ H' => Q .non H', rt := Q } (start N vs) H := by
    refine ⟨m, _, t, hR, rs_start hV, ?_⟩
    unfold runB at hG
    cases e : B (ds.map some ++ List.replicate (N.length - ds.length) none) t with
    | go fl σ' s' =>
      rw [e] at hG
      cases fl with
      | nx => exact fun σ2 m2 H2 e2 r2 _ => hG _ m2 H2 e2 r2 .non
      | rt d => exact fun σ2 m2 H2 e2 r2 _ v hv => hG v m2 H2 e2 r2 hv
      | bk => exact hG.elim
      | ct => exact hG.elim
    | exc c fs σ' s' =>
      rw [e] at hG
      exact fun C d σ2 m2 H2 e2 r2 _ hc hx => hG C d m2 H2 e2 r2 hc hx
    | bad => rw [e] at hG; exact hG.elim
  refine wpAny_mono (hb.ps.run [] s1 (start N vs) H _ I hq) (fun fl s' hs => ?_) fun _ _ z => z
  cases fl with
  | ret u => obtain ⟨v, σ', H', J, ru, q⟩ := hs; exact ⟨v, H', J.os, J.bare, J.base, J.hok, ru, q⟩
  | next => obtain ⟨σ', H', J, q⟩ := hs; exact ⟨.non, H', J.os, J.bare, J.base, J.hok, rfl, q⟩
  | brk => obtain ⟨_, _, _, q⟩ := hs; exact q.elim
  | cont => obtain ⟨_, _, _, q⟩ := hs; exact q.elim
theorem ISs.cast {X : Cx} {W : WX} {st : List Stmt} {F G : SM} (h : ISs X W st F) (e : F = G) : ISs X W st G := by subst e; exact h
/-! ### calls of defs -/
section
variable {X : Cx} {W : WX} {k : Nat} {f : Addr} {fd : FuncData} {ps : List Str} {F : List D → M D} {x : Str} {p pos : Pos} {a : Expr} {es : List Expr} {fs : EV → M (List D)} {dvs : List D} {dV : List V} {ds : List Value}
def mCall (n : Nat) (F : List D → M D) (fs : EV → M (List D)) : EV → M D := fun σ => bnd (fs σ) fun xs s => if xs.length = n then F xs s else .bad
theorem run_i {pins : List (Addr × Obj)} {σ : SV} {H : Hp} {s : Shared} {Q : VK} {us : List Value} {vs : List V} {xs : List D} {m : MM} {t : Sto} {args : Args} {ws : List Value} (G : FnI X.prog X.w X.K X.mg X.base k f fd ps F) (hr : Room k X.A) (hgd : X.A.guards = some []) (tk : Takes X W)
    (hb : BindsTo s fd args (ps.zip ws)) (I : Inv X pins σ H s) (rv : Vals vs ws) (hl : vs.length = ps.length) (hR : R X.K X.mg m t H) (hV : RVs X.K m (hid m H) xs vs) (hG : Go W X.K X.mg σ (RV X.K) m H (F xs t) Q) :
    codeAny (model X.prog X.w) X.A (.call (.ref f) args) (fun r s' => match r with | .ok (.ret u) => EP X pins σ Q u s' | .ok _ => False | .error e => X.xe e s') s := by
  have hG' : Go (WE fun c d H => W c d σ H) X.K X.mg [] (RV X.K) m H (F xs t) Q := by
    cases e : F xs t with
    | ok d s' => rw [e] at hG; exact hG
    | exc c fs s' => rw [e] at hG; exact hG
    | bad => rw [e] at hG; exact hG
  refine codeAny_mono (G.run X.A X.stack s H args ws vs xs m t Q (fun c d H => W c d σ H) hr hgd I.env0 hb rv hl hR hV hG') fun r s' hq => ?_
  cases r with
  | error e => exact tk e s' (XE.of_call I (fun _ _ _ z => z) hq)
  | ok fl =>
    cases fl with
    | ret u => exact I.after hq
    | next => exact hq.elim
    | brk => exact hq.elim
    | cont => exact hq.elim
theorem call_i {pins : List (Addr × Obj)} {σ : SV} {H : Hp} {s : Shared} {Q : VK} {us : List Value} {vs : List V} {xs : List D} {m : MM} {t : Sto} (G : FnI X.prog X.w X.K X.mg X.base k f fd ps F) (hr : Room k X.A) (hgd : X.A.guards = some []) (tk : Takes X W)
    (hb : Binds X.K fd ps ds) (hd : Vals dV ds) (hD : ∀ m G, RVs X.K m G dvs dV) (I : Inv X pins σ H s) (rv : Vals vs us) (hR : R X.K X.mg m t H) (hV : RVs X.K m (hid m H) xs vs) (hl : (xs ++ dvs).length = ps.length) (hG : Go W X.K X.mg σ (RV X.K) m H (F (xs ++ dvs) t) Q) :
    wpAny (model X.prog X.w) X.A (call (.ref f) us) (EP X pins σ Q) X.xe s := by
  have r2 : Vals (vs ++ dV) (us ++ ds) := rv.append hd
  have v2 : RVs X.K m (hid m H) (xs ++ dvs) (vs ++ dV) := hV.append (hD _ _)
  have l2 : (vs ++ dV).length = ps.length := v2.length.trans hl
  refine wpAny_call (codeAny_mono (run_i (us := us) (args := ⟨us, []⟩) G hr hgd tk (hb s us I.kIn (r2.length ▸ l2)) I r2 l2 hR v2 hG) fun r s' hq => ?_)
  cases r with
  | error e => exact hq
  | ok fl =>
    cases fl with
    | ret u => exact hq
    | next => exact hq.elim
    | brk => exact hq.elim
    | cont => exact hq.elim
theorem ie_call (G : FnI X.prog X.w X.K X.mg X.base k f fd ps F) (hr : Room k X.A) (hgd : X.A.guards = some []) (tk : Takes X W) (hg : Gl X x) (hm : X.mg x = some (.ref f)) (hk : PySem.W.keepIn X.K (.ref f) = true) (hb : Binds X.K fd ps ds) (hd : Vals dV ds) (hD : ∀ m G, RVs X.K m G dvs dV)
    (ha : IA X W (a :: es) fs) (hz : dvs.length ≤ ps.length := by decide) (hdb : (x == ("__debug__" : Str)) = false := by decide) (he : starEach (a :: es) X.env = (false, eval a X.env) :: starEach es X.env := by rfl) (hpl : (backTo pos (starEach es X.env)).any (·.1) = false := by rfl) :
    IE X W (.Call (.Name x p) (a :: es) [] pos) (mCall (ps.length - dvs.length) (fun xs => F (xs ++ dvs)) fs) := by
  refine ⟨⟨fun pins s σ H Q I ⟨m, σd, t, hR, hS, hG⟩ => ?_⟩⟩
  refine wpAny_Call_Name_kw (ld_glob I hg hm (PySem.W.callWith_K (h₀ := X.base) I.ok.mod.kin hk (thn (ha.pa.run pos pins s σ H _ I ⟨m, σd, t, hR, hS, Go.bnd (rel := RVs X.K) hG⟩) fun us s1 ⟨vs, H1, I1, rv, m1, xs, s2, e1, r1, v1, g1⟩ => ⟨I1.kIn, ?_⟩) he hpl) hdb)
  split at g1
  · rename_i hl
    exact call_i G hr hgd tk hb hd hD I1 rv r1 v1 (by rw [List.length_append]; omega) g1
  · exact g1.elim
theorem ie_callN {n : Nat} (G : FnI X.prog X.w X.K X.mg X.base k f fd ps F) (hr : Room k X.A) (hgd : X.A.guards = some []) (tk : Takes X W) (hg : Gl X x) (hm : X.mg x = some (.ref f)) (hk : PySem.W.keepIn X.K (.ref f) = true) (hb : Binds X.K fd ps [])
    (ha : IA X W (a :: es) fs) (hn : ps.length = n := by rfl) (hdb : (x == ("__debug__" : Str)) = false := by decide) (he : starEach (a :: es) X.env = (false, eval a X.env) :: starEach es X.env := by rfl) (hpl : (backTo pos (starEach es X.env)).any (·.1) = false := by rfl) :
    IE X W (.Call (.Name x p) (a :: es) [] pos) (mCall n F fs) := by
  refine ⟨⟨fun pins s σ H Q I ⟨m, σd, t, hR, hS, hG⟩ => ?_⟩⟩
  refine wpAny_Call_Name_kw (ld_glob I hg hm (PySem.W.callWith_K (h₀ := X.base) I.ok.mod.kin hk (thn (ha.pa.run pos pins s σ H _ I ⟨m, σd, t, hR, hS, Go.bnd (rel := RVs X.K) hG⟩) fun us s1 ⟨vs, H1, I1, rv, m1, xs, s2, e1, r1, v1, g1⟩ => ⟨I1.kIn, ?_⟩) he hpl) hdb)
  split at g1
  · rename_i hl
    exact call_i (dvs := []) (dV := []) G hr hgd tk hb .nil (fun _ _ => .nil) I1 rv r1 v1 (by rw [List.append_nil]; omega) (by rw [List.append_nil]; exact g1)
  · exact g1.elim
theorem ie_call0 (G : FnI X.prog X.w X.K X.mg X.base k f fd ps F) (hr : Room k X.A) (hgd : X.A.guards = some []) (tk : Takes X W) (hg : Gl X x) (hm : X.mg x = some (.ref f)) (hk : PySem.W.keepIn X.K (.ref f) = true) (hb : Binds X.K fd ps ds) (hd : Vals dV ds) (hD : ∀ m G, RVs X.K m G dvs dV)
    (hl : dvs.length = ps.length) (hdb : (x == ("__debug__" : Str)) = false := by decide) : IE X W (.Call (.Name x p) [] [] pos) (fun _ => F dvs) := by
  refine ⟨⟨fun pins s σ H Q I ⟨m, σd, t, hR, hS, hG⟩ => ?_⟩⟩
  exact wpAny_Call_Name_kw (ld_glob I hg hm (PySem.W.callWith_K0 I.kIn hk (call_i (us := []) (xs := []) G hr hgd tk hb hd hD I .nil hR .nil hl hG)) hdb)
end
end RQ

namespace RQ
open PySem PySem.Spec PyProof.Rows L2

theorem op_mono {X : Cx} {F : Value → Value → Sem Value} {r r' : R2} (h : OpR X F r) (i : ∀ x y H Q, r' x y H Q → r x y H Q) : OpR X F r' :=
  fun pins s σ H x y v u Q I rx ry q => h pins s σ H x y v u Q I rx ry (i x y H Q q)
theorem un_mono {X : Cx} {F : Value → Sem Value} {r r' : V → Hp → VK → Prop} (h : UnR X F r) (i : ∀ x H Q, r' x H Q → r x H Q) : UnR X F r' :=
  fun pins s σ H x v Q I rx q => h pins s σ H x v Q I rx (i x H Q q)
theorem call_mono {X : Cx} {F : Value} {r r' : List V → Hp → VK → Prop} (h : CallR X F r) (i : ∀ xs H Q, r' xs H Q → r xs H Q) : CallR X F r' :=
  fun pins s σ H xs us Q I rs q => h pins s σ H xs us Q I rs (i xs H Q q)
theorem ix_mono {X : Cx} {r r' : R2} (h : IxR X r) (i : ∀ x y H Q, r' x y H Q → r x y H Q) : IxR X r' :=
  fun value slice pins s σ H x y v u Q I rx ry q hs => h value slice pins s σ H x y v u Q I rx ry (i x y H Q q) hs
theorem sl_mono {X : Cx} {r r' : V → Option Int → Option Int → Hp → VK → Prop} (h : SlR X r) (i : ∀ x a b H Q, r' x a b H Q → r x a b H Q) : SlR X r' :=
  fun pins s σ H x v vl vu lo hi sl Q I rx hs pl pu q => h pins s σ H x v vl vu lo hi sl Q I rx hs pl pu (i x lo hi H Q q)
theorem mt_mono {X : Cx} {id : String} {r r' : V → List V → Hp → VK → Prop} (h : MtR X id r) (i : ∀ x xs H Q, r' x xs H Q → r x xs H Q) : MtR X id r' :=
  fun pins s σ H x xs v us Q I rx rs q => h pins s σ H x xs v us Q I rx rs (i x xs H Q q)

/-! ### what lies where -/
/-- the items of a list that is tracked -/
def asL (s : Sto) : D → Option (List D)
  | .lst xs => some xs
  | .ref n => match s[n]? with | some (.lst xs) => some xs | _ => none
  | _ => none
/-- the items of any list -/
def asLL (s : Sto) : D → Option (List D)
  | .sls xs => some xs
  | d => asL s d
section
variable {K : PySem.W.Frag} {mg : Str → Option Value} {m : MM} {s : Sto} {H : Hp} {x : D} {v : V} {xs : List D}
theorem asL_at (hR : R K mg m s H) (r : RV K m (hid m H) x v) (h : asL s x = some xs) : ∃ a vs, v = .ref a ∧ H a = some (.lst vs) ∧ RVs K m (hid m H) xs vs := by
  unfold asL at h
  split at h
  · cases h
    cases r with | lst q qs => exact ⟨_, _, rfl, hid_sub _ _ _ _ q, qs⟩
  · cases r with
    | ref q =>
      split at h
      · rename_i e
        cases h
        obtain ⟨vs, h1, h2⟩ := hR.obj _ _ _ q e
        exact ⟨_, vs, rfl, h1, h2⟩
      · cases h
  · cases h
theorem asLL_at (hR : R K mg m s H) (r : RV K m (hid m H) x v) (h : asLL s x = some xs) : ∃ a vs, v = .ref a ∧ SqL K H a vs ∧ RVs K m (hid m H) xs vs := by
  unfold asLL at h
  split at h
  · cases h
    cases r with | sls q qs => exact ⟨_, _, rfl, sql_mono (hid_sub _ _) q, qs⟩
  · obtain ⟨a, vs, e, h1, h2⟩ := asL_at hR r h
    exact ⟨a, vs, e, .inl (.inl h1), h2⟩
theorem tup_at (r : RV K m (hid m H) (.tup xs) v) : ∃ a vs, v = .ref a ∧ SqT K H a vs ∧ RVs K m (hid m H) xs vs := by
  cases r with | tup q qs => exact ⟨_, _, rfl, sqt_mono (hid_sub _ _) q, qs⟩
theorem RVs.ints : ∀ {ds : List D} {vs : List V} {ns : List Int}, RVs K m (hid m H) ds vs → ds = ns.map D.int → vs = ns.map V.int
  | _, _, [], .nil, _ => rfl
  | _, _, n :: ns, .cons h r, e => by
    rw [List.map_cons] at e
    cases e
    cases h
    rw [List.map_cons, RVs.ints r rfl]
theorem RVs.strs : ∀ {ds : List D} {vs : List V} {ns : List Str}, RVs K m (hid m H) ds vs → ds = ns.map D.str → vs = ns.map V.str
  | _, _, [], .nil, _ => rfl
  | _, _, n :: ns, .cons h r, e => by
    rw [List.map_cons] at e
    cases e
    cases h
    rw [List.map_cons, RVs.strs r rfl]
theorem RVs.bls : ∀ {ds : List D} {vs : List V} {ns : List Bool}, RVs K m (hid m H) ds vs → ds = ns.map D.bl → vs = ns.map V.bl
  | _, _, [], .nil, _ => rfl
  | _, _, n :: ns, .cons h r, e => by
    rw [List.map_cons] at e
    cases e
    cases h
    rw [List.map_cons, RVs.bls r rfl]
theorem RVs.map_int (ns : List Int) {G : Hp} : RVs K m G (ns.map D.int) (ns.map V.int) := by
  induction ns with
  | nil => exact .nil
  | cons n ns ih => exact .cons (.int n) ih
theorem RVs.map_str (ns : List Str) {G : Hp} : RVs K m G (ns.map D.str) (ns.map V.str) := by
  induction ns with
  | nil => exact .nil
  | cons n ns ih => exact .cons (.str n) ih
end
def allM {α β : Type} (f : α → Option β) : List α → Option (List β)
  | [] => some []
  | x :: xs => match f x, allM f xs with | some a, some b => some (a :: b) | _, _ => none
def unI : D → Option Int | .int i => some i | _ => none
def unS : D → Option Str | .str i => some i | _ => none
def unB : D → Option Bool | .bl i => some i | _ => none
theorem allM_int : ∀ {ds : List D} {ns : List Int}, allM unI ds = some ns → ds = ns.map D.int
  | [], _, h => by cases h; rfl
  | d :: ds, ns, h => by
    unfold allM at h
    split at h
    · rename_i a b e1 e2
      cases h
      cases d <;> cases e1
      rw [List.map_cons, allM_int e2]
    · cases h
theorem allM_str : ∀ {ds : List D} {ns : List Str}, allM unS ds = some ns → ds = ns.map D.str
  | [], _, h => by cases h; rfl
  | d :: ds, ns, h => by
    unfold allM at h
    split at h
    · rename_i a b e1 e2
      cases h
      cases d <;> cases e1
      rw [List.map_cons, allM_str e2]
    · cases h
theorem allM_bl : ∀ {ds : List D} {ns : List Bool}, allM unB ds = some ns → ds = ns.map D.bl
  | [], _, h => by cases h; rfl
  | d :: ds, ns, h => by
    unfold allM at h
    split at h
    · rename_i a b e1 e2
      cases h
      cases d <;> cases e1
      rw [List.map_cons, allM_bl e2]
    · cases h
theorem allM_map_int (ns : List Int) : allM unI (ns.map D.int) = some ns := by
  induction ns with
  | nil => rfl
  | cons n ns ih => simp [allM, unI, ih]
theorem allM_map_str (ns : List Str) : allM unS (ns.map D.str) = some ns := by
  induction ns with
  | nil => rfl
  | cons n ns ih => simp [allM, unS, ih]
theorem allM_map_bl (ns : List Bool) : allM unB (ns.map D.bl) = some ns := by
  induction ns with
  | nil => rfl
  | cons n ns ih => simp [allM, unB, ih]

/-! ### arithmetic -/
def dAdd (x y : D) : M D := fun s => match x, y with
  | .int i, .int j => .ok (.int (i + j)) s
  | .str a, .str b => if a.length + b.length ≤ lim then .ok (.str (a ++ b)) s else .bad
  | x, y => match asL s x, asL s y with
    | some a, some b => if a.length + b.length ≤ lim then .ok (.lst (a ++ b)) s else .bad
    | _, _ => .bad
def dSub (x y : D) : M D := fun s => match x, y with
  | .int i, .int j => .ok (.int (i - j)) s
  | _, _ => .bad
def rep (k : Nat) (a : Str) : Str := ⟨(List.replicate k a.cps.toList).flatten.toArray⟩
def mulOk (i j : Int) : Prop := i.natAbs.log2 + j.natAbs.log2 < 1000000
instance (i j : Int) : Decidable (mulOk i j) := inferInstanceAs (Decidable (_ < _))
def dMul (x y : D) : M D := fun s => match x, y with
  | .int i, .int j => if mulOk i j then .ok (.int (i * j)) s else .bad
  | .str a, .int k => if 0 ≤ k ∧ a.length * k.toNat ≤ lim ∧ k ≤ lim then .ok (.str (rep k.toNat a)) s else .bad
  | x, .int k => match asL s x with
    | some a => if 0 ≤ k ∧ a.length * k.toNat ≤ lim ∧ k ≤ lim then .ok (.lst (List.replicate k.toNat a).flatten) s else .bad
    | none => .bad
  | _, _ => .bad
def dDiv (x y : D) : M D := fun s => match x, y with
  | .int i, .int j => if 0 < j ∧ j.natAbs.log2 < 9000 then .ok (.int (i / j)) s else .bad
  | _, _ => .bad
def dMod (x y : D) : M D := fun s => match x, y with
  | .int i, .int j => if 0 < j then .ok (.int (i % j)) s else .bad
  | _, _ => .bad
def dPow (x y : D) : M D := fun s => match x, y with
  | .int i, .int j => if 0 ≤ j ∧ j ≤ 1000000 ∧ i.natAbs < 2 ^ 64 then .ok (.int (i ^ j.toNat)) s else .bad
  | _, _ => .bad
def dNeg (x : D) : M D := fun s => match x with
  | .int i => .ok (.int (-i)) s
  | _ => .bad
section
variable {X : Cx}
theorem oi_add : OpI X (binaryOp .Add) dAdd := by
  refine op_mono (op_add.or (op_add_str.or op_cat)) fun v u H Q ⟨m, x, y, s, hR, hx, hy, hg⟩ => ?_
  unfold dAdd at hg
  split at hg
  · cases hx; cases hy; exact .inl ⟨_, _, rfl, rfl, hg.ok hR (.int _)⟩
  · cases hx; cases hy
    split at hg
    · rename_i h
      exact .inr (.inl ⟨_, _, rfl, rfl, lim_le h, hg.ok hR (.str _)⟩)
    · exact hg.elim
  · split at hg
    · rename_i a b e1 e2
      split at hg
      · rename_i h
        obtain ⟨p, vs, rfl, h1, r1⟩ := asL_at hR hx e1
        obtain ⟨q, us, rfl, h2, r2⟩ := asL_at hR hy e2
        exact .inr (.inr ⟨p, q, vs, us, rfl, rfl, h1, h2, by rw [r1.length, r2.length]; exact lim_le h, fun l hl => Go.newL hR (r1.append r2) hl hg⟩)
      · exact hg.elim
    · exact hg.elim
theorem oi_sub : OpI X (binaryOp .Sub) dSub := by
  refine op_mono op_sub fun v u H Q ⟨m, x, y, s, hR, hx, hy, hg⟩ => ?_
  unfold dSub at hg
  split at hg
  · cases hx; cases hy; exact ⟨_, _, rfl, rfl, hg.ok hR (.int _)⟩
  · exact hg.elim
theorem oi_div : OpI X (binaryOp .FloorDiv) dDiv := by
  refine op_mono op_fdivW fun v u H Q ⟨m, x, y, s, hR, hx, hy, hg⟩ => ?_
  unfold dDiv at hg
  split at hg
  · cases hx; cases hy
    split at hg
    · rename_i h
      exact ⟨_, _, rfl, rfl, h, hg.ok hR (.int _)⟩
    · exact hg.elim
  · exact hg.elim
theorem oi_mod : OpI X (binaryOp .Mod) dMod := by
  refine op_mono op_mod fun v u H Q ⟨m, x, y, s, hR, hx, hy, hg⟩ => ?_
  unfold dMod at hg
  split at hg
  · cases hx; cases hy
    split at hg
    · rename_i h
      exact ⟨_, _, rfl, rfl, h, hg.ok hR (.int _)⟩
    · exact hg.elim
  · exact hg.elim
theorem oi_pow : OpI X (binaryOp .Pow) dPow := by
  refine op_mono op_pow fun v u H Q ⟨m, x, y, s, hR, hx, hy, hg⟩ => ?_
  unfold dPow at hg
  split at hg
  · cases hx; cases hy
    split at hg
    · rename_i h
      exact ⟨_, _, rfl, rfl, h, hg.ok hR (.int _)⟩
    · exact hg.elim
  · exact hg.elim
theorem ui_neg : UnI X (unaryOp .USub) dNeg := by
  refine un_mono un_neg fun v H Q ⟨m, x, s, hR, hx, hg⟩ => ?_
  unfold dNeg at hg
  split at hg
  · cases hx; exact ⟨_, rfl, hg.ok hR (.int _)⟩
  · exact hg.elim
theorem foldl_app (x : Array Nat) : ∀ (n : Nat) (acc : Array Nat), (List.replicate n x).foldl (· ++ ·) acc = acc ++ (List.replicate n x.toList).flatten.toArray
  | 0, acc => by simp
  | n + 1, acc => by
    rw [List.replicate_succ, List.foldl_cons, foldl_app x n (acc ++ x), List.replicate_succ, List.flatten_cons, Array.append_assoc]
    congr 1
    apply Array.ext'
    simp
theorem op_mulS : OpR X (binaryOp .Mult) (fun x y H Q => ∃ (a : Str) (k : Int), x = .str a ∧ y = .int k ∧ 0 ≤ k ∧ a.length * k.toNat ≤ lim ∧ k ≤ lim ∧ Q (.str (rep k.toNat a)) H) := by
  intro pins s σ H x y v u Q I rx ry h
  obtain ⟨a, k, rfl, rfl, h0, hl, hk, q⟩ := h
  obtain ⟨t, rfl⟩ := rx
  obtain ⟨t', rfl⟩ := ry
  have hk2 : k ≤ 1000000 := hk
  have hl2 : a.length * k.toNat ≤ 1000000 := hl
  refine PySem.P.mul_str (by rw [decide_eq_false (by omega), decide_eq_false (by omega)]; rfl) (fun h1 _ => ?_) (fun h1 _ => ?_) ?_
  · intro z
    have hpos : 1 ≤ k.toNat := by omega
    have : a.length ≤ a.length * k.toNat := Nat.le_mul_of_pos_right _ hpos
    have h3 : (2 ^ 63 - 1 : Int) / k ≥ 1000000 := by
      refine Int.le_ediv_of_mul_le (by omega) ?_
      have : (1000000 : Int) * k ≤ 1000000 * 1000000 := by omega
      omega
    omega
  · unfold Builtin.Str.tooLong
    apply decide_eq_false
    have : sizeLine = 16777216 := sizeLine_eq
    omega
  · by_cases h1 : k < 1
    · rw [if_pos h1]
      have e : k = 0 := by omega
      subst e
      exact ⟨by decide, ⟨.str _, H, I.tok _, ⟨_, rfl⟩, q⟩⟩
    · rw [if_neg h1]
      by_cases h2 : (k == 1 || a.length == 0) = true
      · rw [if_pos h2]
        have e : rep k.toNat a = a := by
          rcases Bool.or_eq_true _ _ ▸ h2 with z | z
          · have e : k = 1 := eq_of_beq z
            subst e
            unfold rep
            simp
          · have e : a.cps = #[] := by
              have z2 : a.cps.size = 0 := eq_of_beq z
              exact Array.eq_empty_of_size_eq_zero z2
            unfold rep
            cases a with
            | mk c =>
              simp only at e
              subst e
              simp
        rw [e] at q
        exact ⟨.str a, H, I, ⟨_, rfl⟩, q⟩
      · rw [if_neg h2]
        have e : (⟨(List.replicate k.toNat a.cps).foldl (· ++ ·) #[]⟩ : Str) = rep k.toNat a := by
          unfold rep
          rw [foldl_app]
          simp
        refine ⟨?_, ?_⟩
        · show Str.length _ ≤ _
          rw [e]
          unfold rep Str.length
          simp
          have : sizeLine = 16777216 := sizeLine_eq
          have h5 : a.cps.size * k.toNat ≤ 1000000 := hl2
          rw [Nat.mul_comm]; omega
        · rw [e]; exact ⟨.str _, H, I.tok _, ⟨_, rfl⟩, q⟩
theorem oi_mul : OpI X (binaryOp .Mult) dMul := by
  refine op_mono (op_mulW.or (op_mulS.or op_rep)) fun v u H Q ⟨m, x, y, s, hR, hx, hy, hg⟩ => ?_
  unfold dMul at hg
  split at hg
  · cases hx; cases hy
    split at hg
    · rename_i h
      exact .inl ⟨_, _, rfl, rfl, h, hg.ok hR (.int _)⟩
    · exact hg.elim
  · cases hx; cases hy
    split at hg
    · rename_i h
      exact .inr (.inl ⟨_, _, rfl, rfl, h.1, h.2.1, h.2.2, hg.ok hR (.str _)⟩)
    · exact hg.elim
  · cases hy
    split at hg
    · rename_i a e
      split at hg
      · rename_i h
        obtain ⟨p, vs, rfl, h1, r1⟩ := asL_at hR hx e
        have hk2 : _ ≤ (1000000 : Int) := h.2.2
        refine .inr (.inr ⟨p, _, vs, rfl, rfl, h1, by omega, by omega, by rw [r1.length]; exact lim_le h.2.1, fun l hl => Go.newL hR ?_ hl hg⟩)
        clear hg hk2 h
        generalize Int.toNat _ = n
        induction n with
        | zero => exact .nil
        | succ n ih => rw [List.replicate_succ, List.flatten_cons, List.replicate_succ, List.flatten_cons]; exact r1.append ih
      · exact hg.elim
    · exact hg.elim
  · exact hg.elim
end
end RQ

namespace RQ
open PySem PySem.Spec PyProof.Rows L2

/-! ### data as a whole -/
def toP : Nat → Sto → D → Option PyData
  | 0, _, _ => none
  | n + 1, s, d => match d with
    | .non => some .none
    | .bl b => some (.bool b)
    | .int i => some (.int i)
    | .str x => some (.str x)
    | .tup ds => (allM (toP n s) ds).map .tuple
    | .lst ds => (allM (toP n s) ds).map .list
    | .sls ds => (allM (toP n s) ds).map .list
    | .ref k => match s[k]? with
      | some (.lst ds) => (allM (toP n s) ds).map .list
      | _ => none
    | _ => none
theorem allM_len {α β : Type} {f : α → Option β} : ∀ {xs : List α} {ys : List β}, allM f xs = some ys → ys.length = xs.length
  | [], _, h => by cases h; rfl
  | x :: xs, ys, h => by
    unfold allM at h
    split at h
    · rename_i e; cases h; rw [List.length_cons, List.length_cons, allM_len e]
    · cases h
theorem dp_of {K : PySem.W.Frag} {mg : Str → Option Value} {m : MM} {s : Sto} {H : Hp} (hR : R K mg m s H) : ∀ (n : Nat) (d : D) (v : V) (p : PyData), RV K m (hid m H) d v → toP n s d = some p → Dp K H v p ∧ p.depth ≤ n
  | 0, _, _, _, _, h => by cases h
  | n + 1, d, v, p, r, h => by
    have all : ∀ (ds : List D) (vs : List V) (ps : List PyData), RVs K m (hid m H) ds vs → allM (toP n s) ds = some ps → DpAll K H vs ps ∧ PyData.depthAll ps ≤ n := by
      intro ds
      induction ds with
      | nil => intro vs ps r e; cases r; cases e; exact ⟨.nil, by simp [PyData.depthAll]⟩
      | cons d ds ih =>
        intro vs ps r e
        cases r with
        | cons r1 r2 =>
          unfold allM at e
          split at e
          · rename_i a b e1 e2
            cases e
            obtain ⟨h1, h2⟩ := dp_of hR n d _ _ r1 e1
            obtain ⟨h3, h4⟩ := ih _ _ r2 e2
            exact ⟨.cons h1 h3, by simp only [PyData.depthAll]; omega⟩
          · cases e
    unfold toP at h
    split at h
    · cases h; cases r; exact ⟨.non, by simp [PyData.depth]⟩
    · cases h; cases r; exact ⟨.bl _, by simp [PyData.depth]⟩
    · cases h; cases r; exact ⟨.int _, by simp [PyData.depth]⟩
    · cases h; cases r; exact ⟨.str _, by simp [PyData.depth]⟩
    · rename_i ds
      cases e : allM (toP n s) ds with
      | none => rw [e] at h; cases h
      | some ps =>
        rw [e] at h; cases h
        obtain ⟨a, vs, rfl, h1, h2⟩ := tup_at r
        obtain ⟨h3, h4⟩ := all _ _ _ h2 e
        exact ⟨.tup h1 h3, by simp only [PyData.depth]; omega⟩
    · rename_i ds
      cases e : allM (toP n s) ds with
      | none => rw [e] at h; cases h
      | some ps =>
        rw [e] at h; cases h
        obtain ⟨a, vs, rfl, h1, h2⟩ := asLL_at hR r (show asLL s (.lst ds) = some ds from rfl)
        obtain ⟨h3, h4⟩ := all _ _ _ h2 e
        exact ⟨.lst h1 h3, by simp only [PyData.depth]; omega⟩
    · rename_i ds
      cases e : allM (toP n s) ds with
      | none => rw [e] at h; cases h
      | some ps =>
        rw [e] at h; cases h
        obtain ⟨a, vs, rfl, h1, h2⟩ := asLL_at hR r (show asLL s (.sls ds) = some ds from rfl)
        obtain ⟨h3, h4⟩ := all _ _ _ h2 e
        exact ⟨.lst h1 h3, by simp only [PyData.depth]; omega⟩
    · rename_i k
      split at h
      · rename_i ds hk
        cases e : allM (toP n s) ds with
        | none => rw [e] at h; cases h
        | some ps =>
          rw [e] at h; cases h
          obtain ⟨a, vs, rfl, h1, h2⟩ := asLL_at hR r (show asLL s (.ref k) = some ds by unfold asLL asL; simp only [hk])
          obtain ⟨h3, h4⟩ := all _ _ _ h2 e
          exact ⟨.lst h1 h3, by simp only [PyData.depth]; omega⟩
      · cases h
    · cases h

/-! ### comparisons -/
def dat (s : Sto) (d : D) : Option PyData := toP 12 s d
/-- two scalars of one kind -/
def sEq : D → D → Option Bool
  | .int i, .int j => some (i == j)
  | .str a, .str b => some (a == b)
  | .bl a, .bl b => some (a == b)
  | _, _ => none
def dEqB (s : Sto) (x y : D) : Option Bool := match sEq x y with
  | some b => some b
  | none => match dat s x, dat s y with
    | some p, some q => if p.canLay0 = true ∧ q.canLay0 = true then some (PyData.eqv p q) else none
    | _, _ => none
def dEq (x y : D) : M D := fun s => match dEqB s x y with | some b => .ok (.bl b) s | none => .bad
def dNe (x y : D) : M D := fun s => match dEqB s x y with | some b => .ok (.bl (!b)) s | none => .bad
def cmpI (f : Int → Int → Bool) (x y : D) : M D := fun s => match x, y with
  | .int i, .int j => .ok (.bl (f i j)) s
  | _, _ => .bad
abbrev dLt := cmpI fun i j => decide (i < j)
abbrev dLe := cmpI fun i j => decide (i ≤ j)
abbrev dGt := cmpI fun i j => decide (j < i)
abbrev dGe := cmpI fun i j => decide (j ≤ i)
section
variable {X : Cx}
theorem eqs {K : PySem.W.Frag} {mg : Str → Option Value} {m : MM} {s : Sto} {H : Hp} {x y : D} {v u : V} {b : Bool} (hR : R K mg m s H) (hx : RV K m (hid m H) x v) (hy : RV K m (hid m H) y u) (h : dEqB s x y = some b) :
    (scal v u = true ∧ decide (v = u) = b) ∨ ∃ d e, Dp K H v d ∧ Dp K H u e ∧ SeqAt.shaped d = true ∧ SeqAt.shaped e = true ∧ PyData.eqv d e = b := by
  unfold dEqB at h
  split at h
  · rename_i b' e
    cases h
    unfold sEq at e
    split at e
    · cases e; cases hx; cases hy; exact .inl ⟨rfl, dec_int⟩
    · cases e; cases hx; cases hy; exact .inl ⟨rfl, dec_str⟩
    · cases e; cases hx; cases hy; exact .inl ⟨rfl, dec_bl⟩
    · cases e
  · split at h
    · rename_i p q e1 e2
      split at h
      · rename_i hc
        cases h
        obtain ⟨h1, h2⟩ := dp_of hR 12 x v p hx e1
        obtain ⟨h3, h4⟩ := dp_of hR 12 y u q hy e2
        refine .inr ⟨p, q, h1, h3, ?_, ?_, rfl⟩
        · unfold SeqAt.shaped; rw [hc.1, Bool.true_and]; exact decide_eq_true (by omega)
        · unfold SeqAt.shaped; rw [hc.2, Bool.true_and]; exact decide_eq_true (by omega)
      · cases h
    · cases h
theorem oi_eq (hu : X.A.units + 64 < cLine) : OpI X (compareOp .Eq) dEq := by
  refine op_mono (op_eq.or (op_eqD hu)) fun v u H Q ⟨m, x, y, s, hR, hx, hy, hg⟩ => ?_
  unfold dEq at hg
  split at hg
  · rename_i b e
    rcases eqs hR hx hy e with ⟨h1, rfl⟩ | ⟨d, e', h1, h2, h3, h4, rfl⟩
    · exact .inl ⟨h1, hg.ok hR (.bl _)⟩
    · exact .inr ⟨d, e', h1, h2, h3, h4, hg.ok hR (.bl _)⟩
  · exact hg.elim
theorem oi_ne (hu : X.A.units + 64 < cLine) : OpI X (compareOp .NotEq) dNe := by
  refine op_mono (op_ne.or (op_neD hu)) fun v u H Q ⟨m, x, y, s, hR, hx, hy, hg⟩ => ?_
  unfold dNe at hg
  split at hg
  · rename_i b e
    rcases eqs hR hx hy e with ⟨h1, rfl⟩ | ⟨d, e', h1, h2, h3, h4, rfl⟩
    · exact .inl ⟨h1, hg.ok hR (.bl _)⟩
    · exact .inr ⟨d, e', h1, h2, h3, h4, hg.ok hR (.bl _)⟩
  · exact hg.elim
theorem oi_lt : OpI X (compareOp .Lt) dLt := by
  refine op_mono op_lt fun v u H Q ⟨m, x, y, s, hR, hx, hy, hg⟩ => ?_
  unfold dLt cmpI at hg
  split at hg
  · cases hx; cases hy; exact ⟨_, _, rfl, rfl, hg.ok hR (.bl _)⟩
  · exact hg.elim
theorem oi_le : OpI X (compareOp .LtE) dLe := by
  refine op_mono op_le fun v u H Q ⟨m, x, y, s, hR, hx, hy, hg⟩ => ?_
  unfold dLe cmpI at hg
  split at hg
  · cases hx; cases hy; exact ⟨_, _, rfl, rfl, hg.ok hR (.bl _)⟩
  · exact hg.elim
theorem oi_gt : OpI X (compareOp .Gt) dGt := by
  refine op_mono op_gt fun v u H Q ⟨m, x, y, s, hR, hx, hy, hg⟩ => ?_
  unfold dGt cmpI at hg
  split at hg
  · cases hx; cases hy; exact ⟨_, _, rfl, rfl, hg.ok hR (.bl _)⟩
  · exact hg.elim
theorem oi_ge : OpI X (compareOp .GtE) dGe := by
  refine op_mono op_ge fun v u H Q ⟨m, x, y, s, hR, hx, hy, hg⟩ => ?_
  unfold dGe cmpI at hg
  split at hg
  · cases hx; cases hy; exact ⟨_, _, rfl, rfl, hg.ok hR (.bl _)⟩
  · exact hg.elim
/-- in, not in: a sign in a text; a scalar in a list or tuple of scalars -/
def isIn (s : Sto) (x y : D) : Option Bool := match y with
  | .str z => match x with
    | .str a => match a.cps.toList with | [c] => some (decide (c ∈ z.cps.toList)) | _ => none
    | _ => none
  | .tup ys => match x, allM unS ys with
    | .str a, some zs => some (decide (a ∈ zs))
    | _, _ => none
  | y => match asLL s y with
    | some ys => match x, allM unS ys, allM unI ys with
      | .str a, some zs, _ => some (decide (a ∈ zs))
      | .int i, _, some zs => some (decide (i ∈ zs))
      | _, _, _ => none
    | none => none
def dIn (x y : D) : M D := fun s => match isIn s x y with | some b => .ok (.bl b) s | none => .bad
def dNotIn (x y : D) : M D := fun s => match isIn s x y with | some b => .ok (.bl (!b)) s | none => .bad
theorem inV_str (a : Str) : ∀ zs : List Str, inV (.str a) (zs.map V.str) = decide (a ∈ zs)
  | [] => rfl
  | z :: zs => by
    have ih := inV_str a zs
    unfold inV at ih ⊢
    rw [List.map_cons, List.any_cons, ih]
    have : eqV (.str z) (.str a) = decide (a = z) := by
      show (z == a) = _
      by_cases e : a = z
      · subst e; simp
      · rw [decide_eq_false e]; exact beq_eq_false_iff_ne.mpr (Ne.symm e)
    rw [this]
    simp [Bool.decide_or]
theorem inV_int (a : Int) : ∀ zs : List Int, inV (.int a) (zs.map V.int) = decide (a ∈ zs)
  | [] => rfl
  | z :: zs => by
    have ih := inV_int a zs
    unfold inV at ih ⊢
    rw [List.map_cons, List.any_cons, ih]
    have : eqV (.int z) (.int a) = decide (a = z) := by
      show (z == a) = _
      by_cases e : a = z
      · subst e; simp
      · rw [decide_eq_false e]; exact beq_eq_false_iff_ne.mpr (Ne.symm e)
    rw [this]
    simp [Bool.decide_or]
theorem flat_strs (zs : List Str) : (zs.map V.str).all flatV = true := by
  rw [List.all_map]; exact List.all_eq_true.mpr fun _ _ => rfl
theorem flat_ints (zs : List Int) : (zs.map V.int).all flatV = true := by
  rw [List.all_map]; exact List.all_eq_true.mpr fun _ _ => rfl
theorem ins {K : PySem.W.Frag} {mg : Str → Option Value} {m : MM} {s : Sto} {H : Hp} {x y : D} {v u : V} {b : Bool} (hR : R K mg m s H) (hx : RV K m (hid m H) x v) (hy : RV K m (hid m H) y u) (h : isIn s x y = some b) :
    (∃ (c : Nat) (z : Str), v = .str ⟨#[c]⟩ ∧ u = .str z ∧ b = decide (c ∈ z.cps.toList)) ∨ ∃ p xs, u = .ref p ∧ (SqL K H p xs ∨ SqT K H p xs) ∧ flatV v = true ∧ xs.all flatV = true ∧ b = inV v xs := by
  unfold isIn at h
  split at h
  · split at h
    · split at h
      · rename_i a _ c e
        cases h; cases hx; cases hy
        have ea : a = ⟨#[c]⟩ := by
          cases a with
          | mk q =>
            have : q = #[c] := by apply Array.ext'; simpa using e
            rw [this]
        exact .inl ⟨c, _, by rw [ea], rfl, rfl⟩
      · cases h
    · cases h
  · split at h
    · rename_i ys _ _ a zs e
      cases h; cases hx
      obtain ⟨p, vs, rfl, h1, h2⟩ := tup_at hy
      have e2 := h2.strs (allM_str e)
      subst e2
      exact .inr ⟨p, _, rfl, .inr h1, rfl, flat_strs _, (inV_str _ _).symm⟩
    · cases h
  · split at h
    · rename_i ys e
      obtain ⟨p, vs, rfl, h1, h2⟩ := asLL_at hR hy e
      split at h
      · rename_i zs e'
        cases h; cases hx
        have e2 := h2.strs (allM_str e')
        subst e2
        exact .inr ⟨p, _, rfl, .inl h1, rfl, flat_strs _, (inV_str _ _).symm⟩
      · rename_i zs _ e'
        cases h; cases hx
        have e2 := h2.ints (allM_int e')
        subst e2
        exact .inr ⟨p, _, rfl, .inl h1, rfl, flat_ints _, (inV_int _ _).symm⟩
      · cases h
    · cases h
theorem oi_in : OpI X (compareOp .In) dIn := by
  refine op_mono (op_in_sign.or op_in_seq) fun v u H Q ⟨m, x, y, s, hR, hx, hy, hg⟩ => ?_
  unfold dIn at hg
  split at hg
  · rename_i b e
    rcases ins hR hx hy e with ⟨c, z, rfl, rfl, rfl⟩ | ⟨p, xs, rfl, h1, h2, h3, rfl⟩
    · exact .inl ⟨c, z, rfl, rfl, hg.ok hR (.bl _)⟩
    · exact .inr ⟨p, xs, rfl, h1, h2, h3, hg.ok hR (.bl _)⟩
  · exact hg.elim
theorem oi_notIn : OpI X (compareOp .NotIn) dNotIn := by
  refine op_mono (op_notIn_sign.or op_notIn_seq) fun v u H Q ⟨m, x, y, s, hR, hx, hy, hg⟩ => ?_
  unfold dNotIn at hg
  split at hg
  · rename_i b e
    rcases ins hR hx hy e with ⟨c, z, rfl, rfl, rfl⟩ | ⟨p, xs, rfl, h1, h2, h3, rfl⟩
    · exact .inl ⟨c, z, rfl, rfl, hg.ok hR (.bl _)⟩
    · exact .inr ⟨p, xs, rfl, h1, h2, h3, hg.ok hR (.bl _)⟩
  · exact hg.elim
def isNn : D → Bool | .non => true | _ => false
def dIsN (x y : D) : M D := fun s => match y with | .non => .ok (.bl (isNn x)) s | _ => .bad
def dNotN (x y : D) : M D := fun s => match y with | .non => .ok (.bl (!isNn x)) s | _ => .bad
theorem isNn_iff {K : PySem.W.Frag} {m : MM} {G : Hp} {x : D} {v : V} (h : RV K m G x v) : decide (v = V.non) = isNn x := by
  cases h <;> rfl
theorem oi_is : OpI X (compareOp .Is) dIsN := by
  refine op_mono op_isN fun v u H Q ⟨m, x, y, s, hR, hx, hy, hg⟩ => ?_
  unfold dIsN at hg
  split at hg
  · cases hy; exact ⟨rfl, by rw [isNn_iff hx]; exact hg.ok hR (.bl _)⟩
  · exact hg.elim
theorem oi_isNot : OpI X (compareOp .IsNot) dNotN := by
  refine op_mono op_notN fun v u H Q ⟨m, x, y, s, hR, hx, hy, hg⟩ => ?_
  unfold dNotN at hg
  split at hg
  · cases hy; exact ⟨rfl, by rw [isNn_iff hx]; exact hg.ok hR (.bl _)⟩
  · exact hg.elim

/-! ### subscripts, slices -/
def cutD (xs : List D) (lo hi : Option Int) : List D := (xs.drop (HT.sIx xs.length 0 lo)).take (HT.sIx xs.length xs.length hi - HT.sIx xs.length 0 lo)
theorem RVs.cut {K : PySem.W.Frag} {m : MM} {G : Hp} {ds : List D} {vs : List V} (h : RVs K m G ds vs) (lo hi : Option Int) : RVs K m G (cutD ds lo hi) (cutV vs lo hi) := by
  unfold cutD cutV
  rw [h.length]
  exact (h.drop _).take _
def dIx (x y : D) : M D := fun s => match y with
  | .int i => match x with
    | .str z => if z.length ≤ lim then (match atI z.cps.toList i with | some c => .ok (.str ⟨#[c]⟩) s | none => .bad) else .bad
    | .tup xs => (match atI xs i with | some d => .ok d s | none => .bad)
    | x => match asLL s x with
      | some xs => (match atI xs i with | some d => .ok d s | none => .bad)
      | none => .bad
  | _ => .bad
theorem atI_of {K : PySem.W.Frag} {m : MM} {G : Hp} {ds : List D} {vs : List V} {i : Int} {d : D} (h : RVs K m G ds vs) (e : atI ds i = some d) : ∃ v, atI vs i = some v ∧ RV K m G d v := by
  unfold atI at e ⊢
  rw [h.length]
  cases q : ixN ds.length i with
  | none => rw [q] at e; cases e
  | some j => rw [q] at e; exact h.get e
theorem xi_ix : IxI X dIx := by
  refine ix_mono ix_seq fun v u H Q ⟨m, x, y, s, hR, hx, hy, hg⟩ => ?_
  unfold dIx at hg
  split at hg
  · cases hy
    split at hg
    · cases hx
      split at hg
      · rename_i hl
        split at hg
        · rename_i c e
          exact .inr (.inr ⟨_, _, c, rfl, rfl, lim_le hl, e, hg.ok hR (.str _)⟩)
        · exact hg.elim
      · exact hg.elim
    · split at hg
      · rename_i d e
        obtain ⟨a, vs, rfl, h1, h2⟩ := tup_at hx
        obtain ⟨w, h3, h4⟩ := atI_of h2 e
        exact .inr (.inl ⟨a, vs, _, w, rfl, rfl, h1, h3, hg.ok hR h4⟩)
      · exact hg.elim
    · split at hg
      · rename_i xs el
        split at hg
        · rename_i d e
          obtain ⟨a, vs, rfl, h1, h2⟩ := asLL_at hR hx el
          obtain ⟨w, h3, h4⟩ := atI_of h2 e
          exact .inl ⟨a, vs, _, w, rfl, rfl, h1, h3, hg.ok hR h4⟩
        · exact hg.elim
      · exact hg.elim
  · exact hg.elim
def dSl (x : D) (lo hi : Option Int) : M D := fun s => match x with
  | .str z => if z.length ≤ lim then .ok (.str (cutS z lo hi)) s else .bad
  | x => match asLL s x with
    | some xs => .ok (.lst (cutD xs lo hi)) s
    | none => .bad
theorem si_sl : SlI X dSl := by
  refine sl_mono (sl_str.or sl_list) fun v lo hi H Q ⟨m, x, s, hR, hx, hg⟩ => ?_
  unfold dSl at hg
  split at hg
  · cases hx
    split at hg
    · rename_i hl
      exact .inl ⟨_, rfl, lim_le hl, hg.ok hR (.str _)⟩
    · exact hg.elim
  · split at hg
    · rename_i xs e
      obtain ⟨a, vs, rfl, h1, h2⟩ := asLL_at hR hx e
      exact .inr ⟨a, vs, rfl, h1, fun p hp => Go.newL hR (h2.cut lo hi) hp hg⟩
    · exact hg.elim
end
end RQ

namespace RQ
open PySem PySem.Spec PyProof.Rows L2
section
variable {X : Cx}
/-! ### built-in calls -/
def cLen (xs : List D) : M D := fun s => match xs with
  | [.str z] => if z.length ≤ lim then .ok (.int z.length) s else .bad
  | [.tup ys] => .ok (.int ys.length) s
  | [x] => (match asLL s x with | some ys => .ok (.int ys.length) s | none => .bad)
  | _ => .bad
theorem rv1 {K : PySem.W.Frag} {m : MM} {G : Hp} {x : D} {vs : List V} (h : RVs K m G [x] vs) : ∃ v, vs = [v] ∧ RV K m G x v := by
  cases h with | cons a b => cases b; exact ⟨_, rfl, a⟩
theorem rv2 {K : PySem.W.Frag} {m : MM} {G : Hp} {x y : D} {vs : List V} (h : RVs K m G [x, y] vs) : ∃ v u, vs = [v, u] ∧ RV K m G x v ∧ RV K m G y u := by
  cases h with | cons a b => obtain ⟨u, rfl, q⟩ := rv1 b; exact ⟨_, u, rfl, a, q⟩
theorem ci_len : CallI X (.builtin "len") cLen := by
  refine call_mono (call_len_str.or call_len_seq) fun vs H Q ⟨m, xs, s, hR, hx, hg⟩ => ?_
  unfold cLen at hg
  split at hg
  · split at hg
    · rename_i hl
      obtain ⟨v, rfl, q⟩ := rv1 hx
      cases q
      exact .inl ⟨_, rfl, lim_le hl, hg.ok hR (.int _)⟩
    · exact hg.elim
  · obtain ⟨v, rfl, q⟩ := rv1 hx
    obtain ⟨a, us, rfl, h1, h2⟩ := tup_at q
    exact .inr ⟨a, us, rfl, .inr h1, by rw [h2.length]; exact hg.ok hR (.int _)⟩
  · split at hg
    · rename_i e
      obtain ⟨v, rfl, q⟩ := rv1 hx
      obtain ⟨a, us, rfl, h1, h2⟩ := asLL_at hR q e
      exact .inr ⟨a, us, rfl, .inl h1, by rw [h2.length]; exact hg.ok hR (.int _)⟩
    · exact hg.elim
  · exact hg.elim
def cAbs (xs : List D) : M D := fun s => match xs with | [.int i] => .ok (.int (if i < 0 then -i else i)) s | _ => .bad
theorem ci_abs : CallI X (.builtin "abs") cAbs := by
  refine call_mono call_abs fun vs H Q ⟨m, xs, s, hR, hx, hg⟩ => ?_
  unfold cAbs at hg
  split at hg
  · obtain ⟨v, rfl, q⟩ := rv1 hx
    cases q
    exact ⟨_, rfl, hg.ok hR (.int _)⟩
  · exact hg.elim
def cMax (xs : List D) : M D := fun s => match xs with | [.int i, .int j] => .ok (.int (if j > i then j else i)) s | _ => .bad
def cMin (xs : List D) : M D := fun s => match xs with | [.int i, .int j] => .ok (.int (if j < i then j else i)) s | _ => .bad
theorem ci_max (hc : X.calm = true) : CallI X (.builtin "max") cMax := by
  refine call_mono (call_max2 hc) fun vs H Q ⟨m, xs, s, hR, hx, hg⟩ => ?_
  unfold cMax at hg
  split at hg
  · obtain ⟨v, u, rfl, q, q'⟩ := rv2 hx
    cases q; cases q'
    exact ⟨_, _, rfl, hg.ok hR (.int _)⟩
  · exact hg.elim
theorem ci_min (hc : X.calm = true) : CallI X (.builtin "min") cMin := by
  refine call_mono (call_min2 hc) fun vs H Q ⟨m, xs, s, hR, hx, hg⟩ => ?_
  unfold cMin at hg
  split at hg
  · obtain ⟨v, u, rfl, q, q'⟩ := rv2 hx
    cases q; cases q'
    exact ⟨_, _, rfl, hg.ok hR (.int _)⟩
  · exact hg.elim
def cAll (xs : List D) : M D := fun s => match xs with
  | [x] => (match asLL s x with | some ys => (match allM unB ys with | some bs => .ok (.bl (bs.all id)) s | none => .bad) | none => .bad)
  | _ => .bad
def cAny (xs : List D) : M D := fun s => match xs with
  | [x] => (match asLL s x with | some ys => (match allM unB ys with | some bs => .ok (.bl (bs.any id)) s | none => .bad) | none => .bad)
  | _ => .bad
def cSum (xs : List D) : M D := fun s => match xs with
  | [x] => (match asLL s x with | some ys => (match allM unI ys with | some bs => .ok (.int bs.sum) s | none => .bad) | none => .bad)
  | _ => .bad
theorem ci_all (hc : X.calm = true) : CallI X (.builtin "all") cAll := by
  refine call_mono (cr_all hc) fun vs H Q ⟨m, xs, s, hR, hx, hg⟩ => ?_
  unfold cAll at hg
  split at hg
  · split at hg
    · rename_i e
      split at hg
      · rename_i bs e2
        obtain ⟨v, rfl, q⟩ := rv1 hx
        obtain ⟨a, us, rfl, h1, h2⟩ := asLL_at hR q e
        have e3 := h2.bls (allM_bl e2)
        subst e3
        exact ⟨a, bs, rfl, h1, hg.ok hR (.bl _)⟩
      · exact hg.elim
    · exact hg.elim
  · exact hg.elim
theorem ci_any (hc : X.calm = true) : CallI X (.builtin "any") cAny := by
  refine call_mono (cr_any hc) fun vs H Q ⟨m, xs, s, hR, hx, hg⟩ => ?_
  unfold cAny at hg
  split at hg
  · split at hg
    · rename_i e
      split at hg
      · rename_i bs e2
        obtain ⟨v, rfl, q⟩ := rv1 hx
        obtain ⟨a, us, rfl, h1, h2⟩ := asLL_at hR q e
        have e3 := h2.bls (allM_bl e2)
        subst e3
        exact ⟨a, bs, rfl, h1, hg.ok hR (.bl _)⟩
      · exact hg.elim
    · exact hg.elim
  · exact hg.elim
theorem ci_sum (hc : X.calm = true) : CallI X (.builtin "sum") cSum := by
  refine call_mono (cr_sum hc) fun vs H Q ⟨m, xs, s, hR, hx, hg⟩ => ?_
  unfold cSum at hg
  split at hg
  · split at hg
    · rename_i e
      split at hg
      · rename_i bs e2
        obtain ⟨v, rfl, q⟩ := rv1 hx
        obtain ⟨a, us, rfl, h1, h2⟩ := asLL_at hR q e
        have e3 := h2.ints (allM_int e2)
        subst e3
        exact ⟨a, bs, rfl, h1, hg.ok hR (.int _)⟩
      · exact hg.elim
    · exact hg.elim
  · exact hg.elim
/-- list(xs): a new list, one that never changes, or one of the store -/
def cList (k : List D → M D) (xs : List D) : M D := fun s => match xs with
  | [.tup ys] => k ys s
  | [x] => (match asLL s x with | some ys => k ys s | none => .bad)
  | _ => .bad
theorem ci_listF : CallI X (.type "list") (cList kF) := by
  refine call_mono call_list_of fun vs H Q ⟨m, xs, s, hR, hx, hg⟩ => ?_
  unfold cList at hg
  split at hg
  · obtain ⟨v, rfl, q⟩ := rv1 hx
    obtain ⟨a, us, rfl, h1, h2⟩ := tup_at q
    exact ⟨a, us, rfl, .inr h1, fun l hl => Go.newL hR h2 hl hg⟩
  · split at hg
    · rename_i e
      obtain ⟨v, rfl, q⟩ := rv1 hx
      obtain ⟨a, us, rfl, h1, h2⟩ := asLL_at hR q e
      exact ⟨a, us, rfl, .inl h1, fun l hl => Go.newL hR h2 hl hg⟩
    · exact hg.elim
  · exact hg.elim
theorem ci_listS : CallI X (.type "list") (cList kS) := by
  refine call_mono call_list_of fun vs H Q ⟨m, xs, s, hR, hx, hg⟩ => ?_
  unfold cList at hg
  split at hg
  · obtain ⟨v, rfl, q⟩ := rv1 hx
    obtain ⟨a, us, rfl, h1, h2⟩ := tup_at q
    exact ⟨a, us, rfl, .inr h1, fun l hl => Go.newLS hR h2 hl hg⟩
  · split at hg
    · rename_i e
      obtain ⟨v, rfl, q⟩ := rv1 hx
      obtain ⟨a, us, rfl, h1, h2⟩ := asLL_at hR q e
      exact ⟨a, us, rfl, .inl h1, fun l hl => Go.newLS hR h2 hl hg⟩
    · exact hg.elim
  · exact hg.elim
def cTuple (xs : List D) : M D := fun s => match xs with
  | [.tup ys] => .ok (.tup ys) s
  | [x] => (match asLL s x with | some ys => .ok (.tup ys) s | none => .bad)
  | _ => .bad
theorem ci_tuple : CallI X (.type "tuple") cTuple := by
  refine call_mono call_tuple_of fun vs H Q ⟨m, xs, s, hR, hx, hg⟩ => ?_
  unfold cTuple at hg
  split at hg
  · obtain ⟨v, rfl, q⟩ := rv1 hx
    obtain ⟨a, us, rfl, h1, h2⟩ := tup_at q
    exact ⟨a, us, rfl, .inr ⟨h1, hg.ok hR q⟩⟩
  · split at hg
    · rename_i e
      obtain ⟨v, rfl, q⟩ := rv1 hx
      obtain ⟨a, us, rfl, h1, h2⟩ := asLL_at hR q e
      exact ⟨a, us, rfl, .inl ⟨h1, fun l hl => Go.newT hR h2 hl hg⟩⟩
    · exact hg.elim
  · exact hg.elim
def cStr (xs : List D) : M D := fun s => match xs with
  | [.int i] => if i.natAbs.log2 < 1920 then .ok (.str (Str.ofString (toString i))) s else .bad
  | _ => .bad
theorem ci_str : CallI X (.type "str") cStr := by
  refine call_mono call_str_int fun vs H Q ⟨m, xs, s, hR, hx, hg⟩ => ?_
  unfold cStr at hg
  split at hg
  · split at hg
    · rename_i hl
      obtain ⟨v, rfl, q⟩ := rv1 hx
      cases q
      exact ⟨_, rfl, hl, hg.ok hR (.str _)⟩
    · exact hg.elim
  · exact hg.elim
/-! ### isinstance -/
def tyN (s : Sto) : D → Option String
  | .non => some "NoneType"
  | .bl _ => some "bool"
  | .int _ => some "int"
  | .str _ => some "str"
  | .tup _ => some "tuple"
  | .lst _ => some "list"
  | .sls _ => some "list"
  | .dic _ => some "dict"
  | .ref n => match s[n]? with | some (.lst _) => some "list" | some (.dic _) => some "dict" | _ => none
  | _ => none
def cIsi (xs : List D) : M D := fun s => match xs with
  | [x, .ty c] => (match tyN s x with | some t => (match kitB t c with | some b => .ok (.bl b) s | none => .bad) | none => .bad)
  | _ => .bad
theorem tyx_sqt {K : PySem.W.Frag} {H : Hp} {a : Addr} {vs : List V} (h : SqT K H a vs) : TyX K H (.ref a) (.type "tuple") := by
  rcases h with (h | ⟨o, h⟩) | ⟨o, its, n, h, hc, _⟩
  · exact .base (.tup h)
  · exact .fTuple h
  · exact .kTuple h hc
theorem tyx_sql {K : PySem.W.Frag} {H : Hp} {a : Addr} {vs : List V} (h : SqL K H a vs) : TyX K H (.ref a) (.type "list") := by
  rcases h with (h | ⟨o, h⟩) | ⟨o, its, n, h, hc, _⟩
  · exact .base (.lst h)
  · exact .base (.frz h)
  · exact .kList h hc
theorem tyN_ok {K : PySem.W.Frag} {mg : Str → Option Value} {m : MM} {s : Sto} {H : Hp} {x : D} {v : V} {t : String} (hR : R K mg m s H) (hx : RV K m (hid m H) x v) (h : tyN s x = some t) : TyX K H v (.type t) := by
  unfold tyN at h
  split at h
  · cases h; cases hx; exact .base .non
  · cases h; cases hx; exact .base (.bl _)
  · cases h; cases hx; exact .base (.int _)
  · cases h; cases hx; exact .base (.str _)
  · cases h; obtain ⟨a, vs, rfl, h1, _⟩ := tup_at hx; exact tyx_sqt h1
  · rename_i ds
    cases h; obtain ⟨a, vs, rfl, h1, _⟩ := asLL_at hR hx (show asLL s (.lst ds) = some ds from rfl); exact tyx_sql h1
  · rename_i ds
    cases h; obtain ⟨a, vs, rfl, h1, _⟩ := asLL_at hR hx (show asLL s (.sls ds) = some ds from rfl); exact tyx_sql h1
  · cases h
    cases hx with
    | dic q _ _ =>
      rcases rd_mono (hid_sub _ _) q with q | ⟨o, q⟩
      · exact .base (.dK q)
      · exact .fDict q
  · cases hx with
    | ref q =>
      split at h
      · rename_i e
        cases h
        obtain ⟨vs, h1, _⟩ := hR.obj _ _ _ q e
        exact .base (.lst h1)
      · rename_i e
        cases h
        obtain ⟨vs, h1, _⟩ := hR.obj _ _ _ q e
        exact .base (.dK h1)
      · cases h
  · cases h
theorem ci_isi : CallI X (.builtin "isinstance") cIsi := by
  refine call_mono call_isi fun vs H Q ⟨m, xs, s, hR, hx, hg⟩ => ?_
  unfold cIsi at hg
  split at hg
  · split at hg
    · rename_i t e
      split at hg
      · rename_i b e2
        obtain ⟨v, u, rfl, q, q'⟩ := rv2 hx
        cases q'
        exact ⟨v, _, .type t, _, b, rfl, .ty _, tyN_ok hR q e, kit_ty e2, hg.ok hR (.bl _)⟩
      · exact hg.elim
    · exact hg.elim
  · exact hg.elim
/-! ### repr -/
/-- what a dict of scalars is -/
def toSc : D → Option PyData
  | .non => some .none
  | .bl b => some (.bool b)
  | .int i => some (.int i)
  | .str x => some (.str x)
  | _ => none
def keyP : Key → PyData
  | .inl i => .int i
  | .inr x => .str x
def rdat (s : Sto) : D → Option PyData
  | .dic kvs => (allM toSc (kvs.map (·.2))).map fun ps => .dict ((kvs.map fun kv => keyP kv.1).zip ps)
  | d => dat s d
def cRepr (xs : List D) : M D := fun s => match xs with
  | [x] => (match rdat s x with
    | some p => if p.showable = true ∧ p.shown.length ≤ lim then .ok (.str p.shown) s else .bad
    | none => .bad)
  | _ => .bad
theorem reads_sc {h : Heap} {K : PySem.W.Frag} {m : MM} {G : Hp} : ∀ {ds : List D} {vs : List V} {us : List Value} {ps : List PyData}, RVs K m G ds vs → Vals vs us → allM toSc ds = some ps → ReadsAll h us ps [] ∧ ps.length = us.length
  | [], _, _, _, .nil, .nil, e => by cases e; exact ⟨.nil, rfl⟩
  | d :: ds, _, _, _, .cons r rs, .cons u us, e => by
    unfold allM at e
    split at e
    · rename_i a b e1 e2
      cases e
      obtain ⟨ih, il⟩ := reads_sc (h := h) rs us e2
      refine ⟨?_, by rw [List.length_cons, List.length_cons, il]⟩
      unfold toSc at e1
      split at e1
      · cases e1; cases r; cases u; exact ReadsAll.cons Reads.none ih
      · cases e1; cases r; cases u; exact ReadsAll.cons (Reads.bool _) ih
      · cases e1; cases r; obtain ⟨t, rfl⟩ := u; exact ReadsAll.cons (Reads.int _ t) ih
      · cases e1; cases r; obtain ⟨t, rfl⟩ := u; exact ReadsAll.cons (Reads.str _ t) ih
      · cases e1
    · cases e
end
end RQ

namespace RQ
open PySem PySem.Spec PyProof.Rows L2
section
variable {X : Cx}
theorem dict_pairs {P : Program} {w : World} {h : Heap} : ∀ {es : List DictEntry} {vs : List (Key × Value)} {kws : List (Key × V)}, Pairs (mixKind P w) es vs → KV kws vs →
    ReadsAll h (es.map (·.key)) (kws.map fun kv => keyP kv.1) [] ∧ Vals (kws.map (·.2)) (es.map (·.val))
  | _, _, _, .nil, .nil => ⟨.nil, .nil⟩
  | _, _, _, .cons hk hv r, .cons ⟨q1, q2⟩ qs => by
    obtain ⟨h1, h2⟩ := dict_pairs (h := h) r qs
    refine ⟨?_, .cons (by show L2.RelV _ (DictEntry.val _); rw [hv]; exact q2) h2⟩
    rcases keyIs_shape hk with ⟨i, t, e1, e2⟩ | ⟨x, t, e1, e2⟩
    · rw [List.map_cons, List.map_cons, e2, q1, e1]; exact ReadsAll.cons (Reads.int i t) h1
    · rw [List.map_cons, List.map_cons, e2, q1, e1]; exact ReadsAll.cons (Reads.str x t) h1
theorem depth_sc : ∀ {ds : List D} {ps : List PyData}, allM toSc ds = some ps → ∀ p ∈ ps, p.depth = 0
  | [], _, e, p, hp => by cases e; cases hp
  | d :: ds, ps, e, p, hp => by
    unfold allM at e
    split at e
    · rename_i a b e1 e2
      cases e
      rcases List.mem_cons.mp hp with rfl | hp
      · unfold toSc at e1
        split at e1 <;> cases e1 <;> simp [PyData.depth]
      · exact depth_sc e2 p hp
    · cases e
theorem depthKv_le : ∀ (kvs : List (PyData × PyData)), (∀ kv ∈ kvs, kv.1.depth = 0 ∧ kv.2.depth = 0) → PyData.depthKv kvs = 0
  | [], _ => by simp [PyData.depthKv]
  | (a, b) :: r, h => by
    have h1 := h (a, b) List.mem_cons_self
    have ih := depthKv_le r fun kv hk => h kv (List.mem_cons_of_mem _ hk)
    simp only [PyData.depthKv, ih]
    simp at h1
    omega
theorem reads_of {pins : List (Addr × Obj)} {σ : SV} {H : Hp} {sh : Shared} {m : MM} {s : Sto} {x : D} {v : V} {u : Value} {p : PyData} (I : Inv X pins σ H sh) (hR : R X.K X.mg m s H) (hx : RV X.K m (hid m H) x v) (ru : RelV v u) (h : rdat s x = some p) :
    ∃ as, Reads sh.heap u p as ∧ (p.hasDict = true → sysModules ∉ as) ∧ p.depth ≤ 12 := by
  unfold rdat at h
  split at h
  · rename_i kvs
    cases e : allM toSc (kvs.map (·.2)) with
    | none => rw [e] at h; cases h
    | some ps =>
      rw [e] at h
      cases h
      cases hx with
      | @dic a _ kws q ek rs =>
        cases (show u = Value.ref a from ru)
        have ok : ObjOk X.prog X.w H sh.heap a (.dK kws) := (rd_mono (hid_sub _ _) q).ok I.hok
        obtain ⟨_, hsm, vs, kv, o, es, ep, ho, hex, hd, _, hp, _⟩ := ok
        obtain ⟨h1, h2⟩ := dict_pairs (h := sh.heap) hp kv
        obtain ⟨h3, h4⟩ := reads_sc (h := sh.heap) rs h2 e
        have hl : (kvs.map fun kv => keyP kv.1).length = ps.length := by
          have e1 : kws.length = kvs.length := by simpa using congrArg List.length ek
          have e2 := h2.length
          rw [h4, ← e2]; simp [e1]
        have ekp : (kws.map fun kv => keyP kv.1) = kvs.map fun kv => keyP kv.1 := by
          have : (kws.map (·.1)).map keyP = (kvs.map (·.1)).map keyP := by rw [ek]
          rw [List.map_map, List.map_map] at this; exact this
        refine ⟨_, Reads.dict (as := []) (bs := []) ho hex.1 hd ?_ ?_, fun _ z => ?_, ?_⟩
        · rw [List.map_fst_zip (Nat.le_of_eq hl), ← ekp]; exact h1
        · rw [List.map_snd_zip (Nat.le_of_eq hl.symm)]; exact h3
        · have z' : sysModules = a := by simpa using z
          rw [z'] at hsm
          simp at hsm
        · have hz : PyData.depthKv ((kvs.map fun kv => keyP kv.1).zip ps) = 0 := by
            refine depthKv_le _ fun kv hk => ⟨?_, depth_sc e _ (List.of_mem_zip hk).2⟩
            obtain ⟨k, _, hk2⟩ := List.mem_map.mp (List.of_mem_zip hk).1
            rw [← hk2]
            rcases k with ⟨k1, k2⟩
            cases k1 <;> simp [keyP, PyData.depth]
          simp only [PyData.depth, hz]
          omega
  · obtain ⟨h1, h2⟩ := dp_of hR 12 x v p hx h
    obtain ⟨as, h3⟩ := Dp.reads I p v u h1 ru
    refine ⟨as, h3, PyData.noDict_hsm ?_, h2⟩
    have nd : ∀ (q : PyData) (w : V), Dp X.K H w q → q.hasDict = false := by
      intro q
      exact PyData.rec (motive_1 := fun q => ∀ w, Dp X.K H w q → q.hasDict = false) (motive_2 := fun qs => ∀ ws, DpAll X.K H ws qs → PyData.hasDictAll qs = false) (motive_3 := fun _ => True) (motive_4 := fun _ => True)
        (fun w h => by simp [PyData.hasDict]) (fun b w h => by simp [PyData.hasDict]) (fun b w h => by simp [PyData.hasDict]) (fun b w h => by simp [PyData.hasDict])
        (fun xs ih w h => by cases h with | lst _ ha => simp only [PyData.hasDict]; exact ih _ ha)
        (fun xs ih w h => by cases h with | tup _ ha => simp only [PyData.hasDict]; exact ih _ ha)
        (fun kvs _ w h => by cases h)
        (fun ws h => by simp [PyData.hasDictAll])
        (fun y ys ih1 ih2 ws h => by cases h with | cons a b => simp only [PyData.hasDictAll]; rw [ih1 _ a, ih2 _ b]; rfl)
        True.intro (fun _ _ _ _ => True.intro) (fun _ _ _ _ => True.intro) q
    exact nd p v h1
theorem ci_repr (hgd : X.A.guards = some []) (hu : X.A.units + 64 < cLine) : CallI X (.builtin "repr") cRepr := by
  intro pins s σ H vs us Q I rs ⟨m, xs, t, hR, hx, hg⟩
  unfold cRepr at hg
  split at hg
  · split at hg
    · rename_i p e
      split at hg
      · rename_i hs
        obtain ⟨v, rfl, q⟩ := rv1 hx
        obtain ⟨u, rfl, ru⟩ := Vals.one rs
        obtain ⟨as, h1, h2, h3⟩ := reads_of I hR q ru e
        have fin : Q (.str p.shown) H := hg.ok hR (.str _)
        have hz := lim_le hs.2
        cases h1 with
        | none => exact PySem.P.repr_of_none ⟨.str _, H, I.tok _, ⟨_, rfl⟩, fin⟩
        | bool b => exact PySem.P.repr_of_bool ⟨.str _, H, I.tok _, ⟨_, rfl⟩, by simpa only [PyData.shown] using fin⟩
        | int i tk => exact PySem.P.repr_of_int (by have := hs.1; simp only [PyData.showable] at this; exact of_decide_eq_true this) ⟨.str _, H, I.tok _, ⟨_, rfl⟩, by simpa only [PyData.shown] using fin⟩
        | str x tk => exact PySem.P.repr_of_str ⟨.str _, H, I.tok _, ⟨_, rfl⟩, by simpa only [PyData.shown] using fin⟩ (by simpa only [PyData.shown] using hz)
        | list a b c d =>
          exact PySem.repr_of_reads' (Reads.list a b c d) hs.1 h2 hgd (by omega) (fun _ _ z => z) (fun h' tk n hk => ⟨.str _, H, I.kept hk, ⟨_, rfl⟩, fin⟩) hz
        | tuple a b c d =>
          exact PySem.repr_of_reads' (Reads.tuple a b c d) hs.1 h2 hgd (by omega) (fun _ _ z => z) (fun h' tk n hk => ⟨.str _, H, I.kept hk, ⟨_, rfl⟩, fin⟩) hz
        | dict a b c d e' =>
          exact PySem.repr_of_reads' (Reads.dict a b c d e') hs.1 h2 hgd (by omega) (fun _ _ z => z) (fun h' tk n hk => ⟨.str _, H, I.kept hk, ⟨_, rfl⟩, fin⟩) hz
      · exact hg.elim
    · exact hg.elim
  · exact hg.elim
end
end RQ

namespace RQ
open PySem PySem.Spec PyProof.Rows L2
section
variable {X : Cx} {W : WX}
/-! ### methods -/
def lstAt (s : Sto) : D → Option (Nat × List D)
  | .ref n => match s[n]? with | some (.lst xs) => some (n, xs) | _ => none
  | _ => none
theorem lstAt_at {K : PySem.W.Frag} {mg : Str → Option Value} {m : MM} {s : Sto} {H : Hp} {x : D} {v : V} {n : Nat} {xs : List D} (hR : R K mg m s H) (r : RV K m (hid m H) x v) (h : lstAt s x = some (n, xs)) :
    ∃ a vs, v = .ref a ∧ m.ix[n]? = some a ∧ H a = some (.lst vs) ∧ RVs K m (hid m H) xs vs := by
  unfold lstAt at h
  split at h
  · cases r with
    | ref q =>
      split at h
      · rename_i e
        cases h
        obtain ⟨vs, h1, h2⟩ := hR.obj _ _ _ q e
        exact ⟨_, vs, rfl, q, h1, h2⟩
      · cases h
  · cases h
theorem Go.putL {α β : Type} {W' : WX} {K : PySem.W.Frag} {mg : Str → Option Value} {σ : SV} {rel : Rel α β} {m : MM} {s : Sto} {H : Hp} {n : Nat} {a : Addr} {ds : List D} {vs : List V} {d : α} {v : β} {Q : β → Hp → Prop}
    (hR : R K mg m s H) (ha : m.ix[n]? = some a) (hv : RVs K m (hid m H) ds vs) (hd : ∀ m' G, m.ix <+: m'.ix → Same (hid m H) G → rel m' G d v) (hG : Go W' K mg σ rel m H (.ok d (s.set n (.lst ds))) Q) : Q v (upd H a (.lst vs)) := by
  obtain ⟨e, r⟩ := hR.put (ho := .lst vs) (o := .lst ds) ha fun e => ⟨vs, upd_same, hv.mono e.pre e.same⟩
  exact hG v m _ e r (hd _ _ e.pre e.same)
def mAppend (x : D) (xs : List D) : M D := fun s => match xs, lstAt s x with
  | [y], some (n, ys) => if ys.length < lim then .ok .non (s.set n (.lst (ys ++ [y]))) else .bad
  | _, _ => .bad
theorem mi_append : MtI X "list.append" mAppend := by
  refine mt_mono (show MtR X "list.append" rAppend from mt_append) fun v vs H Q ⟨m, x, xs, s, hR, hx, hxs, hg⟩ => ?_
  unfold mAppend at hg
  split at hg
  · rename_i y n ys e
    split at hg
    · rename_i hl
      obtain ⟨u, rfl, q⟩ := rv1 hxs
      obtain ⟨a, ws, rfl, h1, h2, h3⟩ := lstAt_at hR hx e
      exact ⟨a, ws, u, rfl, rfl, h2, by rw [h3.length]; exact Nat.lt_of_lt_of_le hl (lim_le (Nat.le_refl _)), Go.putL hR h1 (h3.append (.cons q .nil)) (fun _ _ _ _ => .non) hg⟩
    · exact hg.elim
  · exact hg.elim
def mReverse (x : D) (xs : List D) : M D := fun s => match xs, lstAt s x with
  | [], some (n, ys) => .ok .non (s.set n (.lst ys.reverse))
  | _, _ => .bad
theorem mi_reverse : MtI X "list.reverse" mReverse := by
  refine mt_mono (show MtR X "list.reverse" rReverse from mt_reverse) fun v vs H Q ⟨m, x, xs, s, hR, hx, hxs, hg⟩ => ?_
  unfold mReverse at hg
  split at hg
  · rename_i n ys e
    cases hxs
    obtain ⟨a, ws, rfl, h1, h2, h3⟩ := lstAt_at hR hx e
    exact ⟨a, ws, rfl, rfl, h2, Go.putL hR h1 h3.reverse (fun _ _ _ _ => .non) hg⟩
  · exact hg.elim
def mClear (x : D) (xs : List D) : M D := fun s => match xs, lstAt s x with
  | [], some (n, ys) => .ok .non (s.set n (.lst []))
  | _, _ => .bad
theorem mi_clear : MtI X "list.clear" mClear := by
  refine mt_mono (show MtR X "list.clear" rClear from mt_clear) fun v vs H Q ⟨m, x, xs, s, hR, hx, hxs, hg⟩ => ?_
  unfold mClear at hg
  split at hg
  · rename_i n ys e
    cases hxs
    obtain ⟨a, ws, rfl, h1, h2, h3⟩ := lstAt_at hR hx e
    exact ⟨a, ws, rfl, rfl, h2, Go.putL hR h1 .nil (fun _ _ _ _ => .non) hg⟩
  · exact hg.elim
def mJoin (x : D) (xs : List D) : M D := fun s => match x, xs with
  | .str a, [y] => (match (match y with | .tup ys => some ys | y => asLL s y) with
    | some ys => (match allM unS ys with
      | some zs => if (zs.map (·.length)).sum + zs.length * a.length ≤ lim then .ok (.str (Txt.join a zs)) s else .bad
      | none => .bad)
    | none => .bad)
  | _, _ => .bad
theorem mi_join : MtI X "str.join" mJoin := by
  refine mt_mono mt_join fun v vs H Q ⟨m, x, xs, s, hR, hx, hxs, hg⟩ => ?_
  unfold mJoin at hg
  split at hg
  · cases hx
    split at hg
    · rename_i ys e
      split at hg
      · rename_i zs e2
        split at hg
        · rename_i hl
          obtain ⟨u, rfl, q⟩ := rv1 hxs
          split at e
          · cases e
            obtain ⟨p, ws, rfl, h1, h2⟩ := tup_at q
            have e3 := h2.strs (allM_str e2)
            subst e3
            exact ⟨_, p, zs, rfl, rfl, .inr h1, Nat.le_trans hl (by decide), hg.ok hR (.str _)⟩
          · obtain ⟨p, ws, rfl, h1, h2⟩ := asLL_at hR q e
            have e3 := h2.strs (allM_str e2)
            subst e3
            exact ⟨_, p, zs, rfl, rfl, .inl h1, Nat.le_trans hl (by decide), hg.ok hR (.str _)⟩
        · exact hg.elim
      · exact hg.elim
    · exact hg.elim
  · exact hg.elim
def mUpper (x : D) (xs : List D) : M D := fun s => match x, xs with
  | .str a, [] => if a.length ≤ lim then .ok (.str (Txt.upper a)) s else .bad
  | _, _ => .bad
theorem mi_upper : MtI X "str.upper" mUpper := by
  refine mt_mono mt_upper fun v vs H Q ⟨m, x, xs, s, hR, hx, hxs, hg⟩ => ?_
  unfold mUpper at hg
  split at hg
  · cases hx; cases hxs
    split at hg
    · rename_i hl
      exact ⟨_, rfl, rfl, Nat.le_trans hl (by decide), hg.ok hR (.str _)⟩
    · exact hg.elim
  · exact hg.elim
/-! ### what is walked -/
def sto (n : Nat) (l : Nat) : Src := ⟨fun s i => match s[n]? with | some (.lst ds) => some ds[i]? | _ => none, l⟩
def chars (z : Str) : List D := z.cps.toList.map fun c => .str ⟨#[c]⟩
def kSrc (x : D) : M Src := fun s => match x with
  | .str z => .ok (fix (chars z)) s
  | .tup ys => .ok (fix ys) s
  | .lst ys => .ok (fix ys) s
  | .sls ys => .ok (fix ys) s
  | .ref n => (match s[n]? with | some (.lst ys) => .ok (sto n ys.length) s | _ => .bad)
  | _ => .bad
theorem wk_list {K : PySem.W.Frag} {mg : Str → Option Value} {m : MM} {G : Hp} {a : Addr} {ds : List D} {vs : List V} (h : SqL K G a vs) (r : RVs K m G ds vs) : Wk K mg m G (fix ds) (Itl K a) := by
  refine Wk.fixed fun m' s' H' hp sm hR i => ⟨fun d e => ?_, fun hl => ?_⟩
  · have r' := r.mono hp sm
    obtain ⟨v, h1, h2⟩ := r'.get e
    have hq := sql_mono (hid_sub _ _) (sql_mono sm h)
    exact ⟨⟨vs, v, hq, h1⟩, fun x H2 ⟨e2, hx⟩ => by
      subst e2
      have e3 := hx vs hq
      rw [h1] at e3; cases e3
      exact ⟨m', Ext.refl _ _, hR, h2⟩⟩
  · exact ⟨vs, sql_mono (hid_sub _ _) (sql_mono sm h), by rw [r.length]; exact hl⟩
theorem wk_tup {K : PySem.W.Frag} {mg : Str → Option Value} {m : MM} {G : Hp} {a : Addr} {ds : List D} {vs : List V} (h : SqT K G a vs) (r : RVs K m G ds vs) : Wk K mg m G (fix ds) (Itt K a) := by
  refine Wk.fixed fun m' s' H' hp sm hR i => ⟨fun d e => ?_, fun hl => ?_⟩
  · have r' := r.mono hp sm
    obtain ⟨v, h1, h2⟩ := r'.get e
    have hq := sqt_mono (hid_sub _ _) (sqt_mono sm h)
    exact ⟨⟨vs, v, hq, h1⟩, fun x H2 ⟨e2, hx⟩ => by
      subst e2
      have e3 := hx vs hq
      rw [h1] at e3; cases e3
      exact ⟨m', Ext.refl _ _, hR, h2⟩⟩
  · exact ⟨vs, sqt_mono (hid_sub _ _) (sqt_mono sm h), by rw [r.length]; exact hl⟩
theorem wk_sto {K : PySem.W.Frag} {mg : Str → Option Value} {m : MM} {G : Hp} {a : Addr} {n l : Nat} (h : m.ix[n]? = some a) : Wk K mg m G (sto n l) (Itl K a) := by
  intro m' s' H' hp sm hR i
  have ha := pre_get hp h
  show match (match s'[n]? with | some (.lst ds) => some ds[i]? | _ => none : Option (Option D)) with | some (some d) => _ | some none => _ | none => True
  cases e : s'[n]? with
  | none => exact True.intro
  | some o =>
    cases o with
    | dic kvs => exact True.intro
    | ins c fs => exact True.intro
    | lst ds =>
      obtain ⟨vs, h1, h2⟩ := hR.obj n a _ ha e
      have hq : SqL K H' a vs := .inl (.inl h1)
      show match some ds[i]? with | some (some d) => _ | some none => _ | none => True
      cases e2 : ds[i]? with
      | none => exact ⟨vs, hq, by rw [h2.length]; exact List.getElem?_eq_none_iff.mp e2⟩
      | some d =>
        obtain ⟨v, h3, h4⟩ := h2.get e2
        exact ⟨⟨vs, v, hq, h3⟩, fun x H2 ⟨e3, hx⟩ => by
          subst e3
          have e4 := hx vs hq
          rw [h3] at e4; cases e4
          exact ⟨m', Ext.refl _ _, hR, h4⟩⟩
theorem wk_str {K : PySem.W.Frag} {mg : Str → Option Value} {m : MM} {G : Hp} {z : Str} : Wk K mg m G (fix (chars z)) (Its z) := by
  refine Wk.fixed fun m' s' H' hp sm hR i => ⟨fun d e => ?_, fun hl => ?_⟩
  · unfold chars at e
    rw [List.getElem?_map] at e
    cases q : z.cps.toList[i]? with
    | none => rw [q] at e; cases e
    | some c =>
      rw [q] at e
      cases e
      have q' : z.cps[i]? = some c := by simpa using q
      have hl : i < z.cps.size := by
        have := (List.getElem?_eq_some_iff.mp q).1
        simpa using this
      exact ⟨hl, fun x H2 ⟨e2, c', h1, h2⟩ => by
        subst e2 h2
        rw [q'] at h1; cases h1
        exact ⟨m', Ext.refl _ _, hR, .str _⟩⟩
  · unfold chars at hl
    show z.cps.size ≤ i
    simpa using hl
theorem wk_range {K : PySem.W.Frag} {mg : Str → Option Value} {m : MM} {G : Hp} (lo : Int) (n : Nat) : Wk K mg m G (fix ((List.range n).map fun (k : Nat) => .int (lo + k))) (Itr lo n) := by
  refine Wk.fixed fun m' s' H' hp sm hR i => ⟨fun d e => ?_, fun hl => ?_⟩
  · rw [List.getElem?_map] at e
    cases q : (List.range n)[i]? with
    | none => rw [q] at e; cases e
    | some c =>
      rw [q] at e
      cases e
      obtain ⟨h1, h2⟩ := List.getElem?_eq_some_iff.mp q
      simp at h1 h2
      subst h2
      exact ⟨h1, fun x H2 ⟨e2, hx⟩ => by
        subst e2 hx
        exact ⟨m', Ext.refl _ _, hR, .int _⟩⟩
  · show n ≤ i
    simpa using hl
/-- a list, a tuple or a text that is walked -/
theorem pi_seq {tg e : Expr} {te : TE} (he : PE X e te) : PI X tg e (fun σ H Rk => te σ H fun x H1 => (∃ a, x = .ref a ∧ (∃ xs, SqL X.K H1 a xs) ∧ Rk (Itl X.K a) H1) ∨ (∃ a, x = .ref a ∧ (∃ xs, SqT X.K H1 a xs) ∧ Rk (Itt X.K a) H1) ∨ ∃ z, x = .str z ∧ Rk (Its z) H1) := by
  refine ⟨fun pins s σ H Rk I h => thn (he.run pins s σ H _ I h) fun v t ⟨x, H1, J, rx, q⟩ => ?_⟩
  have new : ∀ o : Obj, Inv X pins σ H1 { t with heap := t.heap.push o } := fun o => J.kept (t' := t.toks) fun b u z => Heap.get?_push_of_some _ z
  have ok : ∀ b, b ∈ [t.heap.objs.size] → FpOk X pins H1 b := fun b hb => by
    rw [List.mem_singleton.mp hb]
    exact J.fpOk (Nat.le_refl _) (J.hok.fresh (Nat.le_refl _))
  rcases q with ⟨a, rfl, ⟨xs, hq⟩, qr⟩ | ⟨a, rfl, ⟨xs, hq⟩, qr⟩ | ⟨z, rfl, qr⟩
  · cases rx
    obtain ⟨its, _, pl, _⟩ := J.list hq
    exact wpAny_pyIter_list pl.isList ⟨_, _, _, _, H1, rfl, new _, turn_list a t.heap.objs.size, ⟨_, Heap.get?_push_size _ rfl, rfl, rfl⟩, ok, qr⟩
  · cases rx
    obtain ⟨its, _, pl, _⟩ := J.tuple hq
    exact wpAny_pyIter_tuple (show t.heap.IsTuple a its.toArray from pl) ⟨_, _, _, _, H1, rfl, new _, turn_tuple a t.heap.objs.size, ⟨_, Heap.get?_push_size _ rfl, rfl, rfl⟩, ok, qr⟩
  · obtain ⟨tk, rfl⟩ := rx
    by_cases ha : (z.cps.all (· < 128)) = true
    · exact wpAny_pyIter_ascii ha (pi_one (tk := t.toks) J _ (turn_str _ z tk "str_ascii_iterator" (.inl rfl)) ⟨_, Heap.get?_push_size _ rfl, rfl, rfl⟩ qr)
    · exact wpAny_pyIter_wide (Bool.eq_false_iff.mpr ha) (pi_one (tk := t.toks) J _ (turn_str _ z tk "str_iterator" (.inr rfl)) ⟨_, Heap.get?_push_size _ rfl, rfl, rfl⟩ qr)
variable {tg e a b : Expr} {f g : EV → M D} {fs : EV → M (List D)} {pos : Pos}
def mSrc (f : EV → M D) : EV → M Src := fun σ => bnd (f σ) kSrc
theorem ii_seq (he : IE X W e f) : II X W tg e (mSrc f) := by
  refine ⟨pi_mono (pi_seq he.pe) fun σ H Q ⟨m, σd, s, hR, hS, hG⟩ => ?_⟩
  refine ⟨m, σd, s, hR, hS, (Go.bnd (rel := RV X.K) hG).imp fun x H1 ⟨m1, d, s1, e1, r1, v1, g1⟩ => ?_⟩
  unfold kSrc at g1
  split at g1
  · cases v1; exact .inr (.inr ⟨_, rfl, Go.ok g1 r1 wk_str⟩)
  · cases v1 with | tup q qs => exact .inr (.inl ⟨_, rfl, ⟨_, sqt_mono (hid_sub _ _) q⟩, Go.ok g1 r1 (wk_tup q qs)⟩)
  · cases v1 with | lst q qs => exact .inl ⟨_, rfl, ⟨_, .inl (.inl (hid_sub _ _ _ _ q))⟩, Go.ok g1 r1 (wk_list (.inl (.inl q)) qs)⟩
  · cases v1 with | sls q qs => exact .inl ⟨_, rfl, ⟨_, sql_mono (hid_sub _ _) q⟩, Go.ok g1 r1 (wk_list q qs)⟩
  · cases v1 with
    | ref q =>
      split at g1
      · rename_i e
        obtain ⟨vs, h1, h2⟩ := r1.obj _ _ _ q e
        exact .inl ⟨_, rfl, ⟨vs, .inl (.inl h1)⟩, Go.ok g1 r1 (wk_sto q)⟩
      · exact g1.elim
  · exact g1.elim
def rng (lo hi : Int) : List D := (List.range (hi - lo).toNat).map fun (k : Nat) => .int (lo + k)
def mRng1 (f : EV → M D) : EV → M Src := fun σ => bnd (f σ) fun x => match x with
  | .int j => if -(2 ^ 62) ≤ j ∧ j < 2 ^ 62 then ret (fix (rng 0 j)) else bad
  | _ => bad
def mRng2 (f g : EV → M D) : EV → M Src := fun σ => bnd (f σ) fun x => bnd (g σ) fun y => match x, y with
  | .int i, .int j => if -(2 ^ 62) ≤ i ∧ i < 2 ^ 62 ∧ -(2 ^ 62) ≤ j ∧ j < 2 ^ 62 then ret (fix (rng i j)) else bad
  | _, _ => bad
theorem ii_range1 {p : Pos} (hg : Gl X "range") (hm : X.mg "range" = none) (ha : IE X W a f) (hs : starEach [a] X.env = [(false, eval a X.env)] := by rfl) (hs1 : starEach (a :: []) X.env = (false, eval a X.env) :: starEach [] X.env := by rfl) : II X W tg (.Call (.Name "range" p) [a] [] pos) (mRng1 f) := by
  refine ⟨pi_mono (pi_range1 hg hm (pa_cons ha.pe pa_nil hs1) hs) fun σ H Q ⟨m, σd, s, hR, hS, hG⟩ => ?_⟩
  refine ⟨m, σd, s, hR, hS, (Go.bnd (rel := RV X.K) hG).imp fun x H1 ⟨m1, d, s1, e1, r1, v1, g1⟩ => ?_⟩
  split at g1
  · cases v1
    split at g1
    · rename_i h
      refine ⟨_, rfl, h.1, h.2, ?_⟩
      refine Go.ok g1 r1 ?_
      unfold rng
      rw [Int.sub_zero]
      exact wk_range 0 _
    · exact g1.elim
  · exact g1.elim
theorem ii_range2 {p : Pos} (hg : Gl X "range") (hm : X.mg "range" = none) (ha : IE X W a f) (hb : IE X W b g) (hs : starEach [a, b] X.env = [(false, eval a X.env), (false, eval b X.env)] := by rfl) (hs2 : starEach [b] X.env = [(false, eval b X.env)] := by rfl)
    (h1 : starEach (a :: [b]) X.env = (false, eval a X.env) :: starEach [b] X.env := by rfl) (h2 : starEach (b :: []) X.env = (false, eval b X.env) :: starEach [] X.env := by rfl) : II X W tg (.Call (.Name "range" p) [a, b] [] pos) (mRng2 f g) := by
  refine ⟨pi_mono (pi_range2 hg hm (pa_cons ha.pe (pa_cons hb.pe pa_nil h2) h1) hs hs2) fun σ H Q ⟨m, σd, s, hR, hS, hG⟩ => ?_⟩
  refine ⟨m, σd, s, hR, hS, (Go.bnd (rel := RV X.K) hG).imp fun x H1 ⟨m1, d, s1, e1, r1, v1, g1⟩ => ?_⟩
  refine ⟨m1, σd, s1, r1, hS.mono e1.pre e1.same, (Go.bnd (rel := RV X.K) g1).imp fun y H2 ⟨m2, d2, s2, e2, r2, v2, g2⟩ => ?_⟩
  split at g2
  · cases v1; cases v2
    split at g2
    · rename_i h
      exact ⟨_, _, rfl, ⟨h.1, h.2.1, h.2.2.1, h.2.2.2⟩, Go.ok g2 r2 (wk_range _ _)⟩
    · exact g2.elim
  · exact g2.elim
/-- enumerate of a list -/
def enumD (ds : List D) : List D := ds.mapIdx fun i d => .tup [.int i, d]
def enumS (n l : Nat) : Src := ⟨fun s i => match s[n]? with | some (.lst ds) => some ((ds[i]?).map fun d => .tup [.int i, d]) | _ => none, l⟩
def kEnum (x : D) : M Src := fun s => match x with
  | .lst ys => .ok (fix (enumD ys)) s
  | .sls ys => .ok (fix (enumD ys)) s
  | .ref n => (match s[n]? with | some (.lst ys) => .ok (enumS n ys.length) s | _ => .bad)
  | _ => .bad
def mEnum (f : EV → M D) : EV → M Src := fun σ => bnd (f σ) kEnum
theorem yld_pair {K : PySem.W.Frag} {mg : Str → Option Value} {m : MM} {s : Sto} {H : Hp} {d d' : D} {v v' : V} {T : Addr} (hR : R K mg m s H) (h : RV K m (hid m H) d v) (h' : RV K m (hid m H) d' v') (hT : H T = none) :
    ∃ m2, Ext m H m2 (upd H T (.tup [v, v'])) ∧ R K mg m2 s (upd H T (.tup [v, v'])) ∧ RV K m2 (hid m2 (upd H T (.tup [v, v']))) (.tup [d, d']) (.ref T) := by
  obtain ⟨e, r, hh⟩ := hR.newF (o := .tup [v, v']) hT
  exact ⟨m, e, r, .tup (.inl (.inl hh)) (.cons (h.mono e.pre e.same) (.cons (h'.mono e.pre e.same) .nil))⟩
theorem wk_enum {K : PySem.W.Frag} {mg : Str → Option Value} {m : MM} {G : Hp} {p : Addr} {ds : List D} {vs : List V} (h : SqL K G p vs) (r : RVs K m G ds vs) : Wk K mg m G (fix (enumD ds)) (Ite K p) := by
  refine Wk.fixed fun m' s' H' hp sm hR i => ⟨fun d e => ?_, fun hl => ?_⟩
  · unfold enumD at e
    rw [List.getElem?_mapIdx] at e
    cases q : ds[i]? with
    | none => rw [q] at e; cases e
    | some d0 =>
      rw [q] at e
      cases e
      have r' := r.mono hp sm
      obtain ⟨v, h1, h2⟩ := r'.get q
      have hq := sql_mono (hid_sub _ _) (sql_mono sm h)
      exact ⟨⟨vs, v, hq, h1⟩, fun x H2 ⟨T, y, e1, e2, e3, hx⟩ => by
        subst e1 e3
        have e4 := hx vs hq
        rw [h1] at e4; cases e4
        exact yld_pair hR (.int _) h2 e2⟩
  · refine ⟨vs, sql_mono (hid_sub _ _) (sql_mono sm h), ?_⟩
    rw [r.length]
    simpa [enumD] using hl
theorem wk_enumS {K : PySem.W.Frag} {mg : Str → Option Value} {m : MM} {G : Hp} {p : Addr} {n l : Nat} (h : m.ix[n]? = some p) : Wk K mg m G (enumS n l) (Ite K p) := by
  intro m' s' H' hp sm hR i
  have ha := pre_get hp h
  show match (match s'[n]? with | some (.lst ds) => some ((ds[i]?).map fun d => .tup [.int i, d]) | _ => none : Option (Option D)) with | some (some d) => _ | some none => _ | none => True
  cases e : s'[n]? with
  | none => exact True.intro
  | some o =>
    cases o with
    | dic kvs => exact True.intro
    | ins c fs => exact True.intro
    | lst ds =>
      obtain ⟨vs, h1, h2⟩ := hR.obj n p _ ha e
      have hq : SqL K H' p vs := .inl (.inl h1)
      show match some ((ds[i]?).map fun d => D.tup [.int i, d]) with | some (some d) => _ | some none => _ | none => True
      cases e2 : ds[i]? with
      | none => exact ⟨vs, hq, by rw [h2.length]; exact List.getElem?_eq_none_iff.mp e2⟩
      | some d =>
        obtain ⟨v, h3, h4⟩ := h2.get e2
        exact ⟨⟨vs, v, hq, h3⟩, fun x H2 ⟨T, y, e1, e2, e3, hx⟩ => by
          subst e1 e3
          have e4 := hx vs hq
          rw [h3] at e4; cases e4
          exact yld_pair hR (.int _) h4 e2⟩
theorem ii_enum {p tpos : Pos} {elts : List Expr} {kk : Nat} (hg : Gl X "enumerate") (hm : X.mg "enumerate" = none) (ha : IE X W a f) (hs : starEach [a] X.env = [(false, eval a X.env)] := by rfl) (hs1 : starEach (a :: []) X.env = (false, eval a X.env) :: starEach [] X.env := by rfl) :
    II X W (.Tuple elts kk tpos) (.Call (.Name "enumerate" p) [a] [] pos) (mEnum f) := by
  refine ⟨pi_mono (pi_enum hg hm (pa_cons ha.pe pa_nil hs1) hs) fun σ H Q ⟨m, σd, s, hR, hS, hG⟩ => ?_⟩
  refine ⟨m, σd, s, hR, hS, (Go.bnd (rel := RV X.K) hG).imp fun x H1 ⟨m1, d, s1, e1, r1, v1, g1⟩ => ?_⟩
  unfold kEnum at g1
  split at g1
  · cases v1 with | lst q qs => exact ⟨_, _, rfl, .inl (.inl (hid_sub _ _ _ _ q)), Go.ok g1 r1 (wk_enum (.inl (.inl q)) qs)⟩
  · cases v1 with | sls q qs => exact ⟨_, _, rfl, sql_mono (hid_sub _ _) q, Go.ok g1 r1 (wk_enum q qs)⟩
  · cases v1 with
    | ref q =>
      split at g1
      · rename_i e
        obtain ⟨vs, h1, h2⟩ := r1.obj _ _ _ q e
        exact ⟨_, vs, rfl, .inl (.inl h1), Go.ok g1 r1 (wk_enumS q)⟩
      · exact g1.elim
  · exact g1.elim
/-! ### stores to items -/
def dSetL (o i v : D) : Sto → Option Sto := fun s => match i, lstAt s o with
  | .int k, some (n, xs) => (match ixN xs.length k with | some j => some (s.set n (.lst (xs.set j v))) | none => none)
  | _, _ => none
def sSetIx (f fo fi : EV → M D) : SM := fun σ s => lft (bnd (f σ) (fun x => bnd (fo σ) fun o => bnd (fi σ) fun i => ret (x, o, i)) s) σ fun d s' => match dSetL d.2.1 d.2.2 d.1 s' with | some s2 => .go .nx σ s2 | none => .bad
theorem is_setix {o i : Expr} {p : Pos} {fo fi : EV → M D} (he : IE X W e f) (ho : IE X W o fo) (hi : IE X W i fi)
    (hx : ∀ v, assign (.Subscript o i p) X.env v = (do
      let ov ← holding [v] (eval o X.env)
      let iv ← holding [v, ov] (eval i X.env)
      standAt p
      holding [v, ov, iv] (setItem ov iv v)
      release [v, ov, iv] []) := by intro _; rfl)
    (hs : swapsWithSole [.Subscript o i p] e pos.line X.env = pure false := by rfl) (hw : swappedStores [.Subscript o i p] e X.env = pure none := by rfl)
    (h1 : (assignEach [.Subscript o i p] X.env).map (·.2) = [assign (.Subscript o i p) X.env] := by rfl) : IS X W (.Assign [.Subscript o i p] e pos) (sSetIx f fo fi) := by
  refine ⟨ps_mono (ps_asg he.pe (pg_sub ho.pe hi.pe set_list hx) hs hw h1) fun E σ H ⟨m, σd, s, hR, hS, hG⟩ => ?_⟩
  have hG2 := Go.bnd (rel := RV X.K) (GoS.lft (rel := fun m G (d : D × D × D) (v : V × V × V) => RV X.K m G d.1 v.1 ∧ RV X.K m G d.2.1 v.2.1 ∧ RV X.K m G d.2.2 v.2.2) hS hG)
  refine ⟨m, σd, s, hR, hS, hG2.imp fun v H1 ⟨m1, d, s1, e1, r1, v1, g1⟩ => ?_⟩
  refine ⟨m1, σd, s1, r1, hS.mono e1.pre e1.same, (Go.bnd (rel := RV X.K) g1).imp fun u H2 ⟨m2, d2, s2, e2, r2, v2, g2⟩ => ?_⟩
  refine ⟨m2, σd, s2, r2, hS.mono (e1.pre.trans e2.pre) (e1.same.trans e2.same), (Go.bnd (rel := RV X.K) g2).imp fun w H3 ⟨m3, d3, s3, e3, r3, v3, g3⟩ => ?_⟩
  obtain ⟨m4, dd, s4, e4, r4, ⟨w1, w2, w3⟩, g4⟩ := Go.ok (a := (d, d2, d3)) (b := (v, u, w)) g3 r3 ⟨v1.mono (e2.pre.trans e3.pre) (e2.same.trans e3.same), v2.mono e3.pre e3.same, v3⟩
  split at g4
  · rename_i s5 q
    unfold dSetL at q
    split at q
    · rename_i k n xs e5 e6
      split at q
      · rename_i j e7
        cases q
        rw [e5] at w3
        have w3' : w = .int k := by cases w3; rfl
        obtain ⟨a, ws, rfl, h1, h2, h3⟩ := lstAt_at r4 w2 e6
        obtain ⟨e8, r8⟩ := r4.put (ho := .lst (ws.set j v)) (o := .lst (xs.set j dd.1)) h1 fun e => ⟨_, upd_same, (h3.set w1 j).mono e.pre e.same⟩
        exact ⟨a, ws, k, j, rfl, w3', h2, by rw [h3.length]; exact e7, GoS.at (fl := .nx) (g4.ext e8) r8 ((hS.mono e4.pre e4.same).mono e8.pre e8.same)⟩
      · cases q
    · cases q
  · exact g4.elim
/-- name op= e -/
def sAug (i : Nat) (o : D → D → M D) (f : EV → M D) : SM := fun σ s => match σ[i]? with
  | some (some x) => lft (bnd (f σ) (fun y => nox (o x y)) s) σ fun d s' => .go .nx (σ.set i (some d)) s'
  | _ => .bad
theorem is_aug {i : Nat} {x : Str} {op : Operator} {pos' : Pos} {o : D → D → M D} (hN : X.N.Nodup) (hi : X.N[i]? = some x) (hx : Loc X.env.scope x) (ho : OpI X (inplaceOp op) o) (he : IE X W e f) (hf : X.fn x = true ∨ X.env.scope.names.lookup x = some .local := by first | exact .inl rfl | exact .inr rfl) :
    IS X W (.AugAssign (.Name x pos') op e pos) (sAug i o f) := by
  refine ⟨ps_mono (ps_aug hN hi hx he.pe (show PIp X op (g2 X o) from ho) hf) fun E σ H ⟨m, σd, s, hR, hS, hG⟩ => ?_⟩
  unfold sAug at hG
  split at hG
  · rename_i x0 e0
    obtain ⟨v, h1, h2⟩ := hS.get i x0 e0
    refine ⟨v, h1, m, σd, s, hR, hS, (Go.bnd (rel := RV X.K) (GoS.lft (rel := RV X.K) hS hG)).imp fun y H1 ⟨m1, d, s1, e1, r1, v1, g1⟩ => ?_⟩
    refine ⟨m1, x0, d, s1, r1, h2.mono e1.pre e1.same, v1, g1.nox.imp fun z H2 ⟨m2, d2, s2, e2, r2, v2, g2⟩ => ?_⟩
    exact GoS.at (fl := .nx) g2 r2 ((hS.mono e2.pre e2.same).put v2)
  · exact hG.elim
def dAddI (x y : D) : M D := fun s => match x, y with
  | .int i, .int j => .ok (.int (i + j)) s
  | .str a, .str b => if a.length + b.length ≤ lim then .ok (.str (a ++ b)) s else .bad
  | _, _ => .bad
theorem pi_add : OpI X (inplaceOp .Add) dAddI := by
  refine op_mono (iop_add.or iop_add_str) fun v u H Q ⟨m, x, y, s, hR, hx, hy, hg⟩ => ?_
  unfold dAddI at hg
  split at hg
  · cases hx; cases hy; exact .inl ⟨_, _, rfl, rfl, hg.ok hR (.int _)⟩
  · cases hx; cases hy
    split at hg
    · rename_i h
      exact .inr ⟨_, _, rfl, rfl, lim_le h, hg.ok hR (.str _)⟩
    · exact hg.elim
  · exact hg.elim
theorem pi_sub : OpI X (inplaceOp .Sub) dSub := by
  refine op_mono iop_sub fun v u H Q ⟨m, x, y, s, hR, hx, hy, hg⟩ => ?_
  unfold dSub at hg
  split at hg
  · cases hx; cases hy; exact ⟨_, _, rfl, rfl, hg.ok hR (.int _)⟩
  · exact hg.elim
/-- xs[i] op= e, a list -/
theorem get_list : PGet X (fun o i H Q => ∃ p xs k v, o = .ref p ∧ i = .int k ∧ SqL X.K H p xs ∧ atI xs k = some v ∧ Q v H) := by
  intro pins s σ H o i ov iv Q I ro ri ⟨p, xs, k, v, e1, e2, hq, hv, q⟩
  subst e1 e2
  cases ro
  obtain ⟨t, rfl⟩ := ri
  obtain ⟨its, rv, pl, hz⟩ := I.list hq
  obtain ⟨j, _, hj, hjl, hlo, hhi⟩ := atI_get hv
  have hl := rv.length
  have hs : sizeLine = 16777216 := sizeLine_eq
  have ej : ixN xs.length k = some j ∨ True := .inr True.intro
  unfold atI ixN at hv
  by_cases h0 : 0 ≤ k
  · rw [if_pos h0, if_pos hhi] at hv
    obtain ⟨u, hu, ru⟩ := rv.get (show xs[k.toNat]? = some v from hv)
    exact wpAny_getItem_list pl.isList h0 (by omega) (x := u) (by simpa using hu) ⟨v, H, I, ru, q⟩
  · rw [if_neg h0, if_pos hlo] at hv
    obtain ⟨u, hu, ru⟩ := rv.get (show xs[(k + xs.length).toNat]? = some v from hv)
    exact PySem.wpAny_getItem_list_neg pl.isList (by omega) (by simp; omega) (by omega) (x := u) (by simpa [hl] using hu) ⟨v, H, I, ru, q⟩
def sAugIx (oper : D → D → M D) (fo fi f : EV → M D) : SM := fun σ s => lft (bnd (fo σ) (fun o => bnd (fi σ) fun i => bnd (nox (dIxL o i)) fun x => bnd (f σ) fun y => bnd (nox (oper x y)) fun z => ret (o, i, z)) s) σ fun d s' =>
    match dSetL d.1 d.2.1 d.2.2 s' with | some s2 => .go .nx σ s2 | none => .bad
where dIxL (o i : D) : M D := fun s => match i, asLL s o with
  | .int k, some xs => (match atI xs k with | some d => .ok d s | none => .bad)
  | _, _ => .bad
theorem is_augix {o i : Expr} {op : Operator} {p : Pos} {oper : D → D → M D} {fo fi : EV → M D} (ho : IE X W o fo) (hi : IE X W i fi) (hop : OpI X (inplaceOp op) oper) (he : IE X W e f)
    (ha : ∀ ov iv new, augStore i ov iv new = (do holding [new, ov, iv] (setItem ov iv new); release [new, ov, iv] []; pure .next) := by intros; rfl) : IS X W (.AugAssign (.Subscript o i p) op e pos) (sAugIx oper fo fi f) := by
  refine ⟨ps_mono (ps_augS ho.pe hi.pe get_list he.pe (show PIp X op (g2 X oper) from hop) set_list ha) fun E σ H ⟨m, σd, s, hR, hS, hG⟩ => ?_⟩
  have hG2 := Go.bnd (rel := RV X.K) (GoS.lft (rel := fun m G (d : D × D × D) (v : V × V × V) => RV X.K m G d.1 v.1 ∧ RV X.K m G d.2.1 v.2.1 ∧ RV X.K m G d.2.2 v.2.2) hS hG)
  refine ⟨m, σd, s, hR, hS, hG2.imp fun v H1 ⟨m1, d, s1, e1, r1, v1, g1⟩ => ?_⟩
  refine ⟨m1, σd, s1, r1, hS.mono e1.pre e1.same, (Go.bnd (rel := RV X.K) g1).imp fun u H2 ⟨m2, d2, s2, e2, r2, v2, g2⟩ => ?_⟩
  replace g2 := (Go.bnd (rel := RV X.K) g2).nox
  unfold sAugIx.dIxL at g2
  split at g2
  · rename_i k xs eL
    split at g2
    · rename_i x0 eI
      cases v2
      have v1' := v1.mono e2.pre e2.same
      obtain ⟨pa, ws, rfl, q1, q2⟩ := asLL_at r2 v1' eL
      obtain ⟨xv, q3, q4⟩ := atI_of q2 eI
      obtain ⟨m3, d3, s3, e3, r3, v3, g3⟩ := Go.ok g2 r2 q4
      refine ⟨pa, ws, k, xv, rfl, rfl, q1, q3, m3, σd, s3, r3, hS.mono (e1.pre.trans (e2.pre.trans e3.pre)) (e1.same.trans (e2.same.trans e3.same)), (Go.bnd (rel := RV X.K) g3).imp fun y H4 ⟨m4, d4, s4, e4, r4, v4, g4⟩ => ?_⟩
      refine ⟨m4, d3, d4, s4, r4, v3.mono e4.pre e4.same, v4, (Go.bnd (rel := RV X.K) g4).nox.imp fun z H5 ⟨m5, d5, s5, e5, r5, v5, g5⟩ => ?_⟩
      have ee := e3.trans (e4.trans e5)
      obtain ⟨m6, dd, s6, e6, r6, ⟨w1, w2, w3⟩, g6⟩ := Go.ok (a := (d, D.int k, d5)) (b := (V.ref pa, V.int k, z)) g5 r5 ⟨v1'.mono ee.pre ee.same, .int k, v5⟩
      split at g6
      · rename_i s7 q
        unfold dSetL at q
        split at q
        · rename_i k' n ys e7 e8
          split at q
          · rename_i j e9
            cases q
            rw [e7] at w2
            cases w2
            obtain ⟨a, us, ea, h1, h2, h3⟩ := lstAt_at r6 w1 e8
            obtain ⟨e10, r10⟩ := r6.put (ho := .lst (us.set j z)) (o := .lst (ys.set j dd.2.2)) h1 fun e => ⟨_, upd_same, (h3.set w3 j).mono e.pre e.same⟩
            exact ⟨a, us, _, j, ea, rfl, h2, by rw [h3.length]; exact e9, GoS.at (fl := .nx) (g6.ext e10) r10 ((hS.mono e6.pre e6.same).mono e10.pre e10.same)⟩
          · cases q
        · cases q
      · exact g6.elim
    · exact g2.elim
  · exact g2.elim
end
end RQ

namespace RQ
open PySem PySem.Spec PyProof.Rows L2
section
variable {X : Cx} {W : WX} {pos : Pos} {a b : Expr} {f g : EV → M D}
/-! ### dicts that never change -/
theorem ie_dic0 : IE X W (.Dict [] [] pos) (cst (.dic [])) := by
  refine ⟨pe_mono pe_dnewK fun σ H Q ⟨m, σd, s, hR, hS, hG⟩ => ?_⟩
  intro p hp
  obtain ⟨e, r, hh⟩ := hR.newF (o := .dK []) hp
  exact hG _ m _ e r (.dic (kws := []) (.inl hh) rfl .nil)
def toKey : D → Option Key
  | .int i => some (.inl i)
  | .str x => some (.inr x)
  | _ => none
theorem toKey_v {K : PySem.W.Frag} {m : MM} {G : Hp} {d : D} {v : V} {k : Key} (h : RV K m G d v) (e : toKey d = some k) : v = kV k := by
  unfold toKey at e
  split at e
  · cases e; cases h; rfl
  · cases e; cases h; rfl
  · cases e
def mDic1 (f g : EV → M D) : EV → M D := fun σ => nox (bnd (f σ) fun x => bnd (g σ) fun y => match toKey x with | some k => ret (.dic [(k, y)]) | none => bad)
theorem ie_dic1 (ha : IE X W a f) (hb : IE X W b g) : IE X W (.Dict [some a] [b] pos) (mDic1 f g) := by
  refine ⟨pe_mono (pe_disp (keys := [some a]) (values := [b]) (pps_cons ha.pe hb.pe pps_nil) (by rfl) (by rfl) (fun z => nomatch z) (by show 1 ≤ 15; decide)) fun σ H Q ⟨m, σd, s, hR, hS, hG⟩ => ?_⟩
  intro p hp
  obtain ⟨r0, sm0⟩ := hR.cover (ho := .dK []) hp
  have hpx : p ∉ m.ex := fun z => hR.fresh hp (.inr z)
  have px : m.ix <+: (m.cover p).ix := List.prefix_rfl
  have ex0 : ∀ c ∈ m.ex, upd H p (.dK []) c = H c := fun c hc => upd_ne fun z => hpx (z ▸ hc)
  unfold mDic1 RQ.nox RQ.bnd Res.bnd at hG
  refine ⟨m.cover p, σd, s, r0, hS.mono px sm0, ?_⟩
  cases e1 : f σd s with
  | bad => rw [e1] at hG; exact hG.elim
  | exc c fs s1 => rw [e1] at hG; exact hG.elim
  | ok x s1 =>
    rw [e1] at hG
    intro v m1 H1 ee1 r1 v1
    refine ⟨m1, σd, s1, r1, (hS.mono px sm0).mono ee1.pre ee1.same, ?_⟩
    cases e2 : g σd s1 with
    | bad => simp only [e2] at hG; exact hG.elim
    | exc c fs s2 => simp only [e2] at hG; exact hG.elim
    | ok y s2 =>
      simp only [e2] at hG
      intro u m2 H2 ee2 r2 v2
      cases e3 : toKey x with
      | none => simp only [e3] at hG; exact hG.elim
      | some k =>
        simp only [e3] at hG
        have ee := ee1.trans ee2
        have hv := toKey_v v1 e3
        subst hv
        obtain ⟨ix2, ex2⟩ := m2
        have hex : ex2 = p :: m.ex := ee.exq
        subst hex
        have hp2 : H2 p = some (.dK []) := (ee.keep p List.mem_cons_self).trans upd_same
        refine ⟨hp2, [(k, u)], rfl, by show 1 ≤ 15; decide, ?_⟩
        have hpm : p ∈ (⟨ix2, p :: m.ex⟩ : MM).ex := List.mem_cons_self
        obtain ⟨r3, sm3⟩ := r2.exput (ho := .dK (mergeK [] [(k, u)])) hpm
        obtain ⟨r4, sm4, h4⟩ := r3.uncover upd_same hpx
        have e5 : Ext m H ⟨ix2, m.ex⟩ (upd H2 p (.dK (mergeK [] [(k, u)]))) :=
          ⟨ee.pre, sm0.trans (ee.same.trans (sm3.trans sm4)), rfl, fun c hc => by
            have nc : c ≠ p := fun z => hpx (z ▸ hc)
            rw [upd_ne nc]
            exact (ee.keep c (List.mem_cons_of_mem _ hc)).trans (ex0 c hc)⟩
        have px2 : (⟨ix2, p :: m.ex⟩ : MM).ix <+: (⟨ix2, m.ex⟩ : MM).ix := List.prefix_rfl
        exact hG _ _ _ e5 r4 (.dic (kws := [(k, u)]) (.inl h4) rfl (.cons (v2.mono px2 (sm3.trans sm4)) .nil))
end
end RQ

namespace RQ
open PySem PySem.Spec PyProof.Rows L2
theorem bt_len : bootBuiltins "len" = some (.builtin "len") := by decide +kernel
theorem bt_abs : bootBuiltins "abs" = some (.builtin "abs") := by decide +kernel
theorem bt_max : bootBuiltins "max" = some (.builtin "max") := by decide +kernel
theorem bt_min : bootBuiltins "min" = some (.builtin "min") := by decide +kernel
theorem bt_all : bootBuiltins "all" = some (.builtin "all") := by decide +kernel
theorem bt_any : bootBuiltins "any" = some (.builtin "any") := by decide +kernel
theorem bt_sum : bootBuiltins "sum" = some (.builtin "sum") := by decide +kernel
theorem bt_repr : bootBuiltins "repr" = some (.builtin "repr") := by decide +kernel
theorem bt_isinstance : bootBuiltins "isinstance" = some (.builtin "isinstance") := by decide +kernel
theorem bt_sorted : bootBuiltins "sorted" = some (.builtin "sorted") := by decide +kernel
theorem bt_divmod : bootBuiltins "divmod" = some (.builtin "divmod") := by decide +kernel
theorem bt_int : bootBuiltins "int" = some (.type "int") := by decide +kernel
theorem bt_bool : bootBuiltins "bool" = some (.type "bool") := by decide +kernel
theorem bt_str : bootBuiltins "str" = some (.type "str") := by decide +kernel
theorem bt_list : bootBuiltins "list" = some (.type "list") := by decide +kernel
theorem bt_tuple : bootBuiltins "tuple" = some (.type "tuple") := by decide +kernel
theorem bt_dict : bootBuiltins "dict" = some (.type "dict") := by decide +kernel
/-- the most turns of a while -/
def big : Nat := 1000000000
section
variable {X : Cx} {W : WX} {pos : Pos}
theorem iv (i : Nat) {x : Str} (hN : X.N[i]? = some x := by rfl) (hv : Vis X.env.scope x := by first | exact .inl rfl | exact .inr (.inl rfl) | exact .inr (.inr rfl)) (hd : (x == ("__debug__" : Str)) = false := by decide) (hcd : (x == ("__classdict__" : Str)) = false := by decide) :
    IE X W (.Name x pos) (vGet i) := ie_var hN hv hd hcd
end
end RQ

namespace RQ
open PySem PySem.Spec PyProof.Rows L2
/-- the law's def, called with the script -/
theorem law_i {P : Program} {w : World} {K : PySem.W.Frag} {mg mb : Str → Option Value} {k : Nat} {fa l : Addr} {fd : FuncData} {x : Str} {F : List D → M D} {t : Shared} {vs : List Value} {ns : List Int}
    (KX : K.In t.heap) (gn : t.heap.Ns mainGlobals mg) (bn : t.heap.Ns builtinsNs mb) (bb : ∀ y : Str, y ≠ "__name__" → mb y = bootBuiltins y) (nl : t.heap.NoLimit) (gs : t.gens = #[])
    (hl : t.heap.get? l = some { cls := .type "list", data := .seq vs.toArray }) (hi : IntsAre vs ns) (hz : ns.length ≤ sizeLine) (hr : Room k callerA)
    (G : ∀ base : Heap, FnI P w K mg base k fa fd [x] F) (bd : ∀ (s : Shared) (u : Value), BindsTo s fd ⟨[u], []⟩ [(x, u)])
    (hF : ∃ s', F [.sls (ns.map D.int)] [] = .ok (.bl true) s') :
    codeAny (model P w) callerA (.call (.ref fa) ⟨[.ref l], []⟩) (fun r t' => r = .ok (.ret (.bool true)) ∧ OldK t.heap t'.heap ∧ t'.os = t.os ∧ AllBare t'.gens) t := by
  obtain ⟨s', hF⟩ := hF
  have vi := vals_ints hi
  -- what is tracked: the script, if it is no object of the module
  obtain ⟨H, hO, hS, hok, hA, hK⟩ : ∃ H : Hp, Only H ∧ SqL K H l (ns.map V.int) ∧ HOk P w H t.heap ∧ (∀ b u, H b = some u → b = l) ∧ (∀ u, H l = some u → K.lookup l = none) := by
    cases q : K.lookup l with
    | some o =>
      have e := KX l o q
      rw [hl] at e
      cases e
      exact ⟨fun _ => none, fun _ => .inl rfl, .inr ⟨_, vs.toArray, _, q, rfl, rfl, rfl, by rw [List.size_toArray, hi.length]; exact hz, by simpa using vi⟩, fun _ _ z => (nomatch z), fun _ _ z => (nomatch z), fun _ z => (nomatch z)⟩
    | none =>
      refine ⟨fun b => if b = l then some (.frz { cls := .type "list", data := .seq vs.toArray } (.lst (ns.map V.int))) else none, fun b => ?_, .inl (.inr ⟨_, if_pos rfl⟩), fun b u z => ?_, fun b u z => ?_, fun _ _ => rfl⟩
      · by_cases e : b = l
        · exact .inr ⟨_, _, if_pos e⟩
        · exact .inl (if_neg e)
      · by_cases e : b = l
        · subst e
          have z := (if_pos rfl).symm.trans z
          cases z
          exact ⟨hl, by rw [List.length_map]; exact hz, vs, _, vi, hl⟩
        · have z := (if_neg e).symm.trans z; cases z
      · by_cases e : b = l
        · exact e
        · have z := (if_neg e).symm.trans z; cases z
  have free : ∀ {b : Addr} {o : Obj} {es : Array DictEntry} {n : Nat}, t.heap.get? b = some o → o.data = .dict es n → H b = none := fun {b o es n} e d => by
    cases q : H b with
    | none => rfl
    | some u =>
      have eb := hA b u q
      subst eb
      rw [hl] at e
      cases e
      exact (nomatch d)
  have nsH : ∀ {b : Addr} {f : Str → Option Value}, t.heap.Ns b f → (hidT t.heap H).Ns b f := fun {b f} ⟨o, es, n, e, d, r⟩ => ⟨o, es, n, hidT_get e (free e d), d, r⟩
  have KB : K.In (hidT t.heap H) := fun b o e => hidT_get (KX b o e) (by
    cases q : H b with
    | none => rfl
    | some u =>
      have eb := hA b u q
      subst eb
      rw [hK u q] at e; cases e)
  have md : Mod K mg (hidT t.heap H) := ⟨KB, nsH gn, ⟨mb, nsH bn, bb⟩, let ⟨mc, h1, h2⟩ := nl; ⟨mc, nsH h1, h2⟩⟩
  have en : Env0 P w K mg (hidT t.heap H) callerA [] t H := ⟨rfl, md, fun _ _ e => of_hidT e, Nat.le_of_eq (hidT_size _ _), True.intro, fun _ z => (nomatch z), hok, .of_eq gs⟩
  have m0 : R K mg ⟨[], []⟩ [] H := ⟨rfl, List.nodup_nil, fun n a o e => (by simp at e), fun a z => (nomatch z), fun c C e => PySem.W.mg_of KX gn e⟩
  have h0 : hid ⟨[], []⟩ H = H := by
    funext b
    exact if_neg fun z => z.elim (fun y => nomatch y) fun y => nomatch y
  have rs : RVs K ⟨[], []⟩ (hid ⟨[], []⟩ H) [.sls (ns.map D.int)] [.ref l] := .cons (.sls (by rw [h0]; exact hS) (RVs.map_int ns)) .nil
  refine codeAny_mono ((G (hidT t.heap H)).run callerA [] t H ⟨[.ref l], []⟩ [.ref l] [.ref l] _ ⟨[], []⟩ [] (fun v _ => v = .bl true) (fun _ _ _ => False) hr rfl en (bd t (.ref l)) (.cons rfl .nil) rfl m0 rs ?_) fun r t' hq => ?_
  · rw [hF]
    intro v m' H' _ _ rv
    cases rv
    rfl
  · cases r with
    | error e => obtain ⟨_, _, _, _, _, _, _, _, _, _, _, _, z⟩ := hq; exact z.elim
    | ok fl =>
      cases fl with
      | next => exact hq.elim
      | brk => exact hq.elim
      | cont => exact hq.elim
      | ret u =>
        obtain ⟨v, H', os, bare, un, hok', ru, rfl⟩ := hq
        cases (show u = Value.bool true from ru)
        refine ⟨rfl, OldK.of_keep fun b o e => ?_, os, bare⟩
        rcases hO b with z | ⟨ob, xs, z⟩
        · exact un.keep b o e z (fun y => nomatch y) (fun y => nomatch y)
        · obtain ⟨e1, _⟩ := hok b _ z
          obtain ⟨e2, _⟩ := hok' b _ (un.frzs b ob _ z)
          rw [e1] at e
          cases e
          exact e2
/-- the goal that the head leaves -/
theorem walk_i {l : PySem.W.OpenLaw} {n k : Nat} {q : Program} {loose : List Str} {XP : (Str → Option Value) → Heap → Prop} {YP : World → Heap → Prop} {d : DefRec} {K : Params → PySem.W.Frag} {x : Str} {F : List D → M D}
    (hn : l.most = some n) (hn2 : n ≤ sizeLine) (hdf : d.params.defaults = []) (hr : Room k callerA) (hY : ∀ (w : World) (h : Heap), YP w h → (K w.params).In h)
    (G : ∀ (w : World) (mg : Str → Option Value) (fa : Addr) (h : Heap), (K w.params).In h → h.Ns mainGlobals mg → mg d.name = some (.ref fa) →
      ∃ fd : FuncData, (∀ (s : Shared) (u : Value), BindsTo s fd ⟨[u], []⟩ [(x, u)]) ∧ ∀ base : Heap, FnI l.prog w (K w.params) mg base k fa fd [x] F)
    (hF : ∀ ns : List Int, ns.length ≤ n → ∃ s', F [.sls (ns.map D.int)] [] = .ok (.bl true) s') :
    PySem.W.WalkO q loose XP YP l.row.toRowW d [] (fun f vs => PySem.call f vs) := by
  refine Att.attach_call hn hdf fun w s0 t mg mb fa o pm cd doc a vs ns GG Y _ _ _ hmg ho hi hlen hg => ?_
  obtain ⟨fd, bd, hG⟩ := G w mg fa _ (hY w _ Y) GG.T.g hmg
  exact law_i (hY w _ Y) GG.T.g GG.T.b GG.T.builtins GG.T.nolimit hg ho hi (Nat.le_trans hlen hn2) hr hG bd (hF ns hlen)
end RQ

/-! == and != of lists and tuples in which dicts without items may stand -/
namespace RQ
open PySem PySem.Spec PyProof.Rows L2
def seqD (s : Sto) : D → Option (Bool × List D)
  | .tup xs => some (false, xs)
  | d => (asLL s d).map fun xs => (true, xs)
def isE : D → Bool
  | .dic [] => true
  | _ => false
def allE (E : D → D → Option Bool) : List D → List D → Option Bool
  | x :: xs, y :: ys => match E x y, allE E xs ys with | some a, some b => some (a && b) | _, _ => none
  | _, _ => some true
def seqE (E : D → D → Option Bool) (s : Sto) (x y : D) : Option Bool := match seqD s x, seqD s y with
  | some (true, xs), some (true, ys) => if xs.length = ys.length then allE E xs ys else some false
  | some (false, xs), some (false, ys) => if xs.length = ys.length then allE E xs ys else none
  | _, _ => none
def eqF (s : Sto) : Nat → D → D → Option Bool
  | 0 => fun _ _ => none
  | n + 1 => fun x y => match dEqB s x y with
    | some b => some b
    | none => if isE x = true ∧ isE y = true then some true else seqE (eqF s n) s x y
theorem allE_spec {E : D → D → Option Bool} : ∀ {xs ys : List D} {b : Bool}, xs.length = ys.length → allE E xs ys = some b →
    ∃ e : Nat → Bool, (∀ (j : Nat) (x y : D), xs[j]? = some x → ys[j]? = some y → E x y = some (e j)) ∧ (List.range xs.length).all e = b
  | [], [], b, _, h => by cases h; exact ⟨fun _ => true, fun j x y h => by simp at h, rfl⟩
  | x :: xs, y :: ys, b, hl, h => by
    unfold allE at h
    split at h
    · rename_i a c h1 h2
      cases h
      obtain ⟨e, he, hb⟩ := allE_spec (by simpa using hl) h2
      refine ⟨fun j => match j with | 0 => a | j + 1 => e j, fun j x' y' hx hy => ?_, ?_⟩
      · cases j with
        | zero => simp at hx hy; subst hx; subst hy; exact h1
        | succ j => exact he j x' y' (by simpa using hx) (by simpa using hy)
      · rw [List.length_cons, List.range_succ_eq_map, List.all_cons, List.all_map]
        rw [← hb]; rfl
    · cases h
theorem seqD_at {K : PySem.W.Frag} {mg : Str → Option Value} {m : MM} {s : Sto} {H : Hp} {x : D} {v : V} {k : Bool} {xs : List D} (hR : R K mg m s H) (r : RV K m (hid m H) x v) (h : seqD s x = some (k, xs)) :
    ∃ a vs, v = .ref a ∧ (if k = true then SqL K H a vs else SqT K H a vs) ∧ RVs K m (hid m H) xs vs := by
  unfold seqD at h
  split at h
  · cases h
    obtain ⟨a, vs, e, h1, h2⟩ := tup_at r
    exact ⟨a, vs, e, by simpa using h1, h2⟩
  · cases e : asLL s x with
    | none => rw [e] at h; cases h
    | some ys =>
      rw [e] at h; cases h
      obtain ⟨a, vs, e', h1, h2⟩ := asLL_at hR r e
      exact ⟨a, vs, e', by simpa using h1, h2⟩
theorem vals_at {vs : List V} {is : List Value} (r : Vals vs is) (j : Nat) (h : j < is.length) : ∃ v, vs[j]? = some v ∧ RelV v is[j] := by
  have hj : j < vs.length := by rw [r.length]; exact h
  obtain ⟨u, h1, h2⟩ := r.get (List.getElem?_eq_getElem hj)
  rw [List.getElem?_eq_getElem h] at h1
  cases h1
  exact ⟨vs[j], List.getElem?_eq_getElem hj, h2⟩
section
variable {X : Cx} {pins : List (Addr × Obj)} {σ : SV} {H : Hp} {sh : Shared} {m : MM} {s : Sto}
/-- items: from == of each to the items at one place -/
theorem items_at {n : Nat} {A : Around} (ih : ∀ (x y : D) (v u : V) (v' u' : Value) (b : Bool), RV X.K m (hid m H) x v → RV X.K m (hid m H) y u → RelV v v' → RelV u u' → eqF s n x y = some b → SeqAt.EqAt A sh v' u' b)
    {xs ys : List D} {vs us : List V} {is js : List Value} {e : Nat → Bool} (rx : RVs X.K m (hid m H) xs vs) (ry : RVs X.K m (hid m H) ys us) (ri : Vals vs is) (rj : Vals us js)
    (he : ∀ (j : Nat) (x y : D), xs[j]? = some x → ys[j]? = some y → eqF s n x y = some (e j)) (j : Nat) (h1 : j < is.length) (h2 : j < js.length) : SeqAt.EqAt A sh is[j] js[j] (e j) := by
  obtain ⟨v, hv, q1⟩ := vals_at ri j h1
  obtain ⟨u, hu, q2⟩ := vals_at rj j h2
  obtain ⟨x, hx, r1⟩ := rx.get' hv
  obtain ⟨y, hy, r2⟩ := ry.get' hu
  exact ih x y v u _ _ _ r1 r2 q1 q2 (he j x y hx hy)
theorem data_of {x : D} {v : V} {v' : Value} {p : PyData} (I : Inv X pins σ H sh) (hR : R X.K X.mg m s H) (r : RV X.K m (hid m H) x v) (rv : RelV v v') (h : dat s x = some p) : (∃ as, Reads sh.heap v' p as) ∧ p.depth ≤ 12 := by
  obtain ⟨h1, h2⟩ := dp_of hR 12 x v p r h
  exact ⟨Dp.reads I p v v' h1 rv, h2⟩
theorem eqB_same {x y : D} {v : V} {v' : Value} {b : Bool} (I : Inv X pins σ H sh) (hR : R X.K X.mg m s H) (rx : RV X.K m (hid m H) x v) (ry : RV X.K m (hid m H) y v) (rv : RelV v v') (h : dEqB s x y = some b) : b = true := by
  unfold dEqB at h
  split at h
  · rename_i b' e
    cases h
    unfold sEq at e
    split at e
    · cases e; cases rx; cases ry; exact beq_self_eq_true _
    · cases e; cases rx; cases ry; exact beq_self_eq_true _
    · cases e; cases rx; cases ry; exact beq_self_eq_true _
    · cases e
  · split at h
    · rename_i p q e1 e2
      split at h
      · rename_i hc
        cases h
        obtain ⟨⟨as, h1⟩, _⟩ := data_of I hR rx rv e1
        obtain ⟨⟨bs, h2⟩, _⟩ := data_of I hR ry rv e2
        have e := SeqAt.Reads.unique p q _ _ _ hc.1 h1 h2
        subst e
        exact SeqAt.eqv_refl p hc.1
      · cases h
    · cases h
theorem eqF_same (I : Inv X pins σ H sh) (hR : R X.K X.mg m s H) : ∀ (n : Nat) (x y : D) (v : V) (v' : Value) (b : Bool), RV X.K m (hid m H) x v → RV X.K m (hid m H) y v → RelV v v' → eqF s n x y = some b → b = true
  | 0, _, _, _, _, _, _, _, _, h => by cases h
  | n + 1, x, y, v, v', b, rx, ry, rv, h => by
    unfold eqF at h
    split at h
    · rename_i e
      cases h
      exact eqB_same I hR rx ry rv e
    · split at h
      · cases h; rfl
      · have all : ∀ (xs ys : List D) (vs : List V) (is : List Value) (c : Bool), xs.length = ys.length → RVs X.K m (hid m H) xs vs → RVs X.K m (hid m H) ys vs → Vals vs is → allE (eqF s n) xs ys = some c → c = true := by
          intro xs ys vs is c hl q1 q2 q3 q4
          obtain ⟨e, he, hb⟩ := allE_spec hl q4
          rw [← hb, List.all_eq_true]
          intro j hj
          rw [List.mem_range] at hj
          have hx := List.getElem?_eq_getElem hj
          have hy := List.getElem?_eq_getElem (show j < ys.length by omega)
          obtain ⟨v1, g1, g2⟩ := q1.get hx
          obtain ⟨v2, g3, g4⟩ := q2.get hy
          rw [g1] at g3; cases g3
          obtain ⟨w, g5, g6⟩ := q3.get g1
          exact eqF_same I hR n _ _ _ _ _ g2 g4 g6 (he j _ _ hx hy)
        unfold seqE at h
        split at h
        · rename_i xs ys e1 e2
          split at h
          · rename_i hl
            obtain ⟨a, vs, rfl, h1, h2⟩ := seqD_at hR rx e1
            obtain ⟨a', vs', e, h3, h4⟩ := seqD_at hR ry e2
            cases e
            simp only [if_true] at h1 h3
            have ev := I.list_inj h1 h3
            subst ev
            obtain ⟨is, r1, _, _⟩ := I.list h1
            exact all xs ys vs is _ hl h2 h4 r1 h
          · rename_i hl
            obtain ⟨a, vs, rfl, h1, h2⟩ := seqD_at hR rx e1
            obtain ⟨a', vs', e, h3, h4⟩ := seqD_at hR ry e2
            cases e
            simp only [if_true] at h1 h3
            have ev := I.list_inj h1 h3
            subst ev
            exact absurd (h2.length.symm.trans h4.length) hl
        · rename_i xs ys e1 e2
          split at h
          · rename_i hl
            obtain ⟨a, vs, rfl, h1, h2⟩ := seqD_at hR rx e1
            obtain ⟨a', vs', e, h3, h4⟩ := seqD_at hR ry e2
            cases e
            simp only [Bool.false_eq_true, if_false] at h1 h3
            have ev := I.tuple_inj h1 h3
            subst ev
            obtain ⟨is, r1, _, _⟩ := I.tuple h1
            exact all xs ys vs is _ hl h2 h4 r1 h
          · cases h
        · cases h
/-- a dict without items is so in any model -/
theorem dic0 {a : Addr} {v : V} {x : D} (I : Inv X pins σ H sh) (hx : RV X.K m (hid m H) x v) (h : isE x = true) : ∃ a, v = .ref a ∧ (a == sysModules) = false ∧ ∀ (P : Program) (w : World), sh.heap.DictOf (mixKind P w) a [] := by
  unfold isE at h
  split at h
  · cases hx with
    | @dic a kvs kws q1 q2 q3 =>
      have e : kws = [] := by cases kws with | nil => rfl | cons p ps => cases q2
      subst e
      refine ⟨a, rfl, ?_⟩
      have ho : ObjOk X.prog X.w H sh.heap a (.dK []) := Rd.ok (by
        rcases q1 with q | ⟨o, q⟩
        · exact .inl (hid_sub _ _ _ _ q)
        · exact .inr ⟨o, hid_sub _ _ _ _ q⟩) I.hok
      obtain ⟨_, y, va, ra, da⟩ := ho
      have ev : va = [] := by
        have hl := KV.length ra
        cases va with | nil => rfl | cons p ps => cases hl
      subst ev
      refine ⟨y, fun P w => ?_⟩
      obtain ⟨oa, es, ep, hoa, hc, hda, hka, hpa, hr⟩ := da
      have hes : es = #[] := by
        have hl := hpa.length
        simp at hl
        simpa using hl
      subst hes
      exact ⟨oa, #[], ep, hoa, hc, hda, (fun e he => by simp at he), .nil, hr⟩
  · cases h
theorem eqF_at (I : Inv X pins σ H sh) (hR : R X.K X.mg m s H) : ∀ (n : Nat) (A : Around), A.units + n + 13 < cLine → ∀ (x y : D) (v u : V) (v' u' : Value) (b : Bool), RV X.K m (hid m H) x v → RV X.K m (hid m H) y u → RelV v v' → RelV u u' →
    eqF s n x y = some b → SeqAt.EqAt A sh v' u' b
  | 0, _, _, _, _, _, _, _, _, _, _, _, _, _, h => by cases h
  | n + 1, A, hu, x, y, v, u, v', u', b, rx, ry, rv, ru, h => by
    have h' := h
    unfold eqF at h
    split at h
    · rename_i b' e
      cases h
      unfold dEqB at e
      split at e
      · rename_i b'' e
        cases e
        rename_i e _
        unfold sEq at e
        split at e
        · cases e; cases rx; cases ry; obtain ⟨t, rfl⟩ := rv; obtain ⟨t', rfl⟩ := ru; exact SeqAt.EqAt.int_int _ _ _ _
        · cases e; cases rx; cases ry; obtain ⟨t, rfl⟩ := rv; obtain ⟨t', rfl⟩ := ru; exact SeqAt.EqAt.str_str _ _ _ _
        · cases e; cases rx; cases ry; cases rv; cases ru; exact SeqAt.EqAt.bool_bool _ _
        · cases e
      · split at e
        · rename_i p q e1 e2
          split at e
          · rename_i hc
            cases e
            obtain ⟨⟨as, h1⟩, d1⟩ := data_of I hR rx rv e1
            obtain ⟨⟨bs, h2⟩, _⟩ := data_of I hR ry ru e2
            exact SeqAt.eqAt_reads p q A sh v' u' as bs h1 h2 hc.1 hc.2 (by omega)
          · cases e
        · cases e
    · split at h
      · rename_i he
        cases h
        obtain ⟨a, rfl, ya, da⟩ := dic0 (a := 0) I rx he.1
        obtain ⟨a', rfl, yb, db⟩ := dic0 (a := 0) I ry he.2
        cases rv; cases ru
        by_cases e : a = a'
        · subst e; exact SeqAt.EqAt.same _
        · refine SeqAt.EqAt.of_refs e fun prog w E Q hq => ?_
          exact PySem.W.rcP_dicts (knd := mixKind prog w) (r := true) ya yb (da prog w) (db prog w) (by omega) (fun _ => .nil) E Q hq
      · have ih := eqF_at I hR n A.in1 (by show A.units + 1 + n + 13 < cLine; omega)
        unfold seqE at h
        split at h
        · rename_i xs ys e1 e2
          obtain ⟨a, vs, rfl, h1, h2⟩ := seqD_at hR rx e1
          obtain ⟨a', us, rfl, h3, h4⟩ := seqD_at hR ry e2
          simp only [if_true] at h1 h3
          obtain ⟨is, r1, p1, _⟩ := I.list h1
          obtain ⟨js, r2, p2, _⟩ := I.list h3
          have z1 := r1.length; have z2 := r2.length; have z3 := h2.length; have z4 := h4.length
          by_cases ea : a = a'
          · subst ea
            have hb := eqF_same I hR (n + 1) x y _ v' b rx ry rv h'
            subst hb
            cases rv; cases ru
            exact SeqAt.EqAt.same _
          · cases rv; cases ru
            split at h
            · rename_i hl
              obtain ⟨e, he, hb⟩ := allE_spec hl h
              subst hb
              have key := SeqAt.RcAt.lists (A := A) (s := sh) (e := e) p1.isList p2.isList (by simp only [List.size_toArray]; omega) (by omega) (fun j j1 j2 => by
                have k := items_at ih h2 h4 r1 r2 he j (by simpa using j1) (by simpa using j2)
                simpa using k)
              have ez : is.toArray.size = xs.length := by simp only [List.size_toArray]; omega
              rw [ez] at key
              exact SeqAt.EqAt.of_refs ea key
            · rename_i hl
              cases h
              refine SeqAt.EqAt.of_refs ea (SeqAt.RcAt.lists_lengths p1.isList p2.isList ?_ (by omega))
              simp only [List.size_toArray, bne_iff_ne, ne_eq]
              omega
        · rename_i xs ys e1 e2
          obtain ⟨a, vs, rfl, h1, h2⟩ := seqD_at hR rx e1
          obtain ⟨a', us, rfl, h3, h4⟩ := seqD_at hR ry e2
          simp only [Bool.false_eq_true, if_false] at h1 h3
          obtain ⟨is, r1, p1, _⟩ := I.tuple h1
          obtain ⟨js, r2, p2, _⟩ := I.tuple h3
          have z1 := r1.length; have z2 := r2.length; have z3 := h2.length; have z4 := h4.length
          by_cases ea : a = a'
          · subst ea
            have hb := eqF_same I hR (n + 1) x y _ v' b rx ry rv h'
            subst hb
            cases rv; cases ru
            exact SeqAt.EqAt.same _
          · cases rv; cases ru
            split at h
            · rename_i hl
              obtain ⟨e, he, hb⟩ := allE_spec hl h
              subst hb
              have key := SeqAt.RcAt.tuples (A := A) (s := sh) (e := e) (show sh.heap.IsTuple _ _ from p1) (show sh.heap.IsTuple _ _ from p2) (by omega) (fun j j1 j2 => by
                have k := items_at ih h2 h4 r1 r2 he j (by simpa using j1) (by simpa using j2)
                simpa using k)
              have ez : is.toArray.size = xs.length := by simp only [List.size_toArray]; omega
              have ez2 : js.toArray.size = xs.length := by simp only [List.size_toArray]; omega
              rw [ez, ez2, Nat.min_self, beq_self_eq_true, Bool.and_true] at key
              exact SeqAt.EqAt.of_refs ea key
            · cases h
        · cases h
end
section
variable {X : Cx}
/-- two sequences -/
theorem seqE_at {pins : List (Addr × Obj)} {σ : SV} {H : Hp} {sh : Shared} {m : MM} {s : Sto} (I : Inv X pins σ H sh) (hR : R X.K X.mg m s H) {n : Nat} {A : Around} (hu : A.units + n + 14 < cLine) {x y : D} {v u : V} {v' u' : Value} {b : Bool}
    (rx : RV X.K m (hid m H) x v) (ry : RV X.K m (hid m H) y u) (rv : RelV v v') (ru : RelV u u') (h : seqE (eqF s n) s x y = some b) :
    SeqAt.RcAt A sh v' u' b ∧ SeqAt.RcNeAt A sh v' u' (!b) := by
  have ih := eqF_at I hR n A.in1 (by show A.units + 1 + n + 13 < cLine; omega)
  unfold seqE at h
  split at h
  · rename_i xs ys e1 e2
    obtain ⟨a, vs, rfl, h1, h2⟩ := seqD_at hR rx e1
    obtain ⟨a', us, rfl, h3, h4⟩ := seqD_at hR ry e2
    simp only [if_true] at h1 h3
    obtain ⟨is, r1, p1, _⟩ := I.list h1
    obtain ⟨js, r2, p2, _⟩ := I.list h3
    have z1 := r1.length; have z2 := r2.length; have z3 := h2.length; have z4 := h4.length
    cases rv; cases ru
    split at h
    · rename_i hl
      obtain ⟨e, he, hb⟩ := allE_spec hl h
      subst hb
      have ez : is.toArray.size = xs.length := by simp only [List.size_toArray]; omega
      have hs : is.toArray.size = js.toArray.size := by simp only [List.size_toArray]; omega
      have it : ∀ j (j1 : j < is.toArray.size) (j2 : j < js.toArray.size), SeqAt.EqAt A.in1 sh is.toArray[j] js.toArray[j] (e j) := fun j j1 j2 => by
        have k := items_at ih h2 h4 r1 r2 he j (by simpa using j1) (by simpa using j2)
        simpa using k
      have k1 := SeqAt.RcAt.lists (A := A) (s := sh) (e := e) p1.isList p2.isList hs (by omega) it
      have k2 := SeqAt.RcNeAt.lists (A := A) (s := sh) (e := e) p1.isList p2.isList hs (by omega) it
      rw [ez] at k1 k2
      exact ⟨k1, k2⟩
    · rename_i hl
      cases h
      have hs : (is.toArray.size != js.toArray.size) = true := by
        simp only [List.size_toArray, bne_iff_ne, ne_eq]
        omega
      exact ⟨SeqAt.RcAt.lists_lengths p1.isList p2.isList hs (by omega), SeqAt.RcNeAt.lists_lengths p1.isList p2.isList hs (by omega)⟩
  · rename_i xs ys e1 e2
    obtain ⟨a, vs, rfl, h1, h2⟩ := seqD_at hR rx e1
    obtain ⟨a', us, rfl, h3, h4⟩ := seqD_at hR ry e2
    simp only [Bool.false_eq_true, if_false] at h1 h3
    obtain ⟨is, r1, p1, _⟩ := I.tuple h1
    obtain ⟨js, r2, p2, _⟩ := I.tuple h3
    have z1 := r1.length; have z2 := r2.length; have z3 := h2.length; have z4 := h4.length
    cases rv; cases ru
    split at h
    · rename_i hl
      obtain ⟨e, he, hb⟩ := allE_spec hl h
      subst hb
      have ez : is.toArray.size = xs.length := by simp only [List.size_toArray]; omega
      have ez2 : js.toArray.size = xs.length := by simp only [List.size_toArray]; omega
      have it : ∀ j (j1 : j < is.toArray.size) (j2 : j < js.toArray.size), SeqAt.EqAt A.in1 sh is.toArray[j] js.toArray[j] (e j) := fun j j1 j2 => by
        have k := items_at ih h2 h4 r1 r2 he j (by simpa using j1) (by simpa using j2)
        simpa using k
      have k1 := SeqAt.RcAt.tuples (A := A) (s := sh) (e := e) (show sh.heap.IsTuple _ _ from p1) (show sh.heap.IsTuple _ _ from p2) (by omega) it
      have k2 := SeqAt.RcNeAt.tuples (A := A) (s := sh) (e := e) (show sh.heap.IsTuple _ _ from p1) (show sh.heap.IsTuple _ _ from p2) (by omega) it
      rw [ez, ez2, Nat.min_self, beq_self_eq_true, Bool.and_true] at k1 k2
      exact ⟨k1, k2⟩
    · cases h
  · cases h
def eq2 (s : Sto) (x y : D) : Option Bool := match dEqB s x y with
  | some b => some b
  | none => seqE (eqF s 30) s x y
def dEq2 (x y : D) : M D := fun s => match eq2 s x y with | some b => .ok (.bl b) s | none => .bad
def dNe2 (x y : D) : M D := fun s => match eq2 s x y with | some b => .ok (.bl (!b)) s | none => .bad
theorem oi_eq2 (hu : X.A.units + 64 < cLine) : OpI X (compareOp .Eq) dEq2 := by
  intro pins sh σ H v u v' u' Q I rv ru ⟨m, x, y, s, hR, hx, hy, hg⟩
  unfold dEq2 eq2 at hg
  cases e : dEqB s x y with
  | some b =>
    rw [e] at hg
    exact oi_eq hu pins sh σ H v u v' u' Q I rv ru ⟨m, x, y, s, hR, hx, hy, by unfold dEq; rw [e]; exact hg⟩
  | none =>
    rw [e] at hg
    cases e2 : seqE (eqF s 30) s x y with
    | none => rw [e2] at hg; exact hg.elim
    | some b =>
      rw [e2] at hg
      exact (seqE_at I hR (A := X.A) (by omega) hx hy rv ru e2).1 X.prog X.w _ _ ⟨.bl b, H, I, rfl, hg.ok hR (.bl b)⟩
theorem oi_ne2 (hu : X.A.units + 64 < cLine) : OpI X (compareOp .NotEq) dNe2 := by
  intro pins sh σ H v u v' u' Q I rv ru ⟨m, x, y, s, hR, hx, hy, hg⟩
  unfold dNe2 eq2 at hg
  cases e : dEqB s x y with
  | some b =>
    rw [e] at hg
    exact oi_ne hu pins sh σ H v u v' u' Q I rv ru ⟨m, x, y, s, hR, hx, hy, by unfold dNe; rw [e]; exact hg⟩
  | none =>
    rw [e] at hg
    cases e2 : seqE (eqF s 30) s x y with
    | none => rw [e2] at hg; exact hg.elim
    | some b =>
      rw [e2] at hg
      exact (seqE_at I hR (A := X.A) (by omega) hx hy rv ru e2).2 X.prog X.w _ _ ⟨.bl (!b), H, I, rfl, hg.ok hR (.bl (!b))⟩
end
end RQ

namespace RQ
open PySem PySem.Spec PyProof.Rows L2
section
variable {X : Cx} {W : WX} {a b e : Expr} {f g : EV → M D} {pos : Pos}
/-! ### list(range(..)) -/
def kLR (k : List D → M D) (x : D) : M D := match x with
  | .int j => fun s => if 0 ≤ j ∧ j ≤ lim then k (rng 0 j) s else .bad
  | _ => bad
def mLR (k : List D → M D) (f : EV → M D) : EV → M D := fun σ => bnd (f σ) (kLR k)
/-- what makes a list of data: frozen or in the store -/
def MkL (k : List D → M D) : Prop := ∀ (W' : WX) (K : PySem.W.Frag) (mg : Str → Option Value) (σ : SV) (m : MM) (s : Sto) (H : Hp) (Q : VK) (ds : List D) (vs : List V) (p : Addr),
  R K mg m s H → RVs K m (hid m H) ds vs → H p = none → Go W' K mg σ (RV K) m H (k ds s) Q → Q (.ref p) (upd H p (.lst vs))
theorem mkl_F : MkL kF := fun _ _ _ _ _ _ _ _ _ _ _ hR hv hp hG => Go.newL hR hv hp hG
theorem mkl_S : MkL kS := fun _ _ _ _ _ _ _ _ _ _ _ hR hv hp hG => Go.newLS hR hv hp hG
theorem rvs_rg {K : PySem.W.Frag} {m : MM} {G : Hp} (lo hi : Int) : RVs K m G (rng lo hi) (rgV lo hi) := by
  unfold rng rgV
  generalize List.range (hi - lo).toNat = l
  induction l with
  | nil => exact .nil
  | cons k l ih => exact .cons (.int _) ih
theorem ie_listRg {k : List D → M D} {p p2 pos2 : Pos} (hk : MkL k) (hc : X.calm = true) (hg : Gl X "list") (hm : X.mg "list" = none) (hg2 : Gl X "range") (hm2 : X.mg "range" = none) (ha : IE X W a f)
    (na : starEach [Expr.Call (.Name "range" p2) [a] [] pos2] X.env = (false, eval (Expr.Call (.Name "range" p2) [a] [] pos2) X.env) :: starEach [] X.env := by rfl) (nb : starEach [a] X.env = (false, eval a X.env) :: starEach [] X.env := by rfl) :
    IE X W (.Call (.Name "list" p) [.Call (.Name "range" p2) [a] [] pos2] [] pos) (mLR k f) := by
  refine ⟨pe_mono (pe_listRg hc hg hm (prg_1 hg2 hm2 ha.pe nb) na) fun σ H Q ⟨m, σd, s, hR, hS, hG⟩ => ?_⟩
  refine ⟨m, σd, s, hR, hS, (Go.bnd (rel := RV X.K) hG).imp fun x H1 ⟨m1, d, s1, e1, r1, v1, g1⟩ => ?_⟩
  unfold kLR at g1
  split at g1
  · rename_i j
    cases v1
    split at g1
    · rename_i hj
      have hj' : j ≤ 1000000 := hj.2
      exact ⟨j, rfl, RgOk.of_le (Int.le_refl 0) (by omega) (by decide) hj.1, fun q hq => hk _ _ _ _ _ _ _ _ _ _ _ r1 (rvs_rg 0 j) hq g1⟩
    · exact g1.elim
  · exact g1.elim
/-! ### list.remove of ints -/
theorem unI_map : ∀ {ds : List D} {ns : List Int}, allM unI ds = some ns → ds = ns.map D.int
  | [], ns, h => by cases h; rfl
  | d :: ds, ns, h => by
    unfold allM at h
    split at h
    · rename_i i js h1 h2
      cases h
      cases d <;> simp [unI] at h1
      subst h1
      rw [List.map_cons, ← unI_map h2]
    · cases h
def mRemove (x : D) (xs : List D) : M D := fun s => match xs, lstAt s x with
  | [.int k], some (n, ys) => (match allM unI ys with | some ns => if k ∈ ns then .ok .non (s.set n (.lst ((ns.erase k).map D.int))) else .bad | none => .bad)
  | _, _ => .bad
theorem rvs_ints {K : PySem.W.Frag} {m : MM} {G : Hp} : ∀ (ns : List Int), RVs K m G (ns.map D.int) (ns.map V.int)
  | [] => .nil
  | n :: ns => .cons (.int n) (rvs_ints ns)
theorem mi_remove : MtI X "list.remove" mRemove := by
  refine mt_mono (show MtR X "list.remove" rRemI from mt_remove) fun v vs H Q ⟨m, x, xs, s, hR, hx, hxs, hg⟩ => ?_
  unfold mRemove at hg
  split at hg
  · rename_i k n ys e
    split at hg
    · rename_i ns en
      split at hg
      · rename_i hk
        obtain ⟨u, rfl, q⟩ := rv1 hxs
        cases q
        obtain ⟨a, ws, rfl, h1, h2, h3⟩ := lstAt_at hR hx e
        have ey := unI_map en
        have ew : ws = ns.map V.int := h3.ints ey
        subst ew
        obtain ⟨j, j1, j2, j3, j4⟩ := first_at hk
        rw [← j4] at hg
        exact ⟨a, ns, k, j, rfl, rfl, h2, j2, j3, Go.putL hR h1 (rvs_ints _) (fun _ _ _ _ => .non) hg⟩
      · exact hg.elim
    · exact hg.elim
  · exact hg.elim
/-! ### sorted of pairs of ints -/
def toPr : D → Option (Int × Int)
  | .tup [.int i, .int j] => some (i, j)
  | _ => none
def ofPr (p : Int × Int) : D := .tup [.int p.1, .int p.2]
def leP (p q : Int × Int) : Bool := !SrtO.lexB q p
def srtP (ps : List (Int × Int)) : List (Int × Int) := ps.mergeSort leP
theorem leP_iff {p q : Int × Int} : leP p q = true ↔ p.1 < q.1 ∨ (p.1 = q.1 ∧ p.2 ≤ q.2) := by
  unfold leP
  rw [Bool.not_eq_true', SrtO.lexB_no]
  omega
theorem leP_tr (p q r : Int × Int) (h1 : leP p q = true) (h2 : leP q r = true) : leP p r = true := by
  rw [leP_iff] at *
  omega
theorem leP_tot (p q : Int × Int) : (leP p q || leP q p) = true := by
  rw [Bool.or_eq_true, leP_iff, leP_iff]
  omega
theorem leP_anti {p q : Int × Int} (h1 : leP p q = true) (h2 : leP q p = true) : p = q := by
  rw [leP_iff] at *
  exact Prod.ext (by omega) (by omega)
theorem srt_uniq : ∀ {l l' : List (Int × Int)}, l.Perm l' → l.Pairwise (fun p q => leP p q = true) → l'.Pairwise (fun p q => leP p q = true) → l = l'
  | [], l', h, _, _ => (List.Perm.eq_nil h.symm).symm
  | x :: l, [], h, _, _ => absurd h.length_eq (by simp)
  | x :: l, y :: l', h, h1, h2 => by
    have e : x = y := by
      rcases List.mem_cons.mp (h.mem_iff.mp (List.mem_cons_self (a := x) (l := l))) with e | e
      · exact e
      · rcases List.mem_cons.mp (h.mem_iff.mpr (List.mem_cons_self (a := y) (l := l'))) with e' | e'
        · exact e'.symm
        · exact leP_anti ((List.pairwise_cons.mp h1).1 y e') ((List.pairwise_cons.mp h2).1 x e)
    subst e
    rw [srt_uniq h.cons_inv (List.pairwise_cons.mp h1).2 (List.pairwise_cons.mp h2).2]
theorem srtP_of {l ps : List (Int × Int)} (h : l.Perm ps) (hs : l.Pairwise (fun p q => leP p q = true)) : l = srtP ps :=
  srt_uniq (h.trans (List.mergeSort_perm ps leP).symm) hs (List.pairwise_mergeSort leP_tr leP_tot ps)
def cSortP (k : List D → M D) (xs : List D) : M D := fun s => match xs with
  | [x] => (match asLL s x with
    | some ys => (match allM toPr ys with | some ps => if ps.length ≤ lim then k ((srtP ps).map ofPr) s else .bad | none => .bad)
    | none => .bad)
  | _ => .bad
theorem toPr_map : ∀ {ds : List D} {ps : List (Int × Int)}, allM toPr ds = some ps → ds = ps.map ofPr
  | [], ps, h => by cases h; rfl
  | d :: ds, ps, h => by
    unfold allM at h
    split at h
    · rename_i i js h1 h2
      cases h
      rw [List.map_cons, ← toPr_map h2]
      congr 1
      unfold toPr at h1
      split at h1
      · cases h1; rfl
      · cases h1
    · cases h
/-- sorted(xs) of pairs of ints, wherever they lie -/
theorem cr_srt : CallR X (.builtin "sorted") (fun vs H Q => ∃ (at' : Addr) (ys : List V) (kf : V → Int × Int), vs = [V.ref at'] ∧ SqL X.K H at' ys ∧ (∀ y ∈ ys, ∃ t, y = V.ref t ∧ SqT X.K H t [.int (kf y).1, .int (kf y).2]) ∧
    ∀ zs p, zs.Perm ys → zs.Pairwise (fun y z => leP (kf y) (kf z) = true) → H p = none → Q (.ref p) (upd H p (.lst zs))) := by
  rintro pins sh σ H vs us Q I hus ⟨at', ys, kf, rfl, hl, hall, hq⟩
  obtain ⟨is, hv, pl, hz⟩ := I.list hl
  obtain ⟨u, rfl, hu⟩ := vals1 hus
  cases (show u = Value.ref at' from hu)
  obtain ⟨q1, q2⟩ := refs_back hv fun y hy => (hall y hy).imp fun t h => h.1
  refine SrtO.sorted_pairsO (k := fun w => kf (backV w)) pl.isList (by rw [← hv.length]; exact hz) (fun w hw => ?_) fun h' d out o1 o2 kp hd hn => ?_
  · obtain ⟨t, rfl⟩ := q2 w hw
    have hm : V.ref t ∈ ys := q1 ▸ List.mem_map.mpr ⟨_, hw, rfl⟩
    obtain ⟨t', et, ht⟩ := hall _ hm
    cases et
    obtain ⟨js, jv, ⟨ob, g1, g2, nn, g3⟩, _⟩ := I.tuple ht
    obtain ⟨w1, w2, rfl, ⟨t1, rfl⟩, ⟨t2, rfl⟩⟩ := vals2 jv
    exact ⟨t, ob, t1, t2, nn, rfl, g1, g2, g3⟩
  · have all' : ∀ w ∈ out, ∃ t, w = Value.ref t := fun w hw => q2 w (o2.perm.mem_iff.mp hw)
    have st : SrtO.Stb (ltP kf) (out.map backV) ys := q1 ▸ SrtO.Stb.map (ltP_swo kf) backV o2
    obtain ⟨nn, hn⟩ := hn
    refine ⟨.ref d, upd H d (.lst (out.map backV)), I.laid (t' := sh.toks) kp hd ⟨by rw [st.len]; exact hz, out, nn, vals_back all', hn⟩, rfl, ?_⟩
    refine hq _ d st.perm ?_ (I.hok.fresh hd)
    have so : SrtO.Srtd (ltP kf) (out.map backV) := SrtO.srtd_map o1
    exact List.Pairwise.imp (fun {y z} h => by
      unfold leP
      rw [Bool.not_eq_true']
      exact h) so
theorem ci_sortP {k : List D → M D} (hk : MkL k) : CallI X (.builtin "sorted") (cSortP k) := by
  intro pins sh σ H vs us Q I hus ⟨m, xs, s, hR, hx, hg⟩
  refine cr_srt pins sh σ H vs us Q I hus ?_
  unfold cSortP at hg
  split at hg
  · rename_i x
    split at hg
    · rename_i ds ed
      split at hg
      · rename_i ps ep
        split at hg
        · rename_i hl
          obtain ⟨v, rfl, q⟩ := rv1 hx
          obtain ⟨a, ys, rfl, h1, h2⟩ := asLL_at hR q ed
          have ed' := toPr_map ep
          subst ed'
          have look : ∀ (ps : List (Int × Int)) (ys : List V), RVs X.K m (hid m H) (ps.map ofPr) ys → ∀ y ∈ ys, ∃ (t : Addr) (p : Int × Int), y = .ref t ∧ SqT X.K (hid m H) t [.int p.1, .int p.2] := by
            intro ps
            induction ps with
            | nil => intro ys r y hy; cases r; cases hy
            | cons p ps ih =>
              intro ys r y hy
              cases r with
              | cons r1 r2 =>
                rcases List.mem_cons.mp hy with e | e
                · subst e
                  cases r1 with
                  | tup w1 w2 =>
                    obtain ⟨v1, v2, rfl, c1, c2⟩ := rv2 w2
                    cases c1; cases c2
                    exact ⟨_, p, rfl, w1⟩
                · exact ih _ r2 y e
          have pick : ∀ y : V, ∃ p : Int × Int, (∃ (t : Addr) (q : Int × Int), y = V.ref t ∧ SqT X.K H t [.int q.1, .int q.2]) → ∃ t, y = V.ref t ∧ SqT X.K H t [.int p.1, .int p.2] := fun y => by
            by_cases h : ∃ (t : Addr) (q : Int × Int), y = V.ref t ∧ SqT X.K H t [.int q.1, .int q.2]
            · obtain ⟨t, q, h1, h2⟩ := h
              exact ⟨q, fun _ => ⟨t, h1, h2⟩⟩
            · exact ⟨(0, 0), fun z => absurd z h⟩
          let kf : V → Int × Int := fun y => Classical.choose (pick y)
          have kfs : ∀ y, (∃ (t : Addr) (q : Int × Int), y = V.ref t ∧ SqT X.K H t [.int q.1, .int q.2]) → ∃ t, y = V.ref t ∧ SqT X.K H t [.int (kf y).1, .int (kf y).2] := fun y => Classical.choose_spec (pick y)
          have hall : ∀ y ∈ ys, ∃ t, y = V.ref t ∧ SqT X.K H t [.int (kf y).1, .int (kf y).2] := fun y hy => by
            obtain ⟨t, p, e1, e2⟩ := look ps ys h2 y hy
            exact kfs y ⟨t, p, e1, sqt_mono (hid_sub _ _) e2⟩
          have same : ∀ (ps : List (Int × Int)) (ys : List V), RVs X.K m (hid m H) (ps.map ofPr) ys → ys.map kf = ps := by
            intro ps
            induction ps with
            | nil => intro ys r; cases r; rfl
            | cons p ps ih =>
              intro ys r
              cases r with
              | cons r1 r2 =>
                rw [List.map_cons, ih _ r2]
                congr 1
                cases r1 with
                | tup w1 w2 =>
                  obtain ⟨v1, v2, rfl, c1, c2⟩ := rv2 w2
                  cases c1; cases c2
                  have w1' := sqt_mono (hid_sub _ _) w1
                  obtain ⟨t, e1, e2⟩ := kfs _ ⟨_, p, rfl, w1'⟩
                  cases e1
                  have e3 := I.tuple_inj e2 w1'
                  simp only [List.cons.injEq, V.int.injEq, and_true] at e3
                  exact Prod.ext e3.1 e3.2
          have back : ∀ (zs : List V), (∀ z ∈ zs, z ∈ ys) → RVs X.K m (hid m H) ((zs.map kf).map ofPr) zs := by
            intro zs
            induction zs with
            | nil => intro _; exact .nil
            | cons z zs ih =>
              intro hz
              refine .cons ?_ (ih fun z' hz' => hz z' (List.mem_cons_of_mem _ hz'))
              obtain ⟨t, p, e1, e2⟩ := look ps ys h2 z (hz z List.mem_cons_self)
              subst e1
              obtain ⟨t', e3, e4⟩ := kfs _ ⟨t, p, rfl, sqt_mono (hid_sub _ _) e2⟩
              cases e3
              have e5 := I.tuple_inj e4 (sqt_mono (hid_sub _ _) e2)
              rw [← e5] at e2
              exact .tup e2 (.cons (.int _) (.cons (.int _) .nil))
          refine ⟨a, ys, kf, rfl, h1, hall, fun zs p hp hs hn => ?_⟩
          have e : zs.map kf = srtP ps := srtP_of (by rw [← same ps ys h2]; exact hp.map kf) (by rw [List.pairwise_map]; exact hs)
          refine hk _ _ _ _ _ _ _ _ _ _ p hR ?_ hn hg
          rw [← e]
          exact back zs fun z hz => hp.mem_iff.mp hz
        · exact hg.elim
      · exact hg.elim
    · exact hg.elim
  · exact hg.elim
end
end RQ

/-! own classes: instances are things of the store -/
namespace RQ
open PySem PySem.Spec PyProof.Rows L2

/-- a def called with positional values -/
def FnJ (P : Program) (w : World) (K : PySem.W.Frag) (mg : Str → Option Value) (base : Heap) (k : Nat) (f : Addr) (F : List D → M D) : Prop :=
  ∀ (A : Around) (outer : List Env) (s : Shared) (H : Hp) (us : List Value) (vs : List V) (ds : List D) (m : MM) (t : Sto) (Q : VK) (E : XK),
    Room k A → A.guards = some [] → Env0 P w K mg base A outer s H → Vals vs us → R K mg m t H → RVs K m (hid m H) ds vs → Go (WE E) K mg [] (RV K) m H (F ds t) Q →
    codeAny (model P w) A (.call (.ref f) ⟨us, []⟩) (CR (L2.CX P w) outer P w H s Q E) s
/-- the number of arguments looked at -/
def arN (n : Nat) (F : List D → M D) : List D → M D := fun xs s => if xs.length = n then F xs s else .bad
section
variable {P : Program} {w : World} {K : PySem.W.Frag} {mg : Str → Option Value} {base : Heap} {k : Nat} {f : Addr} {fd : FuncData} {ps : List Str} {F : List D → M D}
theorem FnI.j {n : Nat} (h : FnI P w K mg base k f fd ps F) (hb : Binds K fd ps []) (hn : ps.length = n := by rfl) : FnJ P w K mg base k f (arN n F) := by
  subst hn
  intro A outer s H us vs ds m t Q E hr hgd e0 rv hR hV hG
  unfold arN at hG
  split at hG
  · rename_i hl
    have KX : K.In s.heap := e0.mod.kin.keeps fun b o q => (e0.bs b o q).1
    have hv : vs.length = ps.length := hV.length.trans hl
    have b := hb s us KX (by rw [List.append_nil, ← rv.length]; exact hv)
    rw [List.append_nil] at b
    exact h.run A outer s H ⟨us, []⟩ us vs ds m t Q E hr hgd e0 b rv hv hR hV hG
  · exact hG.elim
theorem FnJ.mono {j : Nat} (h : FnJ P w K mg base j f F) (hj : j ≤ k) : FnJ P w K mg base k f F :=
  fun A outer s H us vs ds m t Q E hr => h A outer s H us vs ds m t Q E (hr.mono hj)
end
section
variable {X : Cx} {W : WX} {k : Nat} {f C : Addr} {F : List D → M D}
theorem Go.we {pins : List (Addr × Obj)} {σ : SV} {H : Hp} {Q : VK} {m : MM} {r : Res D} (hG : Go W X.K X.mg σ (RV X.K) m H r Q) : Go (WE fun c d H => W c d σ H) X.K X.mg [] (RV X.K) m H r Q := by
  cases r with
  | ok d s' => exact hG
  | exc c fs s' => exact hG
  | bad => exact hG
theorem callJ {pins : List (Addr × Obj)} {σ : SV} {H : Hp} {s : Shared} {Q : VK} {us : List Value} {vs : List V} {xs : List D} {m : MM} {t : Sto} (G : FnJ X.prog X.w X.K X.mg X.base k f F) (hr : Room k X.A) (hgd : X.A.guards = some []) (tk : Takes X W)
    (I : Inv X pins σ H s) (rv : Vals vs us) (hR : R X.K X.mg m t H) (hV : RVs X.K m (hid m H) xs vs) (hG : Go W X.K X.mg σ (RV X.K) m H (F xs t) Q) :
    wpAny (model X.prog X.w) X.A (call (.ref f) us) (EP X pins σ Q) X.xe s := by
  refine wpAny_call (codeAny_mono (G X.A X.stack s H us vs xs m t Q (fun c d H => W c d σ H) hr hgd I.env0 rv hR hV (Go.we (pins := pins) hG)) fun r s' hq => ?_)
  cases r with
  | error e => exact tk e s' (XE.of_call I (fun _ _ _ z => z) hq)
  | ok fl =>
    cases fl with
    | ret u => exact I.after hq
    | next => exact hq.elim
    | brk => exact hq.elim
    | cont => exact hq.elim
/-! ### C(..) -/
def mkR (n : Nat) (r : Res D) : Res D := match r with | .ok .non s => .ok (.ref n) s | .ok _ _ => .bad | .exc c fs s => .exc c fs s | .bad => .bad
def mMk (c : Str) (F : List D → M D) (xs : List D) : M D := fun s => mkR s.length (F (.ref s.length :: xs) (s ++ [.ins c []]))
theorem makeJ {c : Str} {pins : List (Addr × Obj)} {σ : SV} {H : Hp} {s : Shared} {Q : VK} {us : List Value} {vs : List V} {xs : List D} {m : MM} {t : Sto} (M : Mk X.K C f) (hm : PySem.W.nsIn X.K mainGlobals c = some (some (.ref C))) (G : FnJ X.prog X.w X.K X.mg X.base k f F) (hr : Room (k + 1) X.A) (hgd : X.A.guards = some []) (tk : Takes X W)
    (I : Inv X pins σ H s) (rv : Vals vs us) (hR : R X.K X.mg m t H) (hV : RVs X.K m (hid m H) xs vs) (hG : Go W X.K X.mg σ (RV X.K) m H (mMk c F xs t) Q) :
    wpAny (model X.prog X.w) X.A (call (.ref C) us) (EP X pins σ Q) X.xe s := by
  have I2 := Inv.made (C := C) I
  have n1 : H s.heap.objs.size = none := I.hok.fresh (Nat.le_refl _)
  have n2 : H (s.heap.objs.size + 1) = none := I.hok.fresh (Nat.le_succ _)
  have ne : s.heap.objs.size + 1 ≠ s.heap.objs.size := Nat.succ_ne_self _
  obtain ⟨e1, r1, _⟩ := hR.newF (o := .own (s.heap.objs.size + 1)) n1
  have n3 : upd H s.heap.objs.size (.own (s.heap.objs.size + 1)) (s.heap.objs.size + 1) = none := by rw [upd_ne ne]; exact n2
  obtain ⟨e2, r2⟩ := r1.newS (ho := .ins C s.heap.objs.size []) (o := .ins c []) n3 fun _ => ⟨C, s.heap.objs.size, [], hm, upd_same, rfl, .nil⟩
  have e3 := e1.trans e2
  have hx : (m.more (s.heap.objs.size + 1)).ix[t.length]? = some (s.heap.objs.size + 1) := by
    rw [← hR.len]
    show (m.ix ++ [s.heap.objs.size + 1])[m.ix.length]? = _
    simp
  have v2 : RVs X.K (m.more (s.heap.objs.size + 1)) (hid (m.more (s.heap.objs.size + 1)) (upd (upd H s.heap.objs.size (.own (s.heap.objs.size + 1))) (s.heap.objs.size + 1) (.ins C s.heap.objs.size []))) (.ref t.length :: xs) (.ref (s.heap.objs.size + 1) :: vs) :=
    .cons (.ref hx) (hV.mono e3.pre e3.same)
  have g2 : Go (WE fun c d H => W c d σ H) X.K X.mg [] (RV X.K) (m.more (s.heap.objs.size + 1)) (upd (upd H s.heap.objs.size (.own (s.heap.objs.size + 1))) (s.heap.objs.size + 1) (.ins C s.heap.objs.size []))
      (F (.ref t.length :: xs) (t ++ [.ins c []])) (fun v H2 => v = .non ∧ Q (.ref (s.heap.objs.size + 1)) H2) := by
    unfold mMk mkR at hG
    cases e : F (.ref t.length :: xs) (t ++ [.ins c []]) with
    | ok d s' =>
      rw [e] at hG
      intro b m' H' ee rr vv
      cases d with
      | non =>
        cases vv
        exact ⟨rfl, hG _ m' H' (e3.trans ee) rr (.ref (pre_get ee.pre hx))⟩
      | _ => exact hG.elim
    | exc c' fs s' =>
      rw [e] at hG
      exact XC.ext e3 hG
    | bad => rw [e] at hG; exact hG.elim
  refine wpAny_call (make_map (f := f) I.kIn M.makes M.init (beq_iff_eq.mp M.fn) (codeAny_mono (G _ X.stack _ _ (Value.ref (s.heap.objs.size + 1) :: us) _ _ _ _ _ (fun c d H => W c d σ H) (hr.make C us [])
    hgd (I2.env0.make C us []) (show Vals (V.ref (s.heap.objs.size + 1) :: vs) (Value.ref (s.heap.objs.size + 1) :: us) from .cons rfl rv) r2 v2 g2) fun r s' hq' => ?_))
  cases r with
  | error e => exact tk e s' (XE.of_call I2 (fun _ _ _ z => z) hq')
  | ok fl =>
    cases fl with
    | ret u =>
      obtain ⟨v, H', I3, rv', ev, q3⟩ := I2.after hq'
      subst ev
      exact ⟨rv', ⟨V.ref (s.heap.objs.size + 1), H', I3, rfl, q3⟩⟩
    | next => exact hq'.elim
    | brk => exact hq'.elim
    | cont => exact hq'.elim
variable {c x : Str} {p pos apos : Pos} {a o e : Expr} {es : List Expr} {fs : EV → M (List D)} {fo : EV → M D}
def mMkE (c : Str) (F : List D → M D) (fs : EV → M (List D)) : EV → M D := fun σ => bnd (fs σ) (mMk c F)
theorem ie_make (M : Mk X.K C f) (G : FnJ X.prog X.w X.K X.mg X.base k f F) (hr : Room (k + 1) X.A) (hgd : X.A.guards = some []) (tk : Takes X W) (hg : Gl X x) (hm : X.mg x = some (.ref C)) (hns : PySem.W.nsIn X.K mainGlobals x = some (some (.ref C)))
    (ha : IA X W (a :: es) fs) (hdb : (x == ("__debug__" : Str)) = false := by decide) (he : starEach (a :: es) X.env = (false, eval a X.env) :: starEach es X.env := by rfl) (hpl : (backTo pos (starEach es X.env)).any (·.1) = false := by rfl) :
    IE X W (.Call (.Name x p) (a :: es) [] pos) (mMkE x F fs) := by
  refine ⟨⟨fun pins s σ H Q I ⟨m, σd, t, hR, hS, hG⟩ => ?_⟩⟩
  exact wpAny_Call_Name_kw (ld_glob I hg hm (PySem.W.callWith_K (h₀ := X.base) I.ok.mod.kin M.kp (thn (ha.pa.run pos pins s σ H _ I ⟨m, σd, t, hR, hS, Go.bnd (rel := RVs X.K) hG⟩) fun us s1 ⟨vs, H1, I1, rv, m1, xs, s2, e1, r1, v1, g1⟩ => ⟨I1.kIn,
    makeJ M hns G hr hgd tk I1 rv r1 v1 g1⟩) he hpl) hdb)
theorem ie_make0 (M : Mk X.K C f) (G : FnJ X.prog X.w X.K X.mg X.base k f F) (hr : Room (k + 1) X.A) (hgd : X.A.guards = some []) (tk : Takes X W) (hg : Gl X x) (hm : X.mg x = some (.ref C)) (hns : PySem.W.nsIn X.K mainGlobals x = some (some (.ref C)))
    (hdb : (x == ("__debug__" : Str)) = false := by decide) : IE X W (.Call (.Name x p) [] [] pos) (fun _ => mMk x F []) := by
  refine ⟨⟨fun pins s σ H Q I ⟨m, σd, t, hR, hS, hG⟩ => ?_⟩⟩
  exact wpAny_Call_Name_kw (ld_glob I hg hm (PySem.W.callWith_K0 I.kIn M.kp (makeJ (us := []) (xs := []) M hns G hr hgd tk I .nil hR .nil hG)) hdb)
/-! ### fields -/
/-- what the text says of the classes whose instances have the field -/
def ClsF (X : Cx) (cs : List Str) (f : Str) : Prop := ∀ c ∈ cs, ∀ C, X.mg c = some (.ref C) → Cls X.K C ∧ NoAttr X.K C f
def insAt (s : Sto) : D → Option (Nat × Str × List (Str × D))
  | .ref n => match s[n]? with | some (.ins c fs) => some (n, c, fs) | _ => none
  | _ => none
theorem insAt_at {K : PySem.W.Frag} {mg : Str → Option Value} {m : MM} {s : Sto} {H : Hp} {x : D} {v : V} {n : Nat} {c : Str} {fs : List (Str × D)} (hR : R K mg m s H) (r : RV K m (hid m H) x v) (h : insAt s x = some (n, c, fs)) :
    ∃ a C dx gs, v = .ref a ∧ m.ix[n]? = some a ∧ s[n]? = some (.ins c fs) ∧ PySem.W.nsIn K mainGlobals c = some (some (.ref C)) ∧ mg c = some (.ref C) ∧ H a = some (.ins C dx gs) ∧ gs.map (·.1) = fs.map (·.1) ∧ RVs K m (hid m H) (fs.map (·.2)) (gs.map (·.2)) := by
  unfold insAt at h
  split at h
  · split at h
    · rename_i e
      cases h
      cases r with
      | ref q =>
        obtain ⟨C, dx, gs, h1, h2, h3, h4⟩ := hR.obj _ _ _ q e
        exact ⟨_, C, dx, gs, rfl, q, e, h1, hR.ns _ _ h1, h2, h3, h4⟩
    · cases h
  · cases h
theorem look_at {K : PySem.W.Frag} {m : MM} {G : Hp} {f : Str} : ∀ {fs : List (Str × D)} {gs : List (Str × V)}, gs.map (·.1) = fs.map (·.1) → RVs K m G (fs.map (·.2)) (gs.map (·.2)) →
    (∀ d, fs.lookup f = some d → ∃ v, gs.lookup f = some v ∧ RV K m G d v) ∧ (fs.lookup f = none → gs.lookup f = none)
  | [], [], _, _ => ⟨fun d h => by simp at h, fun _ => rfl⟩
  | (f1, d1) :: fs, (f2, v2) :: gs, e, r => by
    simp only [List.map_cons, List.cons.injEq] at e
    cases r with
    | cons r1 r2 =>
      obtain ⟨e1, e2⟩ := e
      have ih := look_at (f := f) e2 r2
      have e1' : f2 = f1 := e1
      subst e1'
      simp only [List.lookup_cons]
      cases hq : f == f2 with
      | true => exact ⟨fun d h => ⟨v2, rfl, by cases h; exact r1⟩, fun h => by cases h⟩
      | false => exact ih
/-- an instance, by its data: in the store, or one that stays -/
def insV (s : Sto) : D → Option (Str × List (Str × D))
  | .ref n => match s[n]? with | some (.ins c fs) => some (c, fs) | _ => none
  | .ins c fs => some (c, fs)
  | _ => none
theorem insV_at {K : PySem.W.Frag} {mg : Str → Option Value} {m : MM} {s : Sto} {H : Hp} {x : D} {v : V} {c : Str} {fs : List (Str × D)} (hR : R K mg m s H) (r : RV K m (hid m H) x v) (h : insV s x = some (c, fs)) :
    ∃ a C dx gs, v = .ref a ∧ mg c = some (.ref C) ∧ H a = some (.ins C dx gs) ∧ gs.map (·.1) = fs.map (·.1) ∧ RVs K m (hid m H) (fs.map (·.2)) (gs.map (·.2)) := by
  unfold insV at h
  split at h
  · split at h
    · rename_i e
      cases h
      cases r with
      | ref q =>
        obtain ⟨C, dx, gs, h1, h2, h3, h4⟩ := hR.obj _ _ _ q e
        exact ⟨_, C, dx, gs, rfl, hR.ns _ _ h1, h2, h3, h4⟩
    · cases h
  · cases h
    cases r with
    | ins n h e r => exact ⟨_, _, _, _, rfl, hR.ns _ _ n, hid_sub _ _ _ _ h, e, r⟩
  · cases h
def gFld (cs : List Str) (f : Str) (x : D) : M D := fun s => match insV s x with
  | some (c, fs) => if c ∈ cs then (match fs.lookup f with | some d => .ok d s | none => .bad) else .bad
  | none => .bad
def mFld (cs : List Str) (f : Str) (fo : EV → M D) : EV → M D := fun σ => bnd (fo σ) (gFld cs f)
theorem ie_fld {cs : List Str} {fn : Str} (hc : ClsF X cs fn) (ho : IE X W o fo) (hb : attributeBase o fn X.env (eval o X.env) = eval o X.env := by rfl) : IE X W (.Attribute o fn pos) (mFld cs fn fo) := by
  refine ⟨pe_mono (pe_fld ho.pe hb) fun σ H Q ⟨m, σd, s, hR, hS, hG⟩ => ?_⟩
  refine ⟨m, σd, s, hR, hS, (Go.bnd (rel := RV X.K) hG).imp fun x H1 ⟨m1, d, s1, e1, r1, v1, g1⟩ => ?_⟩
  unfold gFld at g1
  split at g1
  · rename_i c fs e
    split at g1
    · rename_i hcs
      split at g1
      · rename_i d' hl
        obtain ⟨a, C, dx, gs, rfl, hm, ha, q1, q2⟩ := insV_at r1 v1 e
        obtain ⟨h1, h2⟩ := hc c hcs C hm
        obtain ⟨v, h3, h4⟩ := (look_at q1 q2).1 d' hl
        exact ⟨a, C, dx, gs, v, rfl, ha, h1, h2, h3, g1.ok r1 h4⟩
      · exact g1.elim
    · exact g1.elim
  · exact g1.elim
/-! ### stores: fields, and several targets at once -/
def putD (f : Str) (y : D) : List (Str × D) → List (Str × D)
  | [] => [(f, y)]
  | (g, x) :: r => if g = f then (g, y) :: r else (g, x) :: putD f y r
theorem put_at {K : PySem.W.Frag} {m : MM} {G : Hp} {f : Str} {y : D} {v : V} (hy : RV K m G y v) : ∀ {fs : List (Str × D)} {gs : List (Str × V)}, gs.map (·.1) = fs.map (·.1) → RVs K m G (fs.map (·.2)) (gs.map (·.2)) →
    (putF f v gs).map (·.1) = (putD f y fs).map (·.1) ∧ RVs K m G ((putD f y fs).map (·.2)) ((putF f v gs).map (·.2))
  | [], [], _, _ => ⟨rfl, .cons hy .nil⟩
  | (f1, d1) :: fs, (f2, v2) :: gs, e, r => by
    simp only [List.map_cons, List.cons.injEq] at e
    cases r with
    | cons r1 r2 =>
      obtain ⟨e1, e2⟩ := e
      have e1' : f2 = f1 := e1
      subst e1'
      unfold putF putD
      split
      · exact ⟨by simp [e2], .cons hy r2⟩
      · obtain ⟨h1, h2⟩ := put_at hy e2 r2
        exact ⟨by simp [h1], .cons r1 h2⟩
def putAt (cs : List Str) (f : Str) (x y : D) : Sto → Option Sto := fun s => match insAt s x with
  | some (n, c, fs) => if c ∈ cs ∧ fs.length < 900 then some (s.set n (.ins c (putD f y fs))) else none
  | none => none
abbrev SGT := D → SM
def rH (X : Cx) (W : WX) (g : SGT) : TG := fun v σ H Q => ∃ m σd s d, R X.K X.mg m s H ∧ RS X.K m (hid m H) σd σ ∧ RV X.K m (hid m H) d v ∧ GoS W X.K X.mg m H (g d σd s) { nx := Q, rt := fun _ _ => False }
structure IH (X : Cx) (W : WX) (tg : Expr) (g : SGT) : Prop where
  pg : PG X tg (rH X W g)
def rHs (X : Cx) (W : WX) (g : List D → SM) : TGs := fun vs σ H Q => ∃ m σd s ds, R X.K X.mg m s H ∧ RS X.K m (hid m H) σd σ ∧ RVs X.K m (hid m H) ds vs ∧ GoS W X.K X.mg m H (g ds σd s) { nx := Q, rt := fun _ _ => False }
structure IHs (X : Cx) (W : WX) (tgs : List Expr) (g : List D → SM) : Prop where
  pgs : PGs X tgs (rHs X W g)
def stGo (σ : EV) (o : Option Sto) : SRes := match o with | some s2 => .go .nx σ s2 | none => .bad
def hNm (i : Nat) : SGT := fun d σ s => .go .nx (σ.set i (some d)) s
def hFld (cs : List Str) (f : Str) (fo : EV → M D) : SGT := fun d σ s => lft (fo σ s) σ fun x s' => stGo σ (putAt cs f x d s')
def hIx (fo fi : EV → M D) : SGT := fun d σ s => lft (bnd (fo σ) (fun x => bnd (fi σ) fun i => ret (x, i)) s) σ fun p s' => stGo σ (dSetL p.1 p.2 d s')
theorem ih_name {i : Nat} {x : Str} (hN : X.N.Nodup) (hi : X.N[i]? = some x) (hx : Loc X.env.scope x) (hf : X.fn x = true ∨ X.env.scope.names.lookup x = some .local := by first | exact .inl rfl | exact .inr rfl) : IH X W (.Name x pos) (hNm i) :=
  ⟨pg_mono (pg_name hN hi hx hf) fun v σ H Q ⟨m, σd, s, d, hR, hS, hv, hG⟩ => GoS.at (fl := .nx) hG hR (hS.put hv)⟩
theorem ih_fld {cs : List Str} {fn : Str} (hc : ClsF X cs fn) (ho : IE X W o fo) : IH X W (.Attribute o fn pos) (hFld cs fn fo) := by
  refine ⟨⟨fun pins sh σ H v u Q I r ⟨m, σd, s, d, hR, hS, hv, hG⟩ => ?_⟩⟩
  rw [arm_assign_Attribute]
  have hG2 := GoS.lft (rel := RV X.K) hS hG
  refine wpAny_bind (wpAny_holding (thn (ho.pe.run pins sh σ H _ I ⟨m, σd, s, hR, hS, hG2⟩) fun ov s1 ⟨x, H1, I1, r1, m1, dx, t1, e1, q1, w1, g1⟩ => ?_))
  unfold stGo putAt at g1
  cases e : insAt t1 dx with
  | none => rw [e] at g1; exact g1.elim
  | some p =>
    obtain ⟨n, c, fs⟩ := p
    rw [e] at g1
    simp only at g1
    split at g1
    · rename_i s2 hs2
      split at hs2
      · rename_i hcs
        cases hs2
        obtain ⟨a, C, dx', gs, rfl, ha1, _, hns, hm, ha, k1, k2⟩ := insAt_at q1 w1 e
        obtain ⟨h1, h2⟩ := hc c hcs.1 C hm
        obtain rfl : ov = Value.ref a := r1
        obtain ⟨j1, j2⟩ := put_at (f := fn) (hv.mono e1.pre e1.same) k1 k2
        have hlen : gs.length < 1000 := by
          have z : gs.length = fs.length := by
            have := congrArg List.length k1
            simpa using this
          omega
        obtain ⟨e8, r8⟩ := q1.put (ho := .ins C dx' (putF fn v gs)) (o := .ins c (putD fn d fs)) ha1 fun ee => ⟨C, dx', _, hns, upd_same, j1, j2.mono ee.pre ee.same⟩
        refine wpAny_bind (wpAny_standAt (wpAny_bind (wpAny_holding (setattr_ok I1 ha h1 h2 hlen r fun s3 I3 => wpAny_release ⟨σ, _, I3, ?_⟩))))
        exact GoS.at (fl := .nx) (g1.ext e8) r8 ((hS.mono e1.pre e1.same).mono e8.pre e8.same)
      · cases hs2
    · exact g1.elim
theorem ih_ix {i : Expr} {fi : EV → M D} (ho : IE X W o fo) (hi : IE X W i fi)
    (hx : ∀ v, assign (.Subscript o i pos) X.env v = (do
      let ov ← holding [v] (eval o X.env)
      let iv ← holding [v, ov] (eval i X.env)
      standAt pos
      holding [v, ov, iv] (setItem ov iv v)
      release [v, ov, iv] []) := by intro _; rfl) : IH X W (.Subscript o i pos) (hIx fo fi) := by
  refine ⟨pg_mono (pg_sub ho.pe hi.pe set_list hx) fun v σ H Q ⟨m, σd, s, d, hR, hS, hv, hG⟩ => ?_⟩
  have hG2 := Go.bnd (rel := RV X.K) (GoS.lft (rel := fun m G (d : D × D) (v : V × V) => RV X.K m G d.1 v.1 ∧ RV X.K m G d.2 v.2) hS hG)
  refine ⟨m, σd, s, hR, hS, hG2.imp fun u H2 ⟨m2, d2, s2, e2, r2, v2, g2⟩ => ?_⟩
  refine ⟨m2, σd, s2, r2, hS.mono e2.pre e2.same, (Go.bnd (rel := RV X.K) g2).imp fun w H3 ⟨m3, d3, s3, e3, r3, v3, g3⟩ => ?_⟩
  obtain ⟨m4, dd, s4, e4, r4, ⟨w2, w3⟩, g4⟩ := Go.ok (a := (d2, d3)) (b := (u, w)) g3 r3 ⟨v2.mono e3.pre e3.same, v3⟩
  unfold stGo at g4
  split at g4
  · rename_i s5 q
    unfold dSetL at q
    split at q
    · rename_i k n xs e5 e6
      split at q
      · rename_i j e7
        cases q
        rw [e5] at w3
        have w3' : w = .int k := by cases w3; rfl
        obtain ⟨a, ws, rfl, h1, h2, h3⟩ := lstAt_at r4 w2 e6
        have e24 := e4
        obtain ⟨e8, r8⟩ := r4.put (ho := .lst (ws.set j v)) (o := .lst (xs.set j d)) h1 fun e => ⟨_, upd_same, (h3.set (hv.mono e24.pre e24.same) j).mono e.pre e.same⟩
        exact ⟨a, ws, k, j, rfl, w3', h2, by rw [h3.length]; exact e7, GoS.at (fl := .nx) (g4.ext e8) r8 ((hS.mono e24.pre e24.same).mono e8.pre e8.same)⟩
      · cases q
    · cases q
  · exact g4.elim
def hsNil : List D → SM := fun ds σ s => match ds with | [] => .go .nx σ s | _ => .bad
def hsCns (g : SGT) (gs : List D → SM) : List D → SM := fun ds σ s => match ds with
  | d :: ds => (match g d σ s with | .go .nx σ2 s2 => gs ds σ2 s2 | .go _ _ _ => .bad | .exc c fs σ2 s2 => .exc c fs σ2 s2 | .bad => .bad)
  | [] => .bad
theorem ihs_nil : IHs X W [] hsNil := by
  refine ⟨⟨fun pins sh σ H vs us Q I r ⟨m, σd, s, ds, hR, hS, hv, hG⟩ => ?_⟩⟩
  refine pgs_nil.run pins sh σ H vs us Q I r ?_
  cases ds with
  | nil => cases hv; exact ⟨rfl, GoS.at (fl := .nx) hG hR hS⟩
  | cons _ _ => exact hG.elim
theorem ihs_cons {g : SGT} {gs : List D → SM} (h1 : IH X W e g) (h2 : IHs X W es gs) (hs : (assignEach (e :: es) X.env).map (·.2) = assign e X.env :: (assignEach es X.env).map (·.2) := by rfl) : IHs X W (e :: es) (hsCns g gs) := by
  refine ⟨⟨fun pins sh σ H vs us Q I r ⟨m, σd, s, ds, hR, hS, hv, hG⟩ => ?_⟩⟩
  refine (pgs_cons h1.pg h2.pgs hs).run pins sh σ H vs us Q I r ?_
  cases ds with
  | nil => exact hG.elim
  | cons d ds =>
    cases hv with
    | @cons _ v _ vs' q1 q2 =>
      refine ⟨v, vs', rfl, m, σd, s, d, hR, hS, q1, ?_⟩
      unfold hsCns at hG
      simp only at hG
      cases e : g d σd s with
      | go fl σ2 s2 =>
        rw [e] at hG
        cases fl with
        | nx => exact fun σ' m' H' ee rr ss => ⟨m', σ2, s2, ds, rr, ss, q2.mono ee.pre ee.same, GoS.ext ee hG⟩
        | rt _ => exact hG.elim
        | bk => exact hG.elim
        | ct => exact hG.elim
      | exc c fs σ2 s2 => rw [e] at hG; exact hG
      | bad => rw [e] at hG; exact hG.elim
def hTup (n : Nat) (gs : List D → SM) : SGT := fun d => match d with | .tup ds => fun σ s => if ds.length = n then gs ds σ s else .bad | _ => fun _ _ => .bad
theorem ih_tup {gs : List D → SM} {kt : Nat} {n : Nat} (hc : X.calm = true) (h : IHs X W es gs) (hn : (assignEach es X.env).length = n := by rfl) (hst : (assignEach es X.env).findIdx? (·.1) = none := by rfl) : IH X W (.Tuple es kt pos) (hTup n gs) := by
  refine ⟨pg_mono (pg_tup hc h.pgs hn hst) fun v σ H Q ⟨m, σd, s, d, hR, hS, hv, hG⟩ => ?_⟩
  unfold hTup at hG
  split at hG
  · rename_i ds
    split at hG
    · rename_i q
      obtain ⟨a, vs, rfl, h1, h2⟩ := tup_at hv
      exact ⟨a, vs, rfl, h1, by rw [h2.length]; exact q, m, σd, s, ds, hR, hS, h2, hG⟩
    · exact hG.elim
  · exact hG.elim
def nxO (r : SRes) : SRes := match r with | .go .nx σ s => .go .nx σ s | .go _ _ _ => .bad | .exc c fs σ s => .exc c fs σ s | .bad => .bad
def sAsgH (g : SGT) (f : EV → M D) : SM := fun σ s => lft (f σ s) σ fun d s' => nxO (g d σ s')
theorem is_asgH {f : EV → M D} {g : SGT} {tg : Expr} (he : IE X W e f) (hg : IH X W tg g) (hs : swapsWithSole [tg] e pos.line X.env = pure false := by rfl) (hw : swappedStores [tg] e X.env = pure none := by rfl)
    (h1 : (assignEach [tg] X.env).map (·.2) = [assign tg X.env] := by rfl) : IS X W (.Assign [tg] e pos) (sAsgH g f) := by
  refine ⟨ps_mono (ps_asg he.pe hg.pg hs hw h1) fun E σ H ⟨m, σd, s, hR, hS, hG⟩ => ?_⟩
  refine ⟨m, σd, s, hR, hS, (GoS.lft (rel := RV X.K) hS hG).imp fun v H1 ⟨m1, d, s1, e1, r1, v1, g1⟩ => ?_⟩
  refine ⟨m1, σd, s1, d, r1, hS.mono e1.pre e1.same, v1, ?_⟩
  unfold nxO at g1
  cases q : g d σd s1 with
  | go fl σ2 s2 =>
    rw [q] at g1
    cases fl with
    | nx => exact g1
    | rt _ => exact g1.elim
    | bk => exact g1.elim
    | ct => exact g1.elim
  | exc c fs σ2 s2 => rw [q] at g1; exact g1
  | bad => rw [q] at g1; exact g1.elim
end
end RQ

/-! methods, properties, calls of instances -/
namespace RQ
open PySem PySem.Spec PyProof.Rows L2
section
variable {X : Cx} {W : WX} {k : Nat} {c x mn : Str} {p pos apos : Pos} {a o e : Expr} {es : List Expr} {fs : EV → M (List D)} {fo : EV → M D}
abbrev Alts := List (Str × (List D → M D))
/-- the classes that have the method, and what it does -/
def AltOk (X : Cx) (k : Nat) (mn : Str) (alts : Alts) : Prop := ∀ c F, alts.lookup c = some F → ∃ C f, X.mg c = some (.ref C) ∧ Cls X.K C ∧ Meth X.K C mn f ∧ FnJ X.prog X.w X.K X.mg X.base k f F
def altAt (alts : Alts) (mn : Str) (x : D) (s : Sto) : Option (List D → M D) := match insV s x with
  | some (c, fs) => if (fs.lookup mn).isNone = true then alts.lookup c else none
  | none => none
def mMeth (alts : Alts) (mn : Str) (fo : EV → M D) (fs : EV → M (List D)) : EV → M D := fun σ => bnd (fo σ) fun x s => match altAt alts mn x s with
  | some F => bnd (fs σ) (fun xs => F (x :: xs)) s
  | none => .bad
theorem alt_at {m : MM} {s : Sto} {H : Hp} {d : D} {v : V} {alts : Alts} {F : List D → M D} (ok : AltOk X k mn alts) (hR : R X.K X.mg m s H) (r : RV X.K m (hid m H) d v) (h : altAt alts mn d s = some F) :
    ∃ a C dx gs f, v = .ref a ∧ H a = some (.ins C dx gs) ∧ gs.lookup mn = none ∧ Cls X.K C ∧ Meth X.K C mn f ∧ FnJ X.prog X.w X.K X.mg X.base k f F := by
  unfold altAt at h
  split at h
  · rename_i c fs e
    split at h
    · rename_i hl
      obtain ⟨a, C, dx, gs, rfl, hm, ha, q1, q2⟩ := insV_at hR r e
      obtain ⟨C', f, h1, h2, h3, h4⟩ := ok c F h
      rw [hm] at h1
      cases h1
      exact ⟨a, C, dx, gs, f, rfl, ha, (look_at q1 q2).2 (Option.isNone_iff_eq_none.mp hl), h2, h3, h4⟩
    · cases h
  · cases h
theorem ie_meth {alts : Alts} {pl : Sem Bool} (ok : AltOk X k mn alts) (hr : Room k X.A) (hgd : X.A.guards = some []) (tk : Takes X W) (ho : IE X W o fo) (ha : IA X W (a :: es) fs)
    (hst : starEach (a :: es) X.env = (false, eval a X.env) :: starEach es X.env := by rfl) (hpl : (backTo pos (starEach es X.env)).any (·.1) = false := by rfl)
    (ht : eval (.Call (.Attribute o mn apos) (a :: es) [] pos) X.env = (do
      let ov ← eval o X.env
      standAt apos.atName
      let (f, first) ← holding [ov] (getMethod ov mn pl)
      callWith pos f first (backTo pos (starEach (a :: es) X.env)) (backToKw pos (keywordEach [] X.env))) := by rfl) :
    IE X W (.Call (.Attribute o mn apos) (a :: es) [] pos) (mMeth alts mn fo fs) := by
  refine ⟨⟨fun pins sh σ H Q I ⟨m, σd, t, hR, hS, hG⟩ => ?_⟩⟩
  refine PySem.W.methodCall_KW (pl := pl) (thn (ho.pe.run pins sh σ H _ I ⟨m, σd, t, hR, hS, Go.bnd (rel := RV X.K) hG⟩) fun u s1 ⟨v, H1, I1, rx, m1, d, t1, e1, r1, v1, g1⟩ => ?_) ht
  split at g1
  · rename_i F hF
    obtain ⟨ad, C, dx, gs, f, rfl, ha2, hl, hc, hm, G⟩ := alt_at ok r1 v1 hF
    obtain rfl : u = Value.ref ad := rx
    refine getmeth_ok I1 ha2 hc hm hl ?_
    refine PySem.W.callWith_K (first := [.ref ad]) (h₀ := X.base) I.ok.mod.kin hm.kp (thn (ha.pa.run pos pins s1 σ H1 _ I1 ⟨m1, σd, t1, r1, hS.mono e1.pre e1.same, Go.bnd (rel := RVs X.K) g1⟩) fun us s2 ⟨vs, H2, I2, rv, m2, xs, t2, e2, r2, v2, g2⟩ => ⟨I2.kIn, ?_⟩) hst hpl
    exact callJ (us := .ref ad :: us) (vs := .ref ad :: vs) G hr hgd tk I2 (.cons rfl rv) r2 (.cons (v1.mono e2.pre e2.same) v2) g2
  · exact g1.elim
theorem ie_meth0 {alts : Alts} {pl : Sem Bool} (ok : AltOk X k mn alts) (hr : Room k X.A) (hgd : X.A.guards = some []) (tk : Takes X W) (ho : IE X W o fo)
    (ht : eval (.Call (.Attribute o mn apos) [] [] pos) X.env = (do
      let ov ← eval o X.env
      standAt apos.atName
      let (f, first) ← holding [ov] (getMethod ov mn pl)
      callWith pos f first (backTo pos (starEach [] X.env)) (backToKw pos (keywordEach [] X.env))) := by rfl) :
    IE X W (.Call (.Attribute o mn apos) [] [] pos) (mMeth alts mn fo (fun _ s => .ok [] s)) := by
  refine ⟨⟨fun pins sh σ H Q I ⟨m, σd, t, hR, hS, hG⟩ => ?_⟩⟩
  refine PySem.W.methodCall_KW (pl := pl) (thn (ho.pe.run pins sh σ H _ I ⟨m, σd, t, hR, hS, Go.bnd (rel := RV X.K) hG⟩) fun u s1 ⟨v, H1, I1, rx, m1, d, t1, e1, r1, v1, g1⟩ => ?_) ht
  split at g1
  · rename_i F hF
    obtain ⟨ad, C, dx, gs, f, rfl, ha2, hl, hc, hm, G⟩ := alt_at ok r1 v1 hF
    obtain rfl : u = Value.ref ad := rx
    refine getmeth_ok I1 ha2 hc hm hl ?_
    exact PySem.W.callWith_K0 (first := [.ref ad]) I1.kIn hm.kp (callJ (us := [.ref ad]) (vs := [.ref ad]) G hr hgd tk I1 (.cons rfl .nil) r1 (.cons v1 .nil) g1)
  · exact g1.elim
/-! ### properties -/
def PropOkD (X : Cx) (k : Nat) (mn : Str) (alts : Alts) : Prop := ∀ c F, alts.lookup c = some F → ∃ C pa g, X.mg c = some (.ref C) ∧ Cls X.K C ∧ PropOf X.K C mn pa g ∧ FnJ X.prog X.w X.K X.mg X.base k g F
def gProp (alts : Alts) (x : D) : M D := fun s => match insV s x with
  | some (c, _) => (match alts.lookup c with | some F => nox (F [x]) s | none => .bad)
  | none => .bad
def mProp (alts : Alts) (fo : EV → M D) : EV → M D := fun σ => bnd (fo σ) (gProp alts)
theorem ie_prop {alts : Alts} (ok : PropOkD X k mn alts) (hr : Room (k + 1) X.A) (hgd : X.A.guards = some []) (ho : IE X W o fo) (hab : attributeBase o mn X.env (eval o X.env) = eval o X.env := by rfl) : IE X W (.Attribute o mn pos) (mProp alts fo) := by
  refine ⟨⟨fun pins sh σ H Q I ⟨m, σd, t, hR, hS, hG⟩ => ?_⟩⟩
  refine attr_of hab (thn (ho.pe.run pins sh σ H _ I ⟨m, σd, t, hR, hS, Go.bnd (rel := RV X.K) hG⟩) fun u s1 ⟨v, H1, I1, rx, m1, d, t1, e1, r1, v1, g1⟩ => ?_)
  unfold gProp at g1
  split at g1
  · rename_i c fs e
    split at g1
    · rename_i F hF
      obtain ⟨ad, C, dx, gs, rfl, hm, ha, q1, q2⟩ := insV_at r1 v1 e
      obtain ⟨C', pa, g, h1, hc, hp, G⟩ := ok c F hF
      rw [hm] at h1
      cases h1
      obtain rfl : u = Value.ref ad := rx
      obtain ⟨mA, O, _, _, _, _⟩ := ins_get I1.hok ha
      obtain ⟨od, J, _⟩ := O.look
      obtain ⟨rest, hrec⟩ := hp.rec_
      have I2 := I1.tok (s1.toks + 1)
      have hcl : (PySem.W.clsIn X.K C).isSome = true := by
        obtain ⟨cd, hc', _⟩ := PySem.W.any_some hc.hd
        rw [hc']; rfl
      refine PySem.W.get_bind I1.kIn J (PySem.W.plainGet_of (hc.get mn)).1 (PySem.W.findObj_data hcl hp.at_ hp.get hp.tak) (PySem.W.plainGet_of (hc.get mn)).2 (wpAny_call (PySem.W.prop_get (s := { s1 with toks := s1.toks + 1 }) I1.kIn hrec ?_))
      refine codeAny_mono (G X.A.in1 X.stack { s1 with toks := s1.toks + 1 } H1 [.ref ad] [.ref ad] [d] m1 t1 Q (fun _ _ _ => False) hr.in1 hgd I2.env0.in1 (.cons rfl .nil) r1 (.cons v1 .nil) ?_) fun r s' hq => ?_
      · have g2 := Go.nox g1
        cases q : F [d] t1 with
        | ok d' s' => rw [q] at g2; exact g2
        | exc c' fs' s' => unfold nox at g1; rw [q] at g1; exact g1.elim
        | bad => rw [q] at g2; exact g2.elim
      · cases r with
        | error er => obtain ⟨_, _, _, _, _, _, _, _, _, _, _, _, z⟩ := hq; exact z.elim
        | ok fl =>
          cases fl with
          | ret u' =>
            obtain ⟨v', H', I3, rv, q3⟩ := I2.after hq
            show wpAny _ _ (handedOut u') _ _ _
            rw [PySem.W.handedOut_of (handed_of rv)]
            exact wpAny_pure ⟨v', H', I3, rv, q3⟩
          | next => exact hq.elim
          | brk => exact hq.elim
          | cont => exact hq.elim
    · exact g1.elim
  · exact g1.elim
end
end RQ

/-! operators of own classes -/
namespace RQ
open PySem PySem.Spec PyProof.Rows L2
section
variable {prog : Program} {w : World} {A : Around} {E : Value → Shared → Prop} {s : Shared} {K : PySem.W.Frag} {x C L f : Addr} {h₀ : Heap} {m : Str → Option Value} {ox : Obj} {od : Option Obj} {name : Str} {b tb : Value}
theorem ifBoundB {M : Model} {id : String} {args : List Value} {Q : Option Value → Shared → Prop} (X : K.In s.heap) (I : PySem.W.InstAt s.heap x ox C od) (hs : PySem.W.findIn K (.ref C) name = some (some (.builtin id)))
    (hb : ∀ self, PySem.W.Looks M s.heap (bindSpecial (.builtin id) self) (.builtin id, [self]))
    (h : wpAny M A (call (.builtin id) (.ref x :: args)) (fun v => Q (some v)) E s) : wpAny M A (callSpecialIfBound? (.ref x) name args) Q E s := by
  simp only [callSpecialIfBound?, bindSpecialIfBound?]
  refine wpAny_holding (wpAny_bind (wpAny_bind (wpAny_bind (I.type.here ((PySem.W.looks_findIn X hs).here ?_)))))
  refine wpAny_bind (wpAny_askSetting (wpAny_ite ?_))
  have last : wpAny M A (call (.builtin id) ([.ref x] ++ args) >>= fun v => pure (some v)) Q E s := wpAny_bind (wpAny_mono h (fun v s' h' => wpAny_pure h') fun _ _ h' => h')
  split
  · exact wpAny_bind ((hb _).here (wpAny_pure (by exact last)))
  · exact wpAny_tryCatch (wpAny_bind ((hb _).here (wpAny_pure (by exact last))))
/-- a != b by an own __eq__ -/
theorem ne_own {Q : Value → Shared → Prop} (hu : A.units + 1 < cLine) (X : K.In s.heap) (I : PySem.W.InstAt s.heap x ox C od) (hb : PySem.W.Looks (model prog w) s.heap (typeOf b) tb) (hn : PySem.W.notFirst K C tb = true)
    (hs : PySem.W.findIn K (.ref C) "__ne__" = some (some (.builtin "object.__ne__"))) (he : PySem.W.findIn K (.ref C) "__eq__" = some (some (.ref f))) (hf : PySem.W.isFn K (.ref f) = true)
    (hbd : ∀ self, PySem.W.Looks (model prog w) s.heap (bindSpecial (.builtin "object.__ne__") self) (.builtin "object.__ne__", [self]))
    (hin : PySem.W.Looks (model prog w) s.heap (isInstance (.ref x) (.type "object")) true)
    (h : wpAny (model prog w) A.in1 (call (.ref f) [.ref x, b]) (fun v s' => ∃ k, v = .bool k ∧ Q (.bool (!k)) s') E s) : wpAny (model prog w) A (richCompare .NotEq (.ref x) b) Q E s := by
  have two : wpAny (model prog w) A.in1 (Builtin.«object.__ne__» ⟨[.ref x, b], []⟩) (fun r s' => ∃ k, r = .done (.ret (.bool (!k))) ∧ Q (.bool (!k)) s') E s := by
    unfold Builtin.«object.__ne__»
    refine wpAny_bind (wpAny_pure ?_)
    refine wpAny_bind (wpAny_cRoomFor (show A.units + 1 < cLine from hu) ?_)
    refine wpAny_bind (PySem.W.ifBound_K X I he hf (wpAny_mono h (fun v s' hv => ?_) fun _ _ e => e))
    obtain ⟨k, rfl, hq⟩ := hv
    refine wpAny_bind (wpAny_truthy_bool (wpAny_pure ⟨k, rfl, hq⟩))
  have hp : plainId "object.__ne__" = true := by decide +kernel
  have one : wpAny (model prog w) A (tryCompare (.ref x) "__ne__" b) (fun r s' => ∃ v, r = some v ∧ Q v s') E s := by
    unfold tryCompare
    refine wpAny_bind (ifBoundB X I hs hbd (wpAny_call (codeAny_call_builtin hp F.cmpEntry_ne (PySem.W.check_slot F.cmpKind_ne F.cmpSplit_ne hin (F.cmpArgs_ne _ _) (wpAny_mono two (fun r s' hr => ?_) fun _ _ e => e)))))
    obtain ⟨k, rfl, hq⟩ := hr
    exact wpAny_pure ⟨_, rfl, hq⟩
  unfold richCompare
  simp only [oneThing_ref]
  refine wpAny_holding (wpAny_bind (wpAny_cRoomFor (Nat.lt_of_succ_lt hu) ?_))
  refine wpAny_bind (I.type.here (wpAny_bind (hb.here ?_)))
  split
  · rename_i q
    have e : PySem.W.subIn K tb (.ref C) = some false := by
      rcases Bool.or_eq_true_iff.mp hn with e | e
      · rw [beq_iff_eq.mp e] at q; simp at q
      · exact beq_iff_eq.mp e
    refine wpAny_bind ((PySem.W.looks_subIn X e).here ?_)
    simp only [Bool.false_eq_true, if_false]
    refine wpAny_bind (wpAny_mono one (fun r s' z => ?_) fun _ _ e => e)
    obtain ⟨v, rfl, hq⟩ := z
    exact wpAny_pure hq
  · refine wpAny_bind (wpAny_pure ?_)
    simp only [Bool.false_eq_true, if_false]
    refine wpAny_bind (wpAny_mono one (fun r s' z => ?_) fun _ _ e => e)
    obtain ⟨v, rfl, hq⟩ := z
    exact wpAny_pure hq
end
section
variable {X : Cx} {k : Nat} {f C : Addr} {c : Str} {F : List D → M D}
/-- a def that raises nothing here, called at any room -/
theorem callN {A' : Around} {E' : Value → Shared → Prop} {pins : List (Addr × Obj)} {σ : SV} {H : Hp} {s : Shared} {Q : VK} {us : List Value} {vs : List V} {xs : List D} {m : MM} {t : Sto} {W' : WX} (G : FnJ X.prog X.w X.K X.mg X.base k f F) (hr : Room k A') (hgd : A'.guards = some [])
    (e0 : Env0 X.prog X.w X.K X.mg X.base A' X.stack s H) (I : Inv X pins σ H s) (rv : Vals vs us) (hR : R X.K X.mg m t H) (hV : RVs X.K m (hid m H) xs vs) (hG : Go W' X.K X.mg [] (RV X.K) m H (nox (F xs) t) Q) :
    wpAny (model X.prog X.w) A' (call (.ref f) us) (EP X pins σ Q) E' s := by
  refine wpAny_call (codeAny_mono (G A' X.stack s H us vs xs m t Q (fun _ _ _ => False) hr hgd e0 rv hR hV ?_) fun r s' hq => ?_)
  · have g2 := Go.nox hG
    cases q : F xs t with
    | ok d' s' => rw [q] at g2; exact g2
    | exc c' fs' s' => unfold nox at hG; rw [q] at hG; exact hG.elim
    | bad => rw [q] at g2; exact g2.elim
  · cases r with
    | error er => obtain ⟨_, _, _, _, _, _, _, _, _, _, _, _, z⟩ := hq; exact z.elim
    | ok fl =>
      cases fl with
      | ret u => exact I.after hq
      | next => exact hq.elim
      | brk => exact hq.elim
      | cont => exact hq.elim
/-- both instances of the class c -/
def both (c : Str) (x y : D) (s : Sto) : Bool := match insV s x, insV s y with
  | some (c1, _), some (c2, _) => c1 == c && c2 == c
  | _, _ => false
theorem both_at {m : MM} {s : Sto} {H : Hp} {x y : D} {v u : V} (hm : X.mg c = some (.ref C)) (hR : R X.K X.mg m s H) (rx : RV X.K m (hid m H) x v) (ry : RV X.K m (hid m H) y u) (h : both c x y s = true) :
    ∃ a dx gs b dy hs, v = .ref a ∧ u = .ref b ∧ H a = some (.ins C dx gs) ∧ H b = some (.ins C dy hs) := by
  unfold both at h
  split at h
  · rename_i c1 f1 c2 f2 e1 e2
    rw [Bool.and_eq_true] at h
    have q1 := eq_of_beq h.1
    have q2 := eq_of_beq h.2
    subst q1
    subst q2
    obtain ⟨a, C1, dx, gs, rfl, h1, h2, _⟩ := insV_at hR rx e1
    obtain ⟨b, C2, dy, hs, rfl, h3, h4, _⟩ := insV_at hR ry e2
    rw [hm] at h1 h3
    cases h1
    cases h3
    exact ⟨a, dx, gs, b, dy, hs, rfl, rfl, h2, h4⟩
  · cases h
def dOwn (c : Str) (F : List D → M D) (o : D → D → M D) (x y : D) : M D := fun s => if both c x y s = true then nox (F [x, y]) s else o x y s
theorem inst_at {pins : List (Addr × Obj)} {σ : SV} {H : Hp} {s : Shared} {a dx : Addr} {gs : List (Str × V)} (I : Inv X pins σ H s) (h : H a = some (.ins C dx gs)) : ∃ ox od, PySem.W.InstAt s.heap a ox C od := by
  obtain ⟨mA, O, _⟩ := ins_get I.hok h
  obtain ⟨od, J, _⟩ := O.look
  exact ⟨_, _, J⟩
theorem back_of {v : V} {u : Value} {Q : Value → Shared → Prop} {s : Shared} (r : RelV v u) (h : Q u s) : PySem.W.CmpBack Q u s := by
  cases u <;> first | exact h | (cases v <;> first | exact (nomatch r) | (obtain ⟨_, z⟩ := r; exact nomatch z))
theorem oi_own {op : Operator} {o : D → D → M D} (ob : OpI X (binaryOp op) o) (hm : X.mg c = some (.ref C)) (hsf : PySem.W.selfFirst X.K C = true) (hs : PySem.W.findIn X.K (.ref C) (PySem.dunder op.info.2) = some (some (.ref f))) (hf : PySem.W.isFn X.K (.ref f) = true)
    (G : FnJ X.prog X.w X.K X.mg X.base k f F) (hr : Room k X.A) (hgd : X.A.guards = some []) : OpI X (binaryOp op) (dOwn c F o) := by
  intro pins sh σ H v u v' u' Q I rv ru ⟨m, x, y, s, hR, hx, hy, hg⟩
  unfold dOwn at hg
  split at hg
  · rename_i hb
    obtain ⟨a, dx, gs, b, dy, hs', rfl, rfl, h1, h2⟩ := both_at hm hR hx hy hb
    obtain rfl : v' = Value.ref a := rv
    obtain rfl : u' = Value.ref b := ru
    obtain ⟨ox, od, J⟩ := inst_at I h1
    obtain ⟨oy, oe, J'⟩ := inst_at I h2
    obtain ⟨m', hF⟩ := I.fr
    refine PySem.W.binop_K hF I.ok.mod.kin J J'.type hsf hs hf (wpAny_mono (callN (vs := [.ref a, .ref b]) G hr hgd I.env0 I (.cons rfl (.cons rfl .nil)) hR (.cons hx (.cons hy .nil)) hg) (fun w s' z => ?_) fun _ _ z => z)
    obtain ⟨z', H', I', rz, qz⟩ := z
    exact back_of rz ⟨z', H', I', rz, qz⟩
  · exact ob pins sh σ H v u v' u' Q I rv ru ⟨m, x, y, s, hR, hx, hy, hg⟩
theorem oi_eqOwn {o : D → D → M D} (ob : OpI X (compareOp .Eq) o) (hm : X.mg c = some (.ref C)) (hn : PySem.W.notFirst X.K C (.ref C) = true) (hs : PySem.W.findIn X.K (.ref C) "__eq__" = some (some (.ref f))) (hf : PySem.W.isFn X.K (.ref f) = true)
    (G : FnJ X.prog X.w X.K X.mg X.base k f F) (hr : Room k X.A) (hgd : X.A.guards = some []) : OpI X (compareOp .Eq) (dOwn c F o) := by
  intro pins sh σ H v u v' u' Q I rv ru ⟨m, x, y, s, hR, hx, hy, hg⟩
  unfold dOwn at hg
  split at hg
  · rename_i hb
    obtain ⟨a, dx, gs, b, dy, hs', rfl, rfl, h1, h2⟩ := both_at hm hR hx hy hb
    obtain rfl : v' = Value.ref a := rv
    obtain rfl : u' = Value.ref b := ru
    obtain ⟨ox, od, J⟩ := inst_at I h1
    obtain ⟨oy, oe, J'⟩ := inst_at I h2
    obtain ⟨m', hF⟩ := I.fr
    show wpAny _ _ (richCompare .Eq _ _) _ _ _
    refine PySem.W.cmp_K (op := .Eq) (tb := .ref C) hr.units0 hF I.ok.mod.kin J J'.type hn hs hf (wpAny_mono (callN (vs := [.ref a, .ref b]) G hr hgd I.env0 I (.cons rfl (.cons rfl .nil)) hR (.cons hx (.cons hy .nil)) hg) (fun w s' z => ?_) fun _ _ z => z)
    obtain ⟨z', H', I', rz, qz⟩ := z
    exact back_of rz ⟨z', H', I', rz, qz⟩
  · exact ob pins sh σ H v u v' u' Q I rv ru ⟨m, x, y, s, hR, hx, hy, hg⟩
theorem bind_ne (self : Value) : bindSpecial (.builtin "object.__ne__") self = pure (.builtin "object.__ne__", [self]) := by
  unfold bindSpecial
  first | rfl | (simp only [F.cmpKind_ne]; rfl) | kernel_rfl
def notR (r : Res D) : Res D := match r with | .ok (.bl k) s => .ok (.bl (!k)) s | _ => .bad
def dOwnNe (c : Str) (F : List D → M D) (o : D → D → M D) (x y : D) : M D := fun s => if both c x y s = true then notR (F [x, y] s) else o x y s
theorem oi_neOwn {o : D → D → M D} (ob : OpI X (compareOp .NotEq) o) (hm : X.mg c = some (.ref C)) (hn : PySem.W.notFirst X.K C (.ref C) = true) (hs : PySem.W.findIn X.K (.ref C) "__eq__" = some (some (.ref f))) (hf : PySem.W.isFn X.K (.ref f) = true)
    (hne : PySem.W.findIn X.K (.ref C) "__ne__" = some (some (.builtin "object.__ne__"))) (hob : PySem.W.subIn X.K (.ref C) (.type "object") = some true)
    (G : FnJ X.prog X.w X.K X.mg X.base k f F) (hr : Room (k + 1) X.A) (hgd : X.A.guards = some []) : OpI X (compareOp .NotEq) (dOwnNe c F o) := by
  intro pins sh σ H v u v' u' Q I rv ru ⟨m, x, y, s, hR, hx, hy, hg⟩
  unfold dOwnNe at hg
  split at hg
  · rename_i hb
    obtain ⟨a, dx, gs, b, dy, hs', rfl, rfl, h1, h2⟩ := both_at hm hR hx hy hb
    obtain rfl : v' = Value.ref a := rv
    obtain rfl : u' = Value.ref b := ru
    obtain ⟨ox, od, J⟩ := inst_at I h1
    obtain ⟨oy, oe, J'⟩ := inst_at I h2
    have hg2 : Go W0 X.K X.mg [] (RV X.K) m H (nox (F [x, y]) s) (fun w H' => ∃ kk, w = .bl kk ∧ Q (.bl (!kk)) H') := by
      unfold notR at hg
      unfold nox
      cases q : F [x, y] s with
      | ok d s' =>
        rw [q] at hg
        intro w m' H' ee rr vv
        cases d with
        | bl kk =>
          cases vv
          exact ⟨kk, rfl, hg _ m' H' ee rr (.bl _)⟩
        | _ => exact hg.elim
      | exc c' fs' s' => rw [q] at hg; exact hg.elim
      | bad => rw [q] at hg; exact hg.elim
    have hin : PySem.W.Looks (model X.prog X.w) sh.heap (isInstance (.ref a) (.type "object")) true := J.type.andThen (PySem.W.looks_subIn I.kIn hob)
    have hbd : ∀ self, PySem.W.Looks (model X.prog X.w) sh.heap (bindSpecial (.builtin "object.__ne__") self) (.builtin "object.__ne__", [self]) := fun self => PySem.W.Looks.of_pure (bind_ne self)
    show wpAny _ _ (richCompare .NotEq _ _) _ _ _
    refine ne_own (tb := .ref C) (by have := hr.units; omega) I.kIn J J'.type hn hne hs hf hbd hin (wpAny_mono (callN (vs := [.ref a, .ref b]) G hr.in1 hgd I.env0.in1 I (.cons rfl (.cons rfl .nil)) hR (.cons hx (.cons hy .nil)) hg2) (fun w s' z => ?_) fun _ _ z => z)
    obtain ⟨z', H', I', rz, kk, rfl, qz⟩ := z
    cases (show w = Value.bool kk from rz)
    exact ⟨kk, rfl, .bl (!kk), H', I', rfl, qz⟩
  · exact ob pins sh σ H v u v' u' Q I rv ru ⟨m, x, y, s, hR, hx, hy, hg⟩
end
end RQ

/-! instances called; defs with *rest; star arguments -/
namespace RQ
open PySem PySem.Spec PyProof.Rows L2
section
variable {X : Cx} {W : WX} {k : Nat} {f C : Addr} {c : Str} {F : List D → M D} {a o e fe : Expr} {es : List Expr} {fs : EV → M (List D)} {fo : EV → M D} {pos p : Pos}
/-- f(e, ..), f an instance of the class c -/
def isC (c : Str) (x : D) (s : Sto) : Bool := match insV s x with | some (c1, _) => c1 == c | none => false
def mCallO (c : Str) (F : List D → M D) (fo : EV → M D) (fs : EV → M (List D)) : EV → M D := fun σ => bnd (fo σ) fun x s => if isC c x s = true then bnd (fs σ) (fun xs s2 => if isC c x s2 = true then F (x :: xs) s2 else .bad) s else .bad
theorem isC_at {m : MM} {s : Sto} {H : Hp} {x : D} {v : V} (hm : X.mg c = some (.ref C)) (hR : R X.K X.mg m s H) (rx : RV X.K m (hid m H) x v) (h : isC c x s = true) : ∃ ad dx gs, v = .ref ad ∧ H ad = some (.ins C dx gs) := by
  unfold isC at h
  split at h
  · rename_i c1 f1 e1
    have q1 := eq_of_beq h
    subst q1
    obtain ⟨ad, C1, dx, gs, rfl, h1, h2, _⟩ := insV_at hR rx e1
    rw [hm] at h1
    cases h1
    exact ⟨ad, dx, gs, rfl, h2⟩
  · cases h
theorem ie_callO (hm : X.mg c = some (.ref C)) (co : StX.CallO X.K C f) (G : FnJ X.prog X.w X.K X.mg X.base k f F) (hr : Room k X.A) (hgd : X.A.guards = some []) (tk : Takes X W) (hf : IE X W fe fo) (ha : IA X W (a :: es) fs)
    (ht : eval (.Call fe (a :: es) [] pos) X.env = (do callWith pos (← eval fe X.env) [] (backTo pos (starEach (a :: es) X.env)) (backToKw pos (keywordEach [] X.env))) := by rfl)
    (he : starEach (a :: es) X.env = (false, eval a X.env) :: starEach es X.env := by rfl) (hpl : (backTo pos (starEach es X.env)).any (·.1) = false := by rfl) : IE X W (.Call fe (a :: es) [] pos) (mCallO c F fo fs) := by
  refine ⟨⟨fun pins sh σ H Q I ⟨m, σd, t, hR, hS, hG⟩ => ?_⟩⟩
  refine Call_ (thn (hf.pe.run pins sh σ H _ I ⟨m, σd, t, hR, hS, Go.bnd (rel := RV X.K) hG⟩) fun u s1 ⟨v, H1, I1, rx, m1, d, t1, e1, r1, v1, g1⟩ => ?_) ht
  split at g1
  · rename_i hc1
    obtain ⟨ad, dx, gs, rfl, h1⟩ := isC_at hm r1 v1 hc1
    obtain rfl : u = Value.ref ad := rx
    refine StX.callO_with (thn (ha.pa.run pos pins s1 σ H1 _ I1 ⟨m1, σd, t1, r1, hS.mono e1.pre e1.same, Go.bnd (rel := RVs X.K) g1⟩) fun us s2 ⟨vs, H2, I2, rv, m2, xs, t2, e2, r2, v2, g2⟩ => ?_) he hpl
    split at g2
    · rename_i hc2
      have v1' := v1.mono e2.pre e2.same
      obtain ⟨ad', dx', gs', ead, h2⟩ := isC_at hm r2 v1' hc2
      cases ead
      obtain ⟨ox, od, J, hd⟩ := StX.insC_at I2 (.inr ⟨dx', gs', h2⟩)
      refine ⟨⟨C, ox, od, J, hd⟩, wpAny_call (PySem.W.kco_code I2.kIn J hd co.at_ co.fn co.fi ?_)⟩
      refine codeAny_mono (G X.A X.stack s2 H2 (.ref ad :: us) (.ref ad :: vs) (d :: xs) m2 t2 Q (fun c d H => W c d σ H) hr hgd I2.env0 (.cons rfl rv) r2 (.cons v1' v2) (Go.we (pins := pins) g2)) fun r s' hq => ?_
      cases r with
      | error e => exact tk e s' (XE.of_call I2 (fun _ _ _ z => z) hq)
      | ok fl =>
        cases fl with
        | ret u => exact I2.after hq
        | next => exact hq.elim
        | brk => exact hq.elim
        | cont => exact hq.elim
    · exact g2.elim
  · exact g1.elim
end
/-! ### def f(a, .., *rest) -/
def starF (n : Nat) (F : List D → M D) : List D → M D := fun xs s => if n ≤ xs.length ∧ xs.length ≤ lim then F (xs.take n ++ [.tup (xs.drop n)]) s else .bad
section
variable {P : Program} {w : World} {K : PySem.W.Frag} {mg : Str → Option Value} {base : Heap} {k : Nat}
theorem fn_istar {x qual pv : Str} {st : Stmt} {f : Addr} {fd : FuncData} {N ps : List Str} {B : SM} {n np : Nat} (hn : N.length = n) (hp : ps.length = np) (F : Fn K x qual st f fd) (S : FnScope N (ps ++ [pv]) (defScope st)) (hCX : StX.CXUp (L2.CX P w))
    (hb : ∀ us rest : List Value, us.length = ps.length → bindArgs fd ⟨us ++ rest, []⟩ = (newTuple rest >>= fun t => pure (ps.zip us ++ [(pv, t)])))
    (hB : ∀ (cdv : Value) (A : Around) (outer : List Env) (s : Shared) (H : Hp) (E : XK), Room k (A.deeper (envOfC qual (defScope st) s.heap.objs.size f cdv)) → A.guards = some [] →
      ISs (cxOf (L2.CX P w) P w K mg base N qual (defScope st) f cdv A outer s H E) (WE E) (defBody st) B) : FnJ P w K mg base (k + 1) f (starF np (runB n B)) := by
  subst hn
  subst hp
  obtain ⟨oc, od, dV, kV, doc, pm, an, cdv, ct, osl, rfl, lk, hcd⟩ := F.at'
  intro A outer s H us vs ds m t Q E hr hgd e0 rv hR hV hG
  unfold starF at hG
  split at hG
  · rename_i hl
    obtain ⟨l1, l2⟩ := hl
    have hvl := hV.length
    obtain ⟨u1, u2, eu, q1, q2⟩ := StX.vals_split (show Vals (vs.take ps.length ++ vs.drop ps.length) us by rw [List.take_append_drop]; exact rv)
    subst eu
    have z1 : (vs.take ps.length).length = ps.length := by rw [List.length_take]; omega
    have hl1 : u1.length = ps.length := by rw [← q1.length]; exact z1
    have hz : (vs.drop ps.length).length ≤ sizeLine := by
      rw [List.length_drop]
      exact Nat.le_trans (Nat.sub_le _ _) (by rw [hvl]; exact lim_le l2)
    have fresh : H s.heap.objs.size = none := e0.hok.fresh (Nat.le_refl _)
    refine StX.run_bnd lk hcd S hr e0 (G := fun xs H2 => ∃ p, H p = none ∧ xs = vs.take ps.length ++ [V.ref p] ∧ H2 = upd H p (.tup (vs.drop ps.length))) (fun A' Ex Q' h => ?_) fun s2 H2 xs ⟨p, hp, ex, eH⟩ hr' => ?_
    · rw [hb u1 u2 hl1]
      refine wpAny_bind (wpAny_newTuple (wpAny_pure ?_) (by rw [← q2.length]; exact hz))
      have nob : ObjOk P w (upd H s.heap.objs.size (.tup (vs.drop ps.length))) (s.heap.push ({ cls := .type "tuple", data := .seq u2.toArray } : Obj)) s.heap.objs.size (.tup (vs.drop ps.length)) := ⟨hz, u2, q2, ⟨_, Heap.get?_push_size _ rfl, rfl, _, rfl⟩⟩
      have unl := StX.un_laid (fs := frs outer) (s := s) (o := ({ cls := .type "tuple", data := .seq u2.toArray } : Obj)) (u := .tup (vs.drop ps.length)) fresh
      have zz := h _ _ (vs.take ps.length ++ [V.ref s.heap.objs.size]) (u1 ++ [Value.ref s.heap.objs.size]) (StX.env0_laid e0 nob) unl rfl (fun e s' => hCX outer s H _ _ E e s' unl (fun b o q => Heap.get?_push_of_some _ q) rfl) (q1.append (.cons rfl .nil))
        (by rw [List.length_append, List.length_append, z1]; rfl) ⟨_, fresh, rfl, rfl⟩
      rw [List.zip_append hl1.symm] at zz
      exact zz
    · subst ex eH
      obtain ⟨e1, r1, hh⟩ := hR.newF (o := .tup (vs.drop ps.length)) hp
      have v1 : RVs K m (hid m (upd H p (.tup (vs.drop ps.length)))) (ds.take ps.length ++ [.tup (ds.drop ps.length)]) (vs.take ps.length ++ [.ref p]) :=
        ((hV.mono e1.pre e1.same).take _).append (.cons (.tup (.inl (.inl hh)) ((hV.mono e1.pre e1.same).drop _)) .nil)
      refine ⟨_, (hB cdv A outer s2 _ E hr' hgd).ps, m, _, t, r1, rs_start v1, ?_⟩
      have hG2 := Go.ext e1 hG
      unfold runB at hG2
      cases e : B ((ds.take ps.length ++ [D.tup (ds.drop ps.length)]).map some ++ List.replicate (N.length - (ds.take ps.length ++ [D.tup (ds.drop ps.length)]).length) none) t with
      | go fl σ' s' =>
        rw [e] at hG2
        cases fl with
        | nx => exact fun σ2 m2 H2 e2 r2 _ => hG2 _ m2 H2 e2 r2 .non
        | rt d => exact fun σ2 m2 H2 e2 r2 _ v hv => hG2 v m2 H2 e2 r2 hv
        | bk => exact hG2.elim
        | ct => exact hG2.elim
      | exc c fs σ' s' =>
        rw [e] at hG2
        exact fun C d σ2 m2 H2 e2 r2 _ hc hx => hG2 C d m2 H2 e2 r2 hc hx
      | bad => rw [e] at hG2; exact hG2.elim
  · exact hG.elim
end
end RQ

/-! small helps for the printed walks: classes -/
namespace RQ
open PySem PySem.Spec PyProof.Rows L2
section
variable {X : Cx} {k j : Nat} {C f p : Addr} {c mn : Str} {F : List D → M D} {alts : Alts}
theorem alt0 : AltOk X k mn [] := fun c F h => by simp at h
theorem altC (hm : X.mg c = some (.ref C)) (hc : Cls X.K C) (hM : Meth X.K C mn f) (G : FnJ X.prog X.w X.K X.mg X.base j f F) (hj : j ≤ k) (r : AltOk X k mn alts) : AltOk X k mn ((c, F) :: alts) := fun c' F' h => by
  rw [List.lookup_cons] at h
  split at h
  · rename_i e
    cases h
    have e' := eq_of_beq e
    subst e'
    exact ⟨C, f, hm, hc, hM, G.mono hj⟩
  · exact r c' F' h
theorem prop0 : PropOkD X k mn [] := fun c F h => by simp at h
theorem propC (hm : X.mg c = some (.ref C)) (hc : Cls X.K C) (hP : PropOf X.K C mn p f) (G : FnJ X.prog X.w X.K X.mg X.base j f F) (hj : j ≤ k) (r : PropOkD X k mn alts) : PropOkD X k mn ((c, F) :: alts) := fun c' F' h => by
  rw [List.lookup_cons] at h
  split at h
  · rename_i e
    cases h
    have e' := eq_of_beq e
    subst e'
    exact ⟨C, p, f, hm, hc, hP, G.mono hj⟩
  · exact r c' F' h
theorem clsF0 {fn : Str} : ClsF X [] fn := fun c h => by cases h
theorem clsFC {fn : Str} {cs : List Str} (hm : X.mg c = some (.ref C)) (hc : Cls X.K C) (hn : NoAttr X.K C fn) (r : ClsF X cs fn) : ClsF X (c :: cs) fn := fun c' h C' hm' => by
  rcases List.mem_cons.mp h with e | e
  · subst e
    rw [hm] at hm'
    cases hm'
    exact ⟨hc, hn⟩
  · exact r c' e C' hm'
end
end RQ

/-! isinstance with own classes; lists unpacked; C(*xs) -/
namespace RQ
open PySem PySem.Spec PyProof.Rows L2
/-- what a class must say, so that isinstance asks its instances rightly -/
structure CIs (K : PySem.W.Frag) (C : Addr) : Prop where
  ha : PySem.W.findIn K (.ref C) "__class__" = some (some (.builtin "object.__class__"))
  hn : PySem.W.specialIn K (.builtin "object.__class__") "__get__" = some (some (.builtin "getset_descriptor.__get__"))
  htk : PySem.W.takesIn K (.builtin "object.__class__") = some true
  hm : PySem.W.mroIn K C (.type "object") = some true
/-- no plain value is an instance of C -/
structure KitC (K : PySem.W.Frag) (C : Addr) : Prop where
  non : PySem.W.kitOne K (.type "NoneType") (.ref C) = some false
  bl : PySem.W.kitOne K (.type "bool") (.ref C) = some false
  int : PySem.W.kitOne K (.type "int") (.ref C) = some false
  str : PySem.W.kitOne K (.type "str") (.ref C) = some false
  tup : PySem.W.kitOne K (.type "tuple") (.ref C) = some false
  lst : PySem.W.kitOne K (.type "list") (.ref C) = some false
  dic : PySem.W.kitOne K (.type "dict") (.ref C) = some false
theorem KitC.of {K : PySem.W.Frag} {C : Addr} (h : KitC K C) {s : Sto} {x : D} {t : String} (e : tyN s x = some t) : PySem.W.kitOne K (.type t) (.ref C) = some false := by
  unfold tyN at e
  split at e
  · cases e; exact h.non
  · cases e; exact h.bl
  · cases e; exact h.int
  · cases e; exact h.str
  · cases e; exact h.tup
  · cases e; exact h.lst
  · cases e; exact h.lst
  · cases e; exact h.dic
  · split at e
    · cases e; exact h.lst
    · cases e; exact h.dic
    · cases e
  · cases e
section
variable {X : Cx} {W : WX} {k : Nat} {f C : Addr} {c x : Str} {F : List D → M D} {a o e : Expr} {es : List Expr} {fs : EV → M (List D)} {fo : EV → M D} {pos p p2 pp : Pos}
abbrev ITab := List (Str × Bool)
def TabOk (X : Cx) (C : Addr) (tab : ITab) : Prop := ∀ c b, tab.lookup c = some b → ∃ C', X.mg c = some (.ref C') ∧ Cls X.K C' ∧ CIs X.K C' ∧ PySem.W.kitOne X.K (.ref C') (.ref C) = some b
theorem tab0 : TabOk X C [] := fun c b h => by simp at h
theorem tabC {C' : Addr} {b : Bool} {tab : ITab} (hm : X.mg c = some (.ref C')) (hc : Cls X.K C') (hi : CIs X.K C') (hk : PySem.W.kitOne X.K (.ref C') (.ref C) = some b) (r : TabOk X C tab) : TabOk X C ((c, b) :: tab) := fun c' b' h => by
  rw [List.lookup_cons] at h
  split at h
  · rename_i e
    cases h
    have e' := eq_of_beq e
    subst e'
    exact ⟨C', hm, hc, hi, hk⟩
  · exact r c' b' h
def gIsi (tab : ITab) (x : D) : M D := fun s => match insV s x with
  | some (c, _) => (match tab.lookup c with | some b => .ok (.bl b) s | none => .bad)
  | none => (match tyN s x with | some _ => .ok (.bl false) s | none => .bad)
def mIsi (tab : ITab) (fo : EV → M D) : EV → M D := fun σ => bnd (fo σ) (gIsi tab)
def cIsiC (C : Addr) (tab : ITab) (xs : List D) : M D := fun s => match xs with | [x, .obj C'] => (if C' = C then gIsi tab x s else .bad) | _ => .bad
theorem ci_isiC {tab : ITab} (ok : TabOk X C tab) (kc : KitC X.K C) : CallI X (.builtin "isinstance") (cIsiC C tab) := by
  refine call_mono call_isi fun vs H Q ⟨m, xs, s, hR, hx, hg⟩ => ?_
  unfold cIsiC at hg
  split at hg
  · rename_i x C'
    split at hg
    · rename_i hC
      subst hC
      obtain ⟨v, u, rfl, q, q'⟩ := rv2 hx
      cases q'
      unfold gIsi at hg
      split at hg
      · rename_i c fs e
        split at hg
        · rename_i b eb
          obtain ⟨ad, C1, dx, gs, rfl, h1, h2, _⟩ := insV_at hR q e
          obtain ⟨C2, g1, g2, g3, g4⟩ := ok c b eb
          rw [h1] at g1
          cases g1
          exact ⟨.ref ad, _, .ref C1, _, b, rfl, .own _, .base (.ins h2 g2 g3.ha g3.hn g3.htk g3.hm), g4, hg.ok hR (.bl _)⟩
        · exact hg.elim
      · split at hg
        · rename_i t et
          exact ⟨v, _, .type t, _, false, rfl, .own _, tyN_ok hR q et, kc.of et, hg.ok hR (.bl _)⟩
        · exact hg.elim
    · exact hg.elim
  · exact hg.elim
theorem ie_isiC {tab : ITab} (ok : TabOk X C tab) (kc : KitC X.K C) (hg : Gl X "isinstance") (hz : X.mg "isinstance" = none) (hgc : Gl X c) (hm : X.mg c = some (.ref C)) (ho : IE X W o fo)
    (hdb : (c == ("__debug__" : Str)) = false := by decide)
    (he : starEach (o :: [.Name c p2]) X.env = (false, eval o X.env) :: starEach [.Name c p2] X.env := by rfl) :
    IE X W (.Call (.Name "isinstance" pp) [o, .Name c p2] [] pos) (mIsi tab fo) := by
  have h2 : IE X W (.Name c p2) (cst (.obj C)) := ie_glob (v := .ref C) hgc hm rfl (fun _ _ => .obj C) hdb
  have h := ie_callB (pos := pos) (pp := pp) (ci_isiC ok kc) hg hz bt_isinstance (ia_cons ho (ia_cons h2 ia_nil rfl) he) (by decide) (by decide) he
  refine ⟨pe_mono h.pe fun σ H Q ⟨m, σd, s, hR, hS, hG⟩ => ⟨m, σd, s, hR, hS, ?_⟩⟩
  have e : mC (cIsiC C tab) (aCons fo (aCons (cst (.obj C)) aNil)) σd s = (fo σd s).bnd fun x => nox (gIsi tab x) := by
    unfold mC aCons aNil cst bnd ret
    cases fo σd s with
    | ok d s' =>
      show nox (cIsiC C tab [d, .obj C]) s' = nox (gIsi tab d) s'
      unfold nox cIsiC
      simp only [↓reduceIte]
    | exc c fs s' => rfl
    | bad => rfl
  rw [e]
  have e2 : mIsi tab fo σd s = (fo σd s).bnd fun x => nox (gIsi tab x) := by
    unfold mIsi bnd
    cases fo σd s with
    | ok d s' =>
      show gIsi tab d s' = nox (gIsi tab d) s'
      unfold nox gIsi
      split
      · split <;> rfl
      · split <;> rfl
    | exc c fs s' => rfl
    | bad => rfl
  rw [← e2]
  exact hG
/-! ### a, b, .. = a list -/
def tLst (gs : TFs) : TF := fun d σ => match d with | .lst ds => gs ds σ | _ => none
theorem ig_lst {vs : List Nat} {es : List Expr} {k n : Nat} {gs : TFs} (hc : X.calm = true) (h : IGs X vs es n gs) (hn : (assignEach es X.env).length = n := by rfl) (hst : (assignEach es X.env).findIdx? (·.1) = none := by rfl) : IG X vs (.Tuple es k pos) (tLst gs) := by
  refine ⟨pg_mono (pg_lst hc h.pg hn hst) fun v σ H Q ⟨m, d, σd, s, σd', hR, hv, hS, hg, hQ⟩ => ?_⟩
  unfold tLst at hg
  split at hg
  · cases hv with
    | lst q qs => exact ⟨_, _, rfl, .inl (.inl (hid_sub _ _ _ _ q)), by rw [qs.length]; exact h.len _ _ _ hg, m, _, σd, s, σd', hR, qs, hS, hg, hQ⟩
  · cases hg
/-! ### C(*xs) -/
def seqAny (s : Sto) (x : D) : Option (List D) := match x with
  | .tup ds => some ds
  | x => asLL s x
theorem seqAny_at {m : MM} {s : Sto} {H : Hp} {x : D} {v : V} {ds : List D} (hR : R X.K X.mg m s H) (r : RV X.K m (hid m H) x v) (h : seqAny s x = some ds) : ∃ ad vs, v = .ref ad ∧ (SqT X.K H ad vs ∨ SqL X.K H ad vs) ∧ RVs X.K m (hid m H) ds vs := by
  unfold seqAny at h
  split at h
  · cases h
    obtain ⟨a, vs, rfl, h1, h2⟩ := tup_at r
    exact ⟨a, vs, rfl, .inl h1, h2⟩
  · obtain ⟨a, vs, rfl, h1, h2⟩ := asLL_at hR r h
    exact ⟨a, vs, rfl, .inr h1, h2⟩
def mMkS (c : Str) (F : List D → M D) (fo : EV → M D) : EV → M D := fun σ => bnd (fo σ) fun x s => match seqAny s x with | some ds => mMk c F ds s | none => .bad
theorem ie_makeS (M : Mk X.K C f) (G : FnJ X.prog X.w X.K X.mg X.base k f F) (hr : Room (k + 1) X.A) (hgd : X.A.guards = some []) (tk : Takes X W) (hg : Gl X x) (hm : X.mg x = some (.ref C)) (hns : PySem.W.nsIn X.K mainGlobals x = some (some (.ref C))) (ho : IE X W o fo)
    (hdb : (x == ("__debug__" : Str)) = false := by decide) (hst : starEach [.Starred o p2] X.env = [(true, eval o X.env)] := by rfl) :
    IE X W (.Call (.Name x p) [.Starred o p2] [] pos) (mMkS x F fo) := by
  refine ⟨⟨fun pins s σ H Q I ⟨m, σd, t, hR, hS, hG⟩ => ?_⟩⟩
  refine wpAny_Call_Name_kw (ld_glob I hg hm (PySem.W.callWith_S (h₀ := X.base) I.ok.mod.kin M.kp (thn (ho.pe.run pins s σ H _ I ⟨m, σd, t, hR, hS, Go.bnd (rel := RV X.K) hG⟩) fun u s1 ⟨v, H1, I1, rx, m1, d, t1, e1, r1, v1, g1⟩ => ?_) hst) hdb)
  split at g1
  · rename_i ds e
    obtain ⟨ad, vs, rfl, h1, h2⟩ := seqAny_at r1 v1 e
    obtain rfl : u = Value.ref ad := rx
    exact StX.star_any I1 h1 fun us s2 I2 rv => ⟨I2.kIn, makeJ M hns G hr hgd tk I2 rv r1 h2 g1⟩
  · exact g1.elim
end
end RQ

/-! what a call has made and will not change any more becomes plain data: the store shrinks to what stood before -/
namespace RQ
open PySem PySem.Spec PyProof.Rows L2
/-- all references are below n -/
inductive Cl (n : Nat) : D → Prop where
  | non : Cl n .non
  | bl (b : Bool) : Cl n (.bl b)
  | int (i : Int) : Cl n (.int i)
  | str (x : Str) : Cl n (.str x)
  | ty (x : String) : Cl n (.ty x)
  | obj (a : Addr) : Cl n (.obj a)
  | ref {k : Nat} : k < n → Cl n (.ref k)
  | tup {xs : List D} : (∀ x ∈ xs, Cl n x) → Cl n (.tup xs)
  | lst {xs : List D} : (∀ x ∈ xs, Cl n x) → Cl n (.lst xs)
  | sls {xs : List D} : (∀ x ∈ xs, Cl n x) → Cl n (.sls xs)
  | dic {kvs : List (Key × D)} : (∀ x ∈ kvs.map (·.2), Cl n x) → Cl n (.dic kvs)
  | ins {c : Str} {fs : List (Str × D)} : (∀ x ∈ fs.map (·.2), Cl n x) → Cl n (.ins c fs)
def ClO (n : Nat) : O → Prop
  | .lst xs => ∀ x ∈ xs, Cl n x
  | .dic kvs => ∀ x ∈ kvs.map (·.2), Cl n x
  | .ins _ fs => ∀ x ∈ fs.map (·.2), Cl n x
def frz (n : Nat) (s : Sto) : Nat → D → Option D
  | 0, _ => none
  | f + 1, d => match d with
    | .ref k => if k < n then some (.ref k) else match s[k]? with
      | some (.lst xs) => (allM (frz n s f) xs).map .lst
      | some (.dic kvs) => (allM (frz n s f) (kvs.map (·.2))).map fun ys => .dic ((kvs.map (·.1)).zip ys)
      | some (.ins c fs) => (allM (frz n s f) (fs.map (·.2))).map fun ys => .ins c ((fs.map (·.1)).zip ys)
      | none => none
    | .tup xs => (allM (frz n s f) xs).map .tup
    | .lst xs => (allM (frz n s f) xs).map .lst
    | .sls xs => (allM (frz n s f) xs).map .sls
    | .dic kvs => (allM (frz n s f) (kvs.map (·.2))).map fun ys => .dic ((kvs.map (·.1)).zip ys)
    | .ins c fs => (allM (frz n s f) (fs.map (·.2))).map fun ys => .ins c ((fs.map (·.1)).zip ys)
    | d => some d
section
variable {K : PySem.W.Frag} {mg : Str → Option Value} {m m' : MM} {G G' : Hp}
mutual
theorem RV.cl : ∀ {d : D} {v : V}, RV K m G d v → Cl m.ix.length d
  | _, _, .non => .non
  | _, _, .bl b => .bl b
  | _, _, .int i => .int i
  | _, _, .str x => .str x
  | _, _, .ty n => .ty n
  | _, _, .obj a => .obj a
  | _, _, .ref h => .ref (List.getElem?_eq_some_iff.mp h).1
  | _, _, .tup _ r => .tup (RVs.cl r)
  | _, _, .lst _ r => .lst (RVs.cl r)
  | _, _, .sls _ r => .sls (RVs.cl r)
  | _, _, .dic _ _ r => .dic (RVs.cl r)
  | _, _, .ins _ _ _ r => .ins (RVs.cl r)
theorem RVs.cl : ∀ {ds : List D} {vs : List V}, RVs K m G ds vs → ∀ x ∈ ds, Cl m.ix.length x
  | _, _, .nil => fun x h => by cases h
  | _, _, .cons h r => fun x hx => by
    rcases List.mem_cons.mp hx with e | e
    · rw [e]; exact RV.cl h
    · exact RVs.cl r x e
end
theorem take_at {α : Type} {l : List α} {n k : Nat} {a : α} (h : l[k]? = some a) (hk : k < n) : (l.take n)[k]? = some a := by
  rw [List.getElem?_take, if_pos hk]; exact h
mutual
theorem RV.cutN {n : Nat} (hm : m'.ix = m.ix.take n) (hs : Same G G') : ∀ {d : D} {v : V}, RV K m G d v → Cl n d → RV K m' G' d v
  | _, _, .non, _ => .non
  | _, _, .bl b, _ => .bl b
  | _, _, .int i, _ => .int i
  | _, _, .str x, _ => .str x
  | _, _, .ty n, _ => .ty n
  | _, _, .obj a, _ => .obj a
  | _, _, .ref h, c => .ref (by
      cases c with
      | ref hk => rw [hm]; exact take_at h hk)
  | _, _, .tup h r, c => .tup (sqt_mono hs h) (RVs.cutN hm hs r (by cases c with | tup q => exact q))
  | _, _, .lst h r, c => .lst (hs _ _ h) (RVs.cutN hm hs r (by cases c with | lst q => exact q))
  | _, _, .sls h r, c => .sls (sql_mono hs h) (RVs.cutN hm hs r (by cases c with | sls q => exact q))
  | _, _, .dic h e r, c => .dic (rd_mono hs h) e (RVs.cutN hm hs r (by cases c with | dic q => exact q))
  | _, _, .ins n h e r, c => .ins n (hs _ _ h) e (RVs.cutN hm hs r (by cases c with | ins q => exact q))
theorem RVs.cutN {n : Nat} (hm : m'.ix = m.ix.take n) (hs : Same G G') : ∀ {ds : List D} {vs : List V}, RVs K m G ds vs → (∀ x ∈ ds, Cl n x) → RVs K m' G' ds vs
  | _, _, .nil, _ => .nil
  | _, _, .cons h r, c => .cons (RV.cutN hm hs h (c _ List.mem_cons_self)) (RVs.cutN hm hs r fun x hx => c x (List.mem_cons_of_mem _ hx))
end
variable {s : Sto} {H : Hp} {n : Nat}
/-- the first n things of the store alone -/
def MM.cut (m : MM) (n : Nat) : MM := ⟨m.ix.take n, m.ex⟩
theorem has_cut {a : Addr} (h : (m.cut n).has a) : m.has a := h.elim (fun z => .inl (List.mem_of_mem_take z)) .inr
theorem same_cut : Same (hid m H) (hid (m.cut n) H) := fun b u q => by
  obtain ⟨q1, q2⟩ := of_hid q
  rw [hid_out fun z => q1 (has_cut z)]; exact q2
theorem R.seen (r : R K mg m s H) {k : Nat} {a : Addr} {o : HO} (h : m.ix[k]? = some a) (hk : n ≤ k) (ho : H a = some o) : hid (m.cut n) H a = some o := by
  rw [hid_out, ho]
  rintro (z | z)
  · obtain ⟨j, hj⟩ := List.getElem?_of_mem z
    rw [show (m.cut n).ix = m.ix.take n from rfl, List.getElem?_take] at hj
    split at hj
    · rename_i hjn
      obtain ⟨x1, y1⟩ := List.getElem?_eq_some_iff.mp h
      obtain ⟨x2, y2⟩ := List.getElem?_eq_some_iff.mp hj
      have := (List.getElem_inj r.nd).mp (y1.trans y2.symm)
      omega
    · cases hj
  · exact (r.ext a z).2 (List.mem_of_getElem? h)
theorem fst_zip {α β : Type} : ∀ {xs : List α} {ys : List β}, ys.length = xs.length → (xs.zip ys).map (·.1) = xs
  | [], _, _ => rfl
  | x :: xs, [], h => by simp at h
  | x :: xs, y :: ys, h => by
    rw [List.zip_cons_cons, List.map_cons, fst_zip (by simpa using h)]
theorem snd_zip {α β : Type} : ∀ {xs : List α} {ys : List β}, ys.length = xs.length → (xs.zip ys).map (·.2) = ys
  | [], [], _ => rfl
  | [], y :: ys, h => by simp at h
  | x :: xs, [], h => by simp at h
  | x :: xs, y :: ys, h => by
    rw [List.zip_cons_cons, List.map_cons, snd_zip (by simpa using h)]
theorem RV.frz (r : R K mg m s H) : ∀ (f : Nat) (d d' : D) (v : V), RV K m (hid m H) d v → frz n s f d = some d' → RV K (m.cut n) (hid (m.cut n) H) d' v
  | 0, _, _, _, _, h => by cases h
  | f + 1, d, d', v, hv, h => by
    have all : ∀ (ds ds' : List D) (vs : List V), RVs K m (hid m H) ds vs → allM (RQ.frz n s f) ds = some ds' → RVs K (m.cut n) (hid (m.cut n) H) ds' vs := by
      intro ds
      induction ds with
      | nil => intro ds' vs r e; cases r; cases e; exact .nil
      | cons d ds ih =>
        intro ds' vs rr e
        cases rr with
        | cons r1 r2 =>
          unfold allM at e
          split at e
          · rename_i a b e1 e2
            cases e
            exact .cons (RV.frz r f d _ _ r1 e1) (ih _ _ r2 e2)
          · cases e
    have sm : Same (hid m H) (hid (m.cut n) H) := same_cut
    unfold RQ.frz at h
    split at h
    · rename_i k
      cases hv with
      | ref q =>
        split at h
        · rename_i hk
          cases h
          exact .ref (take_at q hk)
        · rename_i hk
          have hk : n ≤ k := by omega
          split at h
          · rename_i xs e
            obtain ⟨ys, e2, rfl⟩ := Option.map_eq_some_iff.mp h
            obtain ⟨vs, h1, h2⟩ := r.obj _ _ _ q e
            exact .lst (r.seen q hk h1) (all _ _ _ h2 e2)
          · rename_i kvs e
            obtain ⟨ys, e2, rfl⟩ := Option.map_eq_some_iff.mp h
            obtain ⟨kws, h1, h2, h3⟩ := r.obj _ _ _ q e
            have hl := allM_len e2
            rw [List.length_map] at hl
            have hl' : ys.length = (kvs.map (·.1)).length := by rw [List.length_map]; exact hl
            refine .dic (.inl (r.seen q hk h1)) (by rw [fst_zip hl']; exact h2) ?_
            rw [snd_zip hl']
            exact all _ _ _ h3 e2
          · rename_i c fs e
            obtain ⟨ys, e2, rfl⟩ := Option.map_eq_some_iff.mp h
            obtain ⟨C, dx, gs, hm, h1, h2, h3⟩ := r.obj _ _ _ q e
            have hl := allM_len e2
            rw [List.length_map] at hl
            have hl' : ys.length = (fs.map (·.1)).length := by rw [List.length_map]; exact hl
            refine .ins hm (r.seen q hk h1) (by rw [fst_zip hl']; exact h2) ?_
            rw [snd_zip hl']
            exact all _ _ _ h3 e2
          · cases h
    · obtain ⟨ys, e2, rfl⟩ := Option.map_eq_some_iff.mp h
      cases hv with
      | tup q qs => exact .tup (sqt_mono sm q) (all _ _ _ qs e2)
    · obtain ⟨ys, e2, rfl⟩ := Option.map_eq_some_iff.mp h
      cases hv with
      | lst q qs => exact .lst (sm _ _ q) (all _ _ _ qs e2)
    · obtain ⟨ys, e2, rfl⟩ := Option.map_eq_some_iff.mp h
      cases hv with
      | sls q qs => exact .sls (sql_mono sm q) (all _ _ _ qs e2)
    · rename_i kvs
      obtain ⟨ys, e2, rfl⟩ := Option.map_eq_some_iff.mp h
      have hl := allM_len e2
      rw [List.length_map] at hl
      have hl' : ys.length = (kvs.map (·.1)).length := by rw [List.length_map]; exact hl
      cases hv with
      | dic q e qs =>
        refine .dic (rd_mono sm q) (by rw [fst_zip hl']; exact e) ?_
        rw [snd_zip hl']
        exact all _ _ _ qs e2
    · rename_i c fs
      obtain ⟨ys, e2, rfl⟩ := Option.map_eq_some_iff.mp h
      have hl := allM_len e2
      rw [List.length_map] at hl
      have hl' : ys.length = (fs.map (·.1)).length := by rw [List.length_map]; exact hl
      cases hv with
      | ins hn q e qs =>
        refine .ins hn (sm _ _ q) (by rw [fst_zip hl']; exact e) ?_
        rw [snd_zip hl']
        exact all _ _ _ qs e2
    · cases h
      cases hv with
      | non => exact .non
      | bl => exact .bl _
      | int => exact .int _
      | str => exact .str _
      | ty => exact .ty _
      | obj => exact .obj _
      | ref _ => rename_i hx _ _ _ _ _; exact absurd rfl (hx _)
      | tup _ _ => rename_i hx _ _ _ _; exact absurd rfl (hx _)
      | lst _ _ => rename_i hx _ _ _; exact absurd rfl (hx _)
      | sls _ _ => rename_i hx _ _; exact absurd rfl (hx _)
      | dic _ _ _ => rename_i hx _; exact absurd rfl (hx _)
      | ins _ _ _ _ => rename_i hx; exact absurd rfl (hx _ _)
theorem RVs.frz (r : R K mg m s H) {f : Nat} : ∀ (ds ds' : List D) (vs : List V), RVs K m (hid m H) ds vs → allM (RQ.frz n s f) ds = some ds' → RVs K (m.cut n) (hid (m.cut n) H) ds' vs
  | [], _, _, .nil, e => by cases e; exact .nil
  | d :: ds, ds', _, .cons r1 r2, e => by
    unfold allM at e
    split at e
    · rename_i a b e1 e2
      cases e
      exact .cons (RV.frz r f d _ _ r1 e1) (RVs.frz r ds _ _ r2 e2)
    · cases e
theorem R.cutR (r : R K mg m s H) (hn : n ≤ s.length) (hc : ∀ (i : Nat) (o : O), i < n → s[i]? = some o → ClO n o) : R K mg (m.cut n) (s.take n) H := by
  refine ⟨by show (m.ix.take n).length = _; rw [List.length_take, List.length_take, r.len], r.nd.sublist (List.take_sublist _ _), fun i a o h1 h2 => ?_, fun a ha => ⟨(r.ext a ha).1, fun z => (r.ext a ha).2 (List.mem_of_mem_take z)⟩, r.ns⟩
  rw [show (m.cut n).ix = m.ix.take n from rfl, List.getElem?_take] at h1
  rw [List.getElem?_take] at h2
  split at h1
  · rename_i hi
    rw [if_pos hi] at h2
    have q := r.obj i a o h1 h2
    have c := hc i o hi h2
    cases o with
    | lst ds => obtain ⟨vs, z, y⟩ := q; exact ⟨vs, z, y.cutN rfl same_cut c⟩
    | dic kvs => obtain ⟨vs, z, y, x⟩ := q; exact ⟨vs, z, y, x.cutN rfl same_cut c⟩
    | ins c' fs => obtain ⟨C, dx, gs, z, y, x, u⟩ := q; exact ⟨C, dx, gs, z, y, x, u.cutN rfl same_cut c⟩
  · cases h1
theorem RO.cl {a : Addr} : ∀ {o : O}, RO K mg m H a o → ClO m.ix.length o
  | .lst _, ⟨_, _, r⟩ => r.cl
  | .dic _, ⟨_, _, _, r⟩ => r.cl
  | .ins _ _, ⟨_, _, _, _, _, _, r⟩ => r.cl
/-- what stood before is as it was, or holds nothing new -/
def Keeps (s s' : Sto) : Prop := s.length ≤ s'.length ∧ ∀ (i : Nat) (o : O), i < s.length → s'[i]? = some o → s[i]? = some o ∨ ClO s.length o
open Classical in
noncomputable def frzR (s : Sto) (r : Res D) : Res D := match r with
  | .ok d s' => if Keeps s s' then (match frz s.length s' 20 d with | some d' => .ok d' (s'.take s.length) | none => .bad) else .bad
  | .exc c fs s' => if Keeps s s' then (match allM (frz s.length s' 20) (fs.map (·.2)) with | some ys => .exc c ((fs.map (·.1)).zip ys) (s'.take s.length) | none => .bad) else .bad
  | .bad => .bad
theorem frz_ok {s s' : Sto} {d d' : D} (h : Keeps s s') (hd : frz s.length s' 20 d = some d') : frzR s (.ok d s') = .ok d' (s'.take s.length) := by
  unfold frzR
  simp only [if_pos h, hd]
theorem frz_exc {s s' : Sto} {c : Str} {fs : List (Str × D)} {ys : List D} (h : Keeps s s') (hd : allM (frz s.length s' 20) (fs.map (·.2)) = some ys) : frzR s (.exc c fs s') = .exc c ((fs.map (·.1)).zip ys) (s'.take s.length) := by
  unfold frzR
  simp only [if_pos h, hd]
theorem Go.frz {W : WX} {σ : SV} {r : Res D} {Q : VK} (hR : R K mg m s H) (h : Go W K mg σ (RV K) m H (frzR s r) Q) : Go W K mg σ (RV K) m H r Q := by
  have key : ∀ {m' : MM} {s' : Sto} {H' : Hp}, Ext m H m' H' → R K mg m' s' H' → Keeps s s' → Ext m H (m'.cut s.length) H' ∧ R K mg (m'.cut s.length) (s'.take s.length) H' := by
    intro m' s' H' e r' k
    obtain ⟨t, ht⟩ := e.pre
    have hix : (m'.cut s.length).ix = m.ix := by
      show m'.ix.take s.length = m.ix
      rw [← ht, ← hR.len, List.take_left]
    refine ⟨⟨by rw [hix]; exact List.prefix_rfl, e.same.trans same_cut, e.exq, e.keep⟩, r'.cutR k.1 fun i o hi ho => ?_⟩
    rcases k.2 i o hi ho with q | q
    · obtain ⟨a, ha⟩ : ∃ a, m.ix[i]? = some a := ⟨_, List.getElem?_eq_getElem (by rw [hR.len]; exact hi)⟩
      have := (hR.obj i a o ha q).cl
      rw [hR.len] at this
      exact this
    · exact q
  unfold frzR at h
  cases r with
  | bad => exact h
  | ok d s' =>
    simp only at h
    split at h
    · rename_i k
      split at h
      · rename_i d' e
        intro b m' H' e' r' v'
        obtain ⟨x1, x2⟩ := key e' r' k
        exact h b _ H' x1 x2 (v'.frz r' 20 _ _ _ e)
      · exact h.elim
    · exact h.elim
  | exc c fs s' =>
    simp only at h
    split at h
    · rename_i k
      split at h
      · rename_i ys e
        intro C d m' H' e' r' hc hx
        obtain ⟨x1, x2⟩ := key e' r' k
        refine h C d _ H' x1 x2 hc ?_
        have hl := allM_len e
        have hl' : ys.length = (fs.map (·.1)).length := by rw [List.length_map]; rw [List.length_map] at hl; exact hl
        rcases hx with ⟨rfl, rfl⟩ | ⟨dx, gs, rfl, g1, g2, g3⟩
        · exact .inl ⟨rfl, rfl⟩
        · refine .inr ⟨dx, gs, rfl, same_cut _ _ g1, by rw [fst_zip hl']; exact g2, ?_⟩
          rw [snd_zip hl']
          exact RVs.frz r' _ _ _ g3 e
      · exact h.elim
    · exact h.elim
end
section
variable {X : Cx} {W : WX} {e : Expr} {f : EV → M D}
noncomputable def fz (F : M D) : M D := fun s => frzR s (F s)
noncomputable def fzE (f : EV → M D) : EV → M D := fun σ => fz (f σ)
noncomputable def fzF (F : List D → M D) : List D → M D := fun ds => fz (F ds)
theorem ie_fz (h : IE X W e f) : IE X W e (fzE f) := ⟨pe_mono h.pe fun σ H Q ⟨m, σd, s, hR, hS, hG⟩ => ⟨m, σd, s, hR, hS, Go.frz hR hG⟩⟩
variable {P : Program} {w : World} {K : PySem.W.Frag} {mg : Str → Option Value} {base : Heap} {k : Nat} {f : Addr} {fd : FuncData} {ps : List Str} {F : List D → M D}
theorem FnI.fz (h : FnI P w K mg base k f fd ps F) : FnI P w K mg base k f fd ps (fzF F) :=
  ⟨fun A outer s H args us vs ds m t Q E hr hgd e0 hb rv hl hR hV hG => h.run A outer s H args us vs ds m t Q E hr hgd e0 hb rv hl hR hV (Go.frz hR hG)⟩
theorem FnJ.fz (h : FnJ P w K mg base k f F) : FnJ P w K mg base k f (fzF F) :=
  fun A outer s H us vs ds m t Q E hr hgd e0 rv hR hV hG => h A outer s H us vs ds m t Q E hr hgd e0 rv hR hV (Go.frz hR hG)
end
end RQ

namespace RQ
open PySem PySem.Spec PyProof.Rows L2
/-! ### reckoning with the mirrors: each step where its argument is known -/
def seqR (r : SRes) (G : SM) (_ : Tie G := Tie.mk) : SRes := match r with | .go .nx σ s => G σ s | r => r
def noxR {α : Type} (r : Res α) : Res α := match r with | .exc _ _ _ => .bad | r => r
def kTst (x : D) : M Bool := match x with | .bl k => ret k | _ => bad
def kAnd (g : M D) (x : D) : M D := match x with | .bl true => g | .bl false => ret (.bl false) | _ => bad
def kOr (g : M D) (x : D) : M D := match x with | .bl true => ret (.bl true) | .bl false => g | _ => bad
def kNot (x : D) : M D := match x with | .bl k => ret (.bl (!k)) | _ => bad
def kChn (o' : D → D → M D) (h : M D) (y z : D) : M D := match z with | .bl true => bnd h fun w => nox (o' y w) | .bl false => ret (.bl false) | _ => bad
def kOso (x : D) : M (Option Int) := match x with | .int i => ret (some i) | _ => bad
def kRng (x : D) : M Src := match x with | .int j => if -(2 ^ 62) ≤ j ∧ j < 2 ^ 62 then ret (fix (rng 0 j)) else bad | _ => bad
def kDic (x y : D) : M D := match toKey x with | some k => ret (.dic [(k, y)]) | none => bad
def kAsg (o : Option EV) (s : Sto) : SRes := match o with | some σ' => .go .nx σ' s | none => .bad
section
variable {α β : Type} {σ : EV} {s : Sto}
theorem e_bnd (f : M α) (g : α → M β) : bnd f g s = (f s).bnd g := rfl
theorem e_bok (a : α) (g : α → M β) : (Res.ok a s).bnd g = g a s := rfl
theorem e_bexc (c : Str) (fs : List (Str × D)) (g : α → M β) : (Res.exc c fs s : Res α).bnd g = .exc c fs s := rfl
theorem e_ret (a : α) : ret a s = .ok a s := rfl
theorem e_nox (f : M α) : nox f s = noxR (f s) := by unfold nox noxR; cases f s <;> rfl
theorem e_nok (a : α) : noxR (.ok a s) = .ok a s := rfl
theorem e_cst (d : D) : cst d σ s = .ok d s := rfl
theorem e_yes : yes σ s = .ok true s := rfl
theorem e_get (i : Nat) {d : D} (h : σ[i]? = some (some d)) : vGet i σ s = .ok d s := by unfold vGet; rw [h]
theorem e_m2 (o : D → D → M D) (f g : EV → M D) : m2 o f g σ s = (f σ s).bnd fun x => bnd (g σ) fun y => nox (o x y) := rfl
theorem e_m1 (o : D → M D) (f : EV → M D) : m1 o f σ s = (f σ s).bnd fun x => nox (o x) := rfl
theorem e_tst (f : EV → M D) : tst f σ s = (f σ s).bnd kTst := rfl
theorem k_tst (k : Bool) : kTst (.bl k) s = .ok k s := rfl
theorem e_chn (o o' : D → D → M D) (f g h : EV → M D) : chn o o' f g h σ s = (f σ s).bnd fun x => bnd (g σ) fun y => bnd (nox (o x y)) (kChn o' (h σ) y) := rfl
theorem k_chnT (o' : D → D → M D) (h : M D) (y : D) : kChn o' h y (.bl true) s = (h s).bnd fun w => nox (o' y w) := rfl
theorem k_chnF (o' : D → D → M D) (h : M D) (y : D) : kChn o' h y (.bl false) s = .ok (.bl false) s := rfl
theorem e_and (p q : EV → M Bool) : mAnd p q σ s = (p σ s).bnd fun k => if k = true then q σ else ret false := rfl
theorem e_or (p q : EV → M Bool) : mOr p q σ s = (p σ s).bnd fun k => if k = true then ret true else q σ := rfl
theorem e_not (p : EV → M Bool) : mNot p σ s = (p σ s).bnd fun k => ret (!k) := rfl
theorem e_vand (f g : EV → M D) : vAnd f g σ s = (f σ s).bnd (kAnd (g σ)) := rfl
theorem k_andT (g : M D) : kAnd g (.bl true) s = g s := rfl
theorem k_andF (g : M D) : kAnd g (.bl false) s = .ok (.bl false) s := rfl
theorem e_vor (f g : EV → M D) : vOr f g σ s = (f σ s).bnd (kOr (g σ)) := rfl
theorem k_orT (g : M D) : kOr g (.bl true) s = .ok (.bl true) s := rfl
theorem k_orF (g : M D) : kOr g (.bl false) s = g s := rfl
theorem e_vnot (f : EV → M D) : vNot f σ s = (f σ s).bnd kNot := rfl
theorem k_not (k : Bool) : kNot (.bl k) s = .ok (.bl (!k)) s := rfl
theorem e_mif (p : EV → M Bool) (f g : EV → M D) : mIf p f g σ s = (p σ s).bnd fun k => if k = true then f σ else g σ := rfl
theorem e_anil : aNil σ s = .ok [] s := rfl
theorem e_acons (f : EV → M D) (fs : EV → M (List D)) : aCons f fs σ s = (f σ s).bnd fun x => bnd (fs σ) fun xs => ret (x :: xs) := rfl
theorem e_mC (k : List D → M D) (fs : EV → M (List D)) : mC k fs σ s = (fs σ s).bnd fun xs => nox (k xs) := rfl
theorem e_call (n : Nat) (F : List D → M D) (fs : EV → M (List D)) : mCall n F fs σ s = (fs σ s).bnd fun xs s => if xs.length = n then F xs s else .bad := rfl
theorem e_mM (T : String) (k : D → List D → M D) (f : EV → M D) (fs : EV → M (List D)) : mM T k f fs σ s = (f σ s).bnd fun x s => if isT T x s = true then bnd (fs σ) (fun xs => nox (k x xs)) s else .bad := rfl
theorem e_sl (o : D → Option Int → Option Int → M D) (f : EV → M D) (u v : EV → M (Option Int)) : mSl o f u v σ s = (f σ s).bnd fun x => bnd (u σ) fun i => bnd (v σ) fun j => nox (o x i j) := rfl
theorem e_ono : oNo σ s = .ok none s := rfl
theorem e_oso (f : EV → M D) : oSo f σ s = (f σ s).bnd kOso := rfl
theorem k_oso (i : Int) : kOso (.int i) s = .ok (some i) s := rfl
theorem e_dic1 (f g : EV → M D) : mDic1 f g σ s = noxR ((f σ s).bnd fun x => bnd (g σ) (kDic x)) := by
  unfold mDic1; rw [e_nox]; rfl
/-! statements -/
theorem e_seq (F G : SM) : sSeq F G σ s = seqR (F σ s) G := rfl
theorem e_snx (G : SM) : seqR (.go .nx σ s) G = G σ s := rfl
theorem e_srt (d : D) (G : SM) : seqR (.go (.rt d) σ s) G = .go (.rt d) σ s := rfl
theorem e_sbk (G : SM) : seqR (.go .bk σ s) G = .go .bk σ s := rfl
theorem e_sct (G : SM) : seqR (.go .ct σ s) G = .go .ct σ s := rfl
theorem e_lok (a : α) (k : α → Sto → SRes) : lft (.ok a s) σ k = k a s := rfl
theorem e_nxs : sNx σ s = .go .nx σ s := rfl
theorem e_bks : sBk σ s = .go .bk σ s := rfl
theorem e_cts : sCt σ s = .go .ct σ s := rfl
theorem e_ex (f : EV → M D) : sEx f σ s = lft (f σ s) σ fun _ s' => .go .nx σ s' := rfl
theorem e_rt (f : EV → M D) : sRt f σ s = lft (f σ s) σ fun d s' => .go (.rt d) σ s' := rfl
theorem e_set (i : Nat) (f : EV → M D) : sSet i f σ s = lft (f σ s) σ fun d s' => .go .nx (σ.set i (some d)) s' := rfl
theorem e_if (p : EV → M Bool) (F G : SM) : sIf p F G σ s = lft (p σ s) σ fun k s' => if k = true then F σ s' else G σ s' := rfl
theorem e_par (i j : Nat) (f g : EV → M D) : sPar i j f g σ s = lft ((f σ s).bnd fun x => bnd (g σ) fun y => ret (x, y)) σ fun d s' => .go .nx ((σ.set i (some d.1)).set j (some d.2)) s' := rfl
theorem e_asg (g : TF) (f : EV → M D) : sAsg g f σ s = lft (f σ s) σ fun d s' => kAsg (g d σ) s' := rfl
theorem k_asg (σ' : EV) : kAsg (some σ') s = .go .nx σ' s := rfl
theorem e_setix (f fo fi : EV → M D) : sSetIx f fo fi σ s = lft ((f σ s).bnd fun x => bnd (fo σ) fun o => bnd (fi σ) fun i => ret (x, o, i)) σ fun d s' => match dSetL d.2.1 d.2.2 d.1 s' with | some s2 => .go .nx σ s2 | none => .bad := rfl
theorem e_augix (oper : D → D → M D) (fo fi f : EV → M D) : sAugIx oper fo fi f σ s = lft ((fo σ s).bnd fun o => bnd (fi σ) fun i => bnd (nox (sAugIx.dIxL o i)) fun x => bnd (f σ) fun y => bnd (nox (oper x y)) fun z => ret (o, i, z)) σ fun d s' =>
    match dSetL d.1 d.2.1 d.2.2 s' with | some s2 => .go .nx σ s2 | none => .bad := rfl
theorem e_aug (i : Nat) (o : D → D → M D) (f : EV → M D) {x : D} (h : σ[i]? = some (some x)) : sAug i o f σ s = lft ((f σ s).bnd fun y => nox (o x y)) σ fun d s' => .go .nx (σ.set i (some d)) s' := by unfold sAug; rw [h]; rfl
/-! for, comprehensions, over what stays -/
def forL (body : D → SM) : List D → SM
  | [] => fun σ s => .go .nx σ s
  | d :: ds => fun σ s => match body d σ s with
    | .go .nx σ' s' => forL body ds σ' s'
    | .go .ct σ' s' => forL body ds σ' s'
    | .go .bk σ' s' => .go .nx σ' s'
    | r => r
theorem forS_fix (ds : List D) (body : D → SM) : ∀ (i : Nat) (σ : EV) (s : Sto), i ≤ ds.length → forS (fix ds) body (ds.length - i + 1) i σ s = forL body (ds.drop i) σ s := by
  intro i
  generalize hk : ds.length - i = k
  induction k generalizing i with
  | zero =>
    intro σ s h
    have e : i = ds.length := by omega
    subst e
    simp [forS, fix, forL]
  | succ k ih =>
    intro σ s h
    have hi : i < ds.length := by omega
    rw [List.drop_eq_getElem_cons hi]
    unfold forS
    simp only [fix, List.getElem?_eq_getElem hi, forL]
    cases body ds[i] σ s with
    | go fl σ' s' => cases fl <;> first | rfl | exact ih (i + 1) (by omega) σ' s' (by omega)
    | exc c fs σ' s' => rfl
    | bad => rfl
theorem e_for (ds : List D) (body : D → SM) (n : Nat) (h : n = ds.length + 1) : forS (fix ds) body n 0 σ s = forL body ds σ s := by
  subst h
  simpa using forS_fix ds body 0 σ s (Nat.zero_le _)
theorem e_sFor (f : EV → M Src) (g : TF) (F : SM) : sFor f g F σ s = lft (f σ s) σ fun J s' => forS J (bdy g F) (J.n + 1) 0 σ s' := rfl
theorem e_forfix (ds : List D) (body : D → SM) : forS (fix ds) body ((fix ds).n + 1) 0 σ s = forL body ds σ s := e_for ds body _ rfl
theorem e_src (f : EV → M D) : mSrc f σ s = (f σ s).bnd kSrc := rfl
theorem e_rng1 (f : EV → M D) : mRng1 f σ s = (f σ s).bnd kRng := rfl
theorem k_rng (j : Int) (h : -(2 ^ 62) ≤ j ∧ j < 2 ^ 62) : kRng (.int j) s = .ok (fix (rng 0 j)) s := by
  show (if -(2 ^ 62) ≤ j ∧ j < 2 ^ 62 then ret (fix (rng 0 j)) else bad) s = _
  rw [if_pos h]; rfl
theorem e_enum (f : EV → M D) : mEnum f σ s = (f σ s).bnd kEnum := rfl
def cmpL (g : TF) (t : EV → M Bool) (e : EV → M D) (σ : EV) : List D → List D → M (List D)
  | [], acc => fun s => .ok acc s
  | d :: ds, acc => fun s => match g d σ with
    | none => .bad
    | some σ2 => match t σ2 s with
      | .ok false s1 => cmpL g t e σ ds acc s1
      | .ok true s1 => (match e σ2 s1 with
        | .ok y s2 => if acc.length < lim then cmpL g t e σ ds (acc ++ [y]) s2 else .bad
        | _ => .bad)
      | _ => .bad
theorem cmp_fix (ds : List D) (g : TF) (t : EV → M Bool) (e : EV → M D) (σ : EV) : ∀ (i : Nat) (acc : List D) (s : Sto), i ≤ ds.length → cmp (fix ds) g t e σ (ds.length - i + 1) i acc s = cmpL g t e σ (ds.drop i) acc s := by
  intro i
  generalize hk : ds.length - i = k
  induction k generalizing i with
  | zero =>
    intro acc s h
    have e : i = ds.length := by omega
    subst e
    simp [cmp, fix, cmpL]
  | succ k ih =>
    intro acc s h
    have hi : i < ds.length := by omega
    rw [List.drop_eq_getElem_cons hi]
    unfold cmp
    simp only [fix, List.getElem?_eq_getElem hi, cmpL]
    have ih' := fun acc s => ih (i + 1) (by omega) acc s (by omega)
    simp only [fix] at ih'
    cases g ds[i] σ with
    | none => rfl
    | some σ2 =>
      simp only
      cases t σ2 s with
      | ok b s1 =>
        cases b with
        | false => simp only; exact ih' acc s1
        | true =>
          simp only
          cases e σ2 s1 with
          | ok y s2 => simp only; split; exact ih' _ s2; rfl
          | exc c fs s2 => rfl
          | bad => rfl
      | exc c fs s1 => rfl
      | bad => rfl
theorem e_lc (own : List Nat) (f : EV → M Src) (g : TF) (t : EV → M Bool) (e : EV → M D) (k : List D → M D) : mLc own f g t e k σ s = (f σ s).bnd fun J => bnd (nox (cmp J g t e (wipeD σ own) (J.n + 1) 0 [])) k := rfl
theorem e_cmpfix (ds : List D) (g : TF) (t : EV → M Bool) (e : EV → M D) (σ : EV) : cmp (fix ds) g t e σ ((fix ds).n + 1) 0 [] s = cmpL g t e σ ds [] s := by
  have h := cmp_fix ds g t e σ 0 [] s (Nat.zero_le _)
  rw [List.drop_zero, Nat.sub_zero] at h
  exact h
/-- a comprehension whose element is a plain function of the item, and changes nothing -/
theorem cmpL_map {g : TF} {e : EV → M D} {σ : EV} {h : D → D} (s : Sto) : ∀ (ds acc : List D), acc.length + ds.length ≤ lim → (∀ d ∈ ds, ∃ σ2, g d σ = some σ2 ∧ e σ2 s = .ok (h d) s) → cmpL g yes e σ ds acc s = .ok (acc ++ ds.map h) s
  | [], acc, _, _ => by simp [cmpL]
  | d :: ds, acc, hl, H => by
    obtain ⟨σ2, h1, h2⟩ := H d List.mem_cons_self
    rw [List.length_cons] at hl
    unfold cmpL
    simp only [h1, yes, h2]
    rw [if_pos (by omega), cmpL_map s ds (acc ++ [h d]) (by rw [List.length_append, List.length_singleton]; omega) fun d' hd => H d' (List.mem_cons_of_mem _ hd)]
    simp
/-- .. with a test -/
theorem cmpL_filter {g : TF} {t : EV → M Bool} {e : EV → M D} {σ : EV} {p : D → Bool} {h : D → D} (s : Sto) : ∀ (ds acc : List D), acc.length + ds.length ≤ lim → (∀ d ∈ ds, ∃ σ2, g d σ = some σ2 ∧ t σ2 s = .ok (p d) s ∧ e σ2 s = .ok (h d) s) → cmpL g t e σ ds acc s = .ok (acc ++ (ds.filter p).map h) s
  | [], acc, _, _ => by simp [cmpL]
  | d :: ds, acc, hl, H => by
    obtain ⟨σ2, h1, h2, h3⟩ := H d List.mem_cons_self
    rw [List.length_cons] at hl
    unfold cmpL
    simp only [h1, h2, h3]
    cases hp : p d with
    | false =>
      simp only
      rw [cmpL_filter s ds acc (by omega) fun d' hd => H d' (List.mem_cons_of_mem _ hd), List.filter_cons_of_neg (by simp [hp])]
    | true =>
      simp only [h3]
      rw [if_pos (by omega), cmpL_filter s ds (acc ++ [h d]) (by rw [List.length_append, List.length_singleton]; omega) fun d' hd => H d' (List.mem_cons_of_mem _ hd), List.filter_cons_of_pos hp]
      simp
/-! by values -/
theorem v_addI (i j : Int) : dAdd (.int i) (.int j) s = .ok (.int (i + j)) s := rfl
theorem v_addII (i j : Int) : dAddI (.int i) (.int j) s = .ok (.int (i + j)) s := rfl
theorem v_sub (i j : Int) : dSub (.int i) (.int j) s = .ok (.int (i - j)) s := rfl
theorem v_neg (i : Int) : dNeg (.int i) s = .ok (.int (-i)) s := rfl
theorem v_mul (i j : Int) (h : mulOk i j) : dMul (.int i) (.int j) s = .ok (.int (i * j)) s := by unfold dMul; exact if_pos h
theorem v_div (i j : Int) (h : 0 < j ∧ j.natAbs.log2 < 9000) : dDiv (.int i) (.int j) s = .ok (.int (i / j)) s := by unfold dDiv; exact if_pos h
theorem v_mod (i j : Int) (h : 0 < j) : dMod (.int i) (.int j) s = .ok (.int (i % j)) s := by unfold dMod; exact if_pos h
theorem v_pow (i j : Int) (h : 0 ≤ j ∧ j ≤ 1000000 ∧ i.natAbs < 2 ^ 64) : dPow (.int i) (.int j) s = .ok (.int (i ^ j.toNat)) s := by unfold dPow; exact if_pos h
theorem v_eqI (i j : Int) : dEq (.int i) (.int j) s = .ok (.bl (i == j)) s := rfl
theorem v_eqS (i j : Str) : dEq (.str i) (.str j) s = .ok (.bl (i == j)) s := rfl
theorem v_eqB (i j : Bool) : dEq (.bl i) (.bl j) s = .ok (.bl (i == j)) s := rfl
theorem v_neI (i j : Int) : dNe (.int i) (.int j) s = .ok (.bl (!(i == j))) s := rfl
theorem v_neS (i j : Str) : dNe (.str i) (.str j) s = .ok (.bl (!(i == j))) s := rfl
theorem v_lt (i j : Int) : dLt (.int i) (.int j) s = .ok (.bl (decide (i < j))) s := rfl
theorem v_le (i j : Int) : dLe (.int i) (.int j) s = .ok (.bl (decide (i ≤ j))) s := rfl
theorem v_gt (i j : Int) : dGt (.int i) (.int j) s = .ok (.bl (decide (j < i))) s := rfl
theorem v_ge (i j : Int) : dGe (.int i) (.int j) s = .ok (.bl (decide (j ≤ i))) s := rfl
theorem v_ixL (xs : List D) (i : Int) {d : D} (h : atI xs i = some d) : dIx (.lst xs) (.int i) s = .ok d s := by unfold dIx asLL asL; simp only [h]
theorem v_ixT (xs : List D) (i : Int) {d : D} (h : atI xs i = some d) : dIx (.tup xs) (.int i) s = .ok d s := by unfold dIx; simp only [h]
theorem v_ixR (n : Nat) (i : Int) {xs : List D} {d : D} (hs : s[n]? = some (.lst xs)) (h : atI xs i = some d) : dIx (.ref n) (.int i) s = .ok d s := by unfold dIx asLL asL; simp only [hs, h]
theorem v_ixS (z : Str) (i : Int) {c : Nat} (hl : z.length ≤ lim) (h : atI z.cps.toList i = some c) : dIx (.str z) (.int i) s = .ok (.str ⟨#[c]⟩) s := by unfold dIx; simp only [if_pos hl, h]
theorem v_lenR (n : Nat) {xs : List D} (hs : s[n]? = some (.lst xs)) : cLen [.ref n] s = .ok (.int xs.length) s := by unfold cLen asLL asL; simp only [hs]
theorem v_lenL (xs : List D) : cLen [.lst xs] s = .ok (.int xs.length) s := rfl
theorem v_lenT (xs : List D) : cLen [.tup xs] s = .ok (.int xs.length) s := rfl
theorem v_lenSl (xs : List D) : cLen [.sls xs] s = .ok (.int xs.length) s := rfl
theorem v_lenS (z : Str) (h : z.length ≤ lim) : cLen [.str z] s = .ok (.int z.length) s := by unfold cLen; exact if_pos h
end
theorem at_lit {α : Type} (xs : List α) (k : Nat) : atI xs (no_index (OfNat.ofNat k : Int)) = xs[k]? := by
  show atI xs ((k : Nat) : Int) = _
  unfold atI ixN
  rw [if_pos (Int.natCast_nonneg k)]
  by_cases h : k < xs.length
  · rw [if_pos (by exact Int.ofNat_lt.mpr h)]; rfl
  · rw [if_neg (by intro z; exact h (Int.ofNat_lt.mp z)), List.getElem?_eq_none (by omega)]; rfl
theorem at_nat {α : Type} (xs : List α) {i : Int} (h : 0 ≤ i) : atI xs i = xs[i.toNat]? := by
  obtain ⟨k, rfl⟩ := Int.eq_ofNat_of_zero_le h
  exact at_lit xs k
theorem ix_lit' (n k : Nat) : ixN n (no_index (OfNat.ofNat k : Int)) = if k < n then some k else none := by
  show ixN n ((k : Nat) : Int) = _
  unfold ixN
  rw [if_pos (Int.natCast_nonneg k)]
  by_cases h : k < n
  · rw [if_pos (by exact Int.ofNat_lt.mpr h), if_pos h]; rfl
  · rw [if_neg (by intro z; exact h (Int.ofNat_lt.mp z)), if_neg h]
theorem ix_lit (n k : Nat) (h : k < n) : ixN n (no_index (OfNat.ofNat k : Int)) = some k := by
  show ixN n ((k : Nat) : Int) = _
  unfold ixN
  rw [if_pos (Int.natCast_nonneg k), if_pos (by exact Int.ofNat_lt.mpr h)]; rfl
def oo (o : Option (Option D)) (s : Sto) : Res D := match o with | some (some d) => .ok d s | _ => .bad
def o1 (o : Option D) (s : Sto) : Res D := match o with | some d => .ok d s | none => .bad
def ixO (o : Option O) (i : Int) (s : Sto) : Res D := match o with | some (.lst xs) => o1 (atI xs i) s | _ => .bad
def lenO (o : Option O) (s : Sto) : Res D := match o with | some (.lst xs) => .ok (.int xs.length) s | _ => .bad
def setO (o : Option O) (n : Nat) (i : Int) (v : D) (s : Sto) : Option Sto := match o with | some (.lst xs) => (ixN xs.length i).map fun j => s.set n (.lst (xs.set j v)) | _ => none
def retOf (r : SRes) : Res D := match r with | .go .nx _ s' => .ok .non s' | .go (.rt d) _ s' => .ok d s' | .exc c fs _ s' => .exc c fs s' | _ => .bad
def goO (o : Option Sto) (σ : EV) : SRes := match o with | some s => .go .nx σ s | none => .bad
section
variable {σ : EV} {s : Sto}
theorem f_get (i : Nat) : vGet i σ s = oo σ[i]? s := rfl
theorem f_oo (d : D) : oo (some (some d)) s = .ok d s := rfl
theorem f_o1 (d : D) : o1 (some d) s = .ok d s := rfl
theorem f_ixR (n : Nat) (i : Int) : dIx (.ref n) (.int i) s = ixO s[n]? i s := by
  unfold dIx asLL asL ixO o1
  rcases h : s[n]? with _ | o
  · simp only [h]
  · cases o <;> simp only [h] <;> rfl
theorem f_ixO (xs : List D) (i : Int) : ixO (some (.lst xs)) i s = o1 (atI xs i) s := rfl
theorem f_ixL (xs : List D) (i : Int) : dIx (.lst xs) (.int i) s = o1 (atI xs i) s := rfl
theorem f_ixSl (xs : List D) (i : Int) : dIx (.sls xs) (.int i) s = o1 (atI xs i) s := rfl
theorem f_ixT (xs : List D) (i : Int) : dIx (.tup xs) (.int i) s = o1 (atI xs i) s := rfl
theorem f_lenR (n : Nat) : cLen [.ref n] s = lenO s[n]? s := by
  unfold cLen asLL asL lenO
  rcases h : s[n]? with _ | o
  · simp only [h]
  · cases o <;> simp only [h] <;> rfl
theorem f_lenO (xs : List D) : lenO (some (.lst xs)) s = .ok (.int xs.length) s := rfl
theorem f_augR (n : Nat) (i : Int) : sAugIx.dIxL (.ref n) (.int i) s = ixO s[n]? i s := by
  unfold sAugIx.dIxL asLL asL ixO o1
  rcases h : s[n]? with _ | o
  · simp only [h]
  · cases o <;> simp only [h] <;> rfl
theorem f_setR (n : Nat) (i : Int) (v : D) : dSetL (.ref n) (.int i) v s = setO s[n]? n i v s := by
  unfold dSetL lstAt setO
  rcases h : s[n]? with _ | o
  · simp only [h]
  · cases o with
    | lst xs => simp only [h]; cases ixN xs.length i <;> rfl
    | dic kvs => simp only [h]
    | ins c fs => simp only [h]
theorem f_setO (n : Nat) (i : Int) (v : D) (xs : List D) : setO (some (.lst xs)) n i v s = (ixN xs.length i).map fun j => s.set n (.lst (xs.set j v)) := rfl
theorem f_goO (s2 : Sto) : goO (some s2) σ = .go .nx σ s2 := rfl
theorem f_setix (f fo fi : EV → M D) : sSetIx f fo fi σ s = lft ((f σ s).bnd fun x => bnd (fo σ) fun o => bnd (fi σ) fun i => ret (x, o, i)) σ fun d s' => goO (dSetL d.2.1 d.2.2 d.1 s') σ := by
  rfl
theorem f_augix (oper : D → D → M D) (fo fi f : EV → M D) : sAugIx oper fo fi f σ s = lft ((fo σ s).bnd fun o => bnd (fi σ) fun i => bnd (nox (sAugIx.dIxL o i)) fun x => bnd (f σ) fun y => bnd (nox (oper x y)) fun z => ret (o, i, z)) σ fun d s' => goO (dSetL d.1 d.2.1 d.2.2 s') σ := by
  rfl
theorem f_run (n : Nat) (B : SM) (ds : List D) : runB n B ds s = retOf (B (ds.map some ++ List.replicate (n - ds.length) none) s) := rfl
theorem f_rt (d : D) : retOf (.go (.rt d) σ s) = .ok d s := rfl
theorem f_nx : retOf (.go .nx σ s) = .ok .non s := rfl
end
end RQ

namespace RQ
open PySem PySem.Spec PyProof.Rows L2 TL
/-! ### loops and comprehensions whose turns change the store, by an invariant -/
theorem cmpL_inv {g : TF} {e : EV → M D} {σ : EV} (I : Nat → Sto → Prop) (P : D → Prop) : ∀ (ds acc : List D) (s : Sto) (k : Nat), I k s →
    (∀ d ∈ ds, ∀ k' s', I k' s' → k' < k + ds.length → ∃ σ2 y s2, g d σ = some σ2 ∧ e σ2 s' = .ok y s2 ∧ P y ∧ I (k' + 1) s2) → acc.length + ds.length ≤ lim →
    ∃ ys s2, cmpL g yes e σ ds acc s = .ok (acc ++ ys) s2 ∧ ys.length = ds.length ∧ (∀ y ∈ ys, P y) ∧ I (k + ds.length) s2
  | [], acc, s, k, h0, _, _ => ⟨[], s, by simp [cmpL], rfl, (fun _ z => nomatch z), h0⟩
  | d :: ds, acc, s, k, h0, H, hl => by
    rw [List.length_cons] at hl
    obtain ⟨σ2, y, s1, h1, h2, h3, h4⟩ := H d List.mem_cons_self k s h0 (by rw [List.length_cons]; omega)
    obtain ⟨ys, s2, q1, q2, q3, q4⟩ := cmpL_inv I P ds (acc ++ [y]) s1 (k + 1) h4 (fun d' hd k' s' hi hk => H d' (List.mem_cons_of_mem _ hd) k' s' hi (by rw [List.length_cons]; omega)) (by rw [List.length_append, List.length_singleton]; omega)
    refine ⟨y :: ys, s2, ?_, by rw [List.length_cons, List.length_cons, q2], fun z hz => (List.mem_cons.mp hz).elim (fun e => e ▸ h3) (q3 z), by rw [List.length_cons, show k + (ds.length + 1) = k + 1 + ds.length by omega]; exact q4⟩
    unfold cmpL
    simp only [h1, yes, h2]
    rw [if_pos (by omega), q1]
    simp
theorem forL_inv {body : D → SM} (I : Nat → EV → Sto → Prop) : ∀ (ds : List D) (σ : EV) (s : Sto) (k : Nat), I k σ s →
    (∀ d ∈ ds, ∀ k' σ' s', I k' σ' s' → k' < k + ds.length → ∃ σ2 s2, body d σ' s' = .go .nx σ2 s2 ∧ I (k' + 1) σ2 s2) → ∃ σ2 s2, forL body ds σ s = .go .nx σ2 s2 ∧ I (k + ds.length) σ2 s2
  | [], σ, s, k, h0, _ => ⟨σ, s, rfl, h0⟩
  | d :: ds, σ, s, k, h0, H => by
    obtain ⟨σ1, s1, h1, h2⟩ := H d List.mem_cons_self k σ s h0 (by rw [List.length_cons]; omega)
    obtain ⟨σ2, s2, q1, q2⟩ := forL_inv I ds σ1 s1 (k + 1) h2 fun d' hd k' σ' s' hi hk => H d' (List.mem_cons_of_mem _ hd) k' σ' s' hi (by rw [List.length_cons]; omega)
    refine ⟨σ2, s2, ?_, by rw [List.length_cons, show k + (ds.length + 1) = k + 1 + ds.length by omega]; exact q2⟩
    unfold forL
    simp only [h1]
    exact q1
theorem e_bdy (g : TF) (F : SM) (d : D) {σ σ' : EV} {s : Sto} (h : g d σ = some σ') : bdy g F d σ s = F σ' s := by unfold bdy; rw [h]
/-! ### isinstance -/
def isiB (o : Option Bool) (s : Sto) : Res D := match o with | some b => .ok (.bl b) s | none => .bad
def isiO (o : Option String) (c : String) (s : Sto) : Res D := match o with | some t => isiB (kitB t c) s | none => .bad
theorem f_isi {s : Sto} (x : D) (c : String) : cIsi [x, .ty c] s = isiO (tyN s x) c s := by
  unfold cIsi isiO isiB
  rfl
theorem f_isiO {s : Sto} (t c : String) : isiO (some t) c s = isiB (kitB t c) s := rfl
theorem f_isiB {s : Sto} (b : Bool) : isiB (some b) s = .ok (.bl b) s := rfl
theorem kb_ii : kitB "int" "int" = some true := by decide +kernel
theorem kb_ib : kitB "int" "bool" = some false := by decide +kernel
theorem kb_is : kitB "int" "str" = some false := by decide +kernel
theorem kb_bi : kitB "bool" "int" = some true := by decide +kernel
theorem kb_bb : kitB "bool" "bool" = some true := by decide +kernel
theorem kb_bs : kitB "bool" "str" = some false := by decide +kernel
theorem kb_si : kitB "str" "int" = some false := by decide +kernel
theorem kb_sb : kitB "str" "bool" = some false := by decide +kernel
theorem kb_ss : kitB "str" "str" = some true := by decide +kernel
theorem kb_ni : kitB "NoneType" "int" = some false := by decide +kernel
theorem kb_nb : kitB "NoneType" "bool" = some false := by decide +kernel
theorem kb_ns : kitB "NoneType" "str" = some false := by decide +kernel
theorem kb_li : kitB "list" "int" = some false := by decide +kernel
theorem kb_lb : kitB "list" "bool" = some false := by decide +kernel
theorem kb_ls : kitB "list" "str" = some false := by decide +kernel
theorem kb_ti : kitB "tuple" "int" = some false := by decide +kernel
theorem kb_tb : kitB "tuple" "bool" = some false := by decide +kernel
theorem kb_ts : kitB "tuple" "str" = some false := by decide +kernel
theorem kb_di : kitB "dict" "int" = some false := by decide +kernel
theorem kb_db : kitB "dict" "bool" = some false := by decide +kernel
theorem kb_ds : kitB "dict" "str" = some false := by decide +kernel
/-! ### repr, texts -/
theorem v_repr {s : Sto} {x : D} {p : PyData} (h : rdat s x = some p) (h1 : p.showable = true) (h2 : p.shown.length ≤ lim) : cRepr [x] s = .ok (.str p.shown) s := by
  unfold cRepr; simp only [h]; exact if_pos ⟨h1, h2⟩
theorem v_addS {s : Sto} (a b : Str) (h : a.length + b.length ≤ lim) : dAdd (.str a) (.str b) s = .ok (.str (a ++ b)) s := by unfold dAdd; exact if_pos h
theorem v_addL {s : Sto} (a b : List D) (h : a.length + b.length ≤ lim) : dAdd (.lst a) (.lst b) s = .ok (.lst (a ++ b)) s := by
  show (match asL s (.lst a), asL s (.lst b) with | some a, some b => if a.length + b.length ≤ lim then Res.ok (D.lst (a ++ b)) s else .bad | _, _ => .bad) = _
  exact if_pos h
theorem v_slL {s : Sto} (xs : List D) (lo hi : Option Int) : dSl (.lst xs) lo hi s = .ok (.lst (cutD xs lo hi)) s := rfl
theorem v_slSl {s : Sto} (xs : List D) (lo hi : Option Int) : dSl (.sls xs) lo hi s = .ok (.lst (cutD xs lo hi)) s := rfl
theorem v_slS {s : Sto} (z : Str) (lo hi : Option Int) (h : z.length ≤ lim) : dSl (.str z) lo hi s = .ok (.str (cutS z lo hi)) s := by unfold dSl; exact if_pos h
theorem v_mulS {s : Sto} (a : Str) (k : Int) (h : 0 ≤ k ∧ a.length * k.toNat ≤ lim ∧ k ≤ lim) : dMul (.str a) (.int k) s = .ok (.str (rep k.toNat a)) s := by unfold dMul; exact if_pos h
theorem v_abs {s : Sto} (i : Int) : cAbs [.int i] s = .ok (.int (if i < 0 then -i else i)) s := rfl
theorem v_max {s : Sto} (i j : Int) : cMax [.int i, .int j] s = .ok (.int (if j > i then j else i)) s := rfl
theorem v_min {s : Sto} (i j : Int) : cMin [.int i, .int j] s = .ok (.int (if j < i then j else i)) s := rfl
theorem v_str {s : Sto} (i : Int) (h : i.natAbs.log2 < 1920) : cStr [.int i] s = .ok (.str (Str.ofString (toString i))) s := by unfold cStr; exact if_pos h
theorem v_kLst {s : Sto} (xs : List D) (h : xs.length ≤ lim) : kLst xs s = .ok (.lst xs) s := if_pos h
theorem v_kTup {s : Sto} (xs : List D) (h : xs.length ≤ lim) : kTup xs s = .ok (.tup xs) s := if_pos h
theorem v_kLstS {s : Sto} (xs : List D) (h : xs.length ≤ lim) : kLstS xs s = .ok (.ref s.length) (s ++ [.lst xs]) := if_pos h
theorem v_kF {s : Sto} (xs : List D) : kF xs s = .ok (.lst xs) s := rfl
theorem v_srcL {s : Sto} (xs : List D) : kSrc (.lst xs) s = .ok (fix xs) s := rfl
theorem v_srcS {s : Sto} (z : Str) : kSrc (.str z) s = .ok (fix (chars z)) s := rfl
theorem lim_of {n : Nat} (h : n ≤ 1000000) : n ≤ lim := h
/-- texts: bounds that carry over -/
structure TxB (b : Nat) (z : Str) (n : Nat) : Prop where
  len : z.length ≤ n
  cod : ∀ c ∈ z.cps.toList, c < b
section
variable {b : Nat}
theorem TxB.repr {z : Str} {n : Nat} (h : TxB b z n) (hb : b ≤ 16 ^ 8) : (reprText z).length ≤ 10 * n + 2 := by
  have h1 := PySem.StrLaws.reprText_len z fun c hc => Nat.lt_of_lt_of_le (h.cod c hc) hb
  have h2 := h.len
  omega
theorem TxB.mono {z : Str} {n m : Nat} (h : TxB b z n) (hm : n ≤ m) : TxB b z m := ⟨Nat.le_trans h.len hm, h.cod⟩
theorem TxB.wide {z : Str} {n b' : Nat} (h : TxB b z n) (hb : b ≤ b') : TxB b' z n := ⟨h.len, fun c hc => Nat.lt_of_lt_of_le (h.cod c hc) hb⟩
theorem TxB.app {a c : Str} {n m : Nat} (h : TxB b a n) (h' : TxB b c m) : TxB b (a ++ c) (n + m) := by
  have e : (a ++ c).cps = a.cps ++ c.cps := rfl
  refine ⟨?_, fun d hd => ?_⟩
  · show (a ++ c).cps.size ≤ _
    rw [e, Array.size_append]
    exact Nat.add_le_add h.len h'.len
  · rw [e, Array.toList_append] at hd
    exact (List.mem_append.mp hd).elim (h.cod d) (h'.cod d)
theorem TxB.cut {a : Str} {n : Nat} (h : TxB b a n) (lo hi : Option Int) : TxB b (cutS a lo hi) n := by
  refine ⟨?_, fun c hc => ?_⟩
  · show (cutS a lo hi).cps.size ≤ n
    unfold cutS
    rw [List.size_toArray, List.length_take, List.length_drop, Array.length_toList]
    have : a.cps.size ≤ n := h.len
    omega
  · have hc : c ∈ ((a.cps.toList.drop (HT.sIx a.length 0 lo)).take (HT.sIx a.length a.length hi - HT.sIx a.length 0 lo)) := by
      unfold cutS at hc; simpa using hc
    exact h.cod c (List.mem_of_mem_drop (List.mem_of_mem_take hc))
theorem TxB.one {c : Nat} (h : c < b) : TxB b ⟨#[c]⟩ 1 := by
  refine ⟨Nat.le_refl 1, fun d hd => ?_⟩
  have e : d = c := by simpa using hd
  rw [e]; exact h
theorem TxB.rep {a : Str} {n k : Nat} (h : TxB b a n) : TxB b (rep k a) (k * n) := by
  refine ⟨?_, fun c hc => ?_⟩
  · show (RQ.rep k a).cps.size ≤ _
    unfold RQ.rep
    simp
    exact Nat.mul_le_mul_left k h.len
  · unfold RQ.rep at hc
    rw [List.toList_toArray, List.mem_flatten] at hc
    obtain ⟨l, hl, hcl⟩ := hc
    rw [List.mem_replicate] at hl
    rw [hl.2] at hcl
    exact h.cod c hcl
theorem TxB.join {zs : List Str} {n : Nat} (h : ∀ z ∈ zs, TxB b z n) : TxB b (Txt.join (Str.ofString "") zs) (zs.length * n) := by
  rw [join_eq]
  have e : tl (Str.join (Str.ofString "") zs) = (zs.map tl).flatten := by
    rw [tl_join]
    have e0 : tl (Str.ofString "") = [] := rfl
    rw [e0]
    have : ∀ ls : List (List Nat), joinL [] ls = ls.flatten := by
      intro ls
      induction ls with
      | nil => rfl
      | cons l ls ih =>
        cases ls with
        | nil => simp [joinL]
        | cons m r => rw [joinL, ih]; rfl
    exact this _
  refine ⟨?_, fun c hc => ?_⟩
  · show (Str.join (Str.ofString "") zs).cps.size ≤ _
    have e2 : (Str.join (Str.ofString "") zs).cps.size = (tl (Str.join (Str.ofString "") zs)).length := by simp [tl]
    rw [e2, e, List.length_flatten, List.map_map]
    clear e e2
    induction zs with
    | nil => simp
    | cons z zs ih =>
      have h1 : (tl z).length ≤ n := by
        have := (h z List.mem_cons_self).len
        simpa [tl, Str.length] using this
      have h2 := ih fun z hz => h z (List.mem_cons_of_mem _ hz)
      simp only [List.map_cons, List.sum_cons, Function.comp_apply, List.length_cons]
      have e5 : (zs.length + 1) * n = zs.length * n + n := Nat.succ_mul _ _
      omega
  · have hc : c ∈ tl (Str.join (Str.ofString "") zs) := hc
    rw [e, List.mem_flatten] at hc
    obtain ⟨l, hl, hcl⟩ := hc
    obtain ⟨z, hz, rfl⟩ := List.mem_map.mp hl
    exact (h z hz).cod c hcl
end
theorem TxB.upper {a : Str} {n : Nat} (h : TxB 128 a n) : TxB 1000 (Txt.upper a) (3 * n) := by
  refine ⟨?_, fun c hc => ?_⟩
  · have := PyProof.Rows.len_upper a
    have := h.len
    omega
  · have key : ∀ c ∈ List.range 128, ∀ d ∈ Unicode.upperOf c, d < 1000 := by decide +kernel
    have hc : c ∈ ((a.cps.mapIdx fun _ c => (Unicode.upperOf c).toArray).flatten).toList := hc
    have hc' : c ∈ ((a.cps.mapIdx fun _ c => (Unicode.upperOf c).toArray).flatten) := Array.mem_toList_iff.mp hc
    rw [Array.mem_flatten] at hc'
    obtain ⟨l, hl, hcl⟩ := hc'
    rw [Array.mem_iff_getElem] at hl
    obtain ⟨i, hi, e⟩ := hl
    have hi' : i < a.cps.size := by simpa using hi
    have e2 : (Unicode.upperOf a.cps[i]).toArray = l := by rw [← e]; simp
    rw [← e2] at hcl
    exact key a.cps[i] (by rw [List.mem_range]; exact h.cod _ (by simp)) c (by simpa using hcl)
theorem join_len (zs : List Str) : (Txt.join (Str.ofString "") zs).length = (zs.map Str.length).sum := by
  rw [join_eq]
  have e2 : (Str.join (Str.ofString "") zs).length = (tl (Str.join (Str.ofString "") zs)).length := by simp [tl, Str.length]
  have e0 : tl (Str.ofString "") = [] := rfl
  have ej : ∀ ls : List (List Nat), joinL [] ls = ls.flatten := by
    intro ls
    induction ls with
    | nil => rfl
    | cons l ls ih =>
      cases ls with
      | nil => simp [joinL]
      | cons m r => rw [joinL, ih]; rfl
  rw [e2, tl_join, e0, ej, List.length_flatten, List.map_map]
  congr 1
theorem v_join {s : Sto} (a : Str) (zs : List Str) (h : (zs.map (·.length)).sum + zs.length * a.length ≤ lim) : mJoin (.str a) [.lst (zs.map D.str)] s = .ok (.str (Txt.join a zs)) s := by
  unfold mJoin asLL asL
  simp only [allM_map_str]
  exact if_pos h
theorem f_isTS {s : Sto} (z : Str) : isT "str" (.str z) s = true := rfl
def cutA {α : Type} (xs : List α) (lo hi : Option Int) : List α := (xs.drop (HT.sIx xs.length 0 lo)).take (HT.sIx xs.length xs.length hi - HT.sIx xs.length 0 lo)
theorem cutD_map {α : Type} (f : α → D) (xs : List α) (lo hi : Option Int) : cutD (xs.map f) lo hi = (cutA xs lo hi).map f := by
  unfold cutD cutA
  rw [List.length_map, ← List.map_drop, ← List.map_take]
theorem cutA_mem {α : Type} {xs : List α} {lo hi : Option Int} {x : α} (h : x ∈ cutA xs lo hi) : x ∈ xs := List.mem_of_mem_drop (List.mem_of_mem_take h)
theorem cutA_lo {α : Type} (xs : List α) {i : Int} (h : 0 ≤ i) : cutA xs (some i) none = xs.drop i.toNat := by
  obtain ⟨k, rfl⟩ := Int.eq_ofNat_of_zero_le h
  unfold cutA
  rw [HT.sIx_none, HT.sIx_nat, Int.toNat_natCast]
  by_cases hk : k ≤ xs.length
  · rw [Nat.min_eq_left hk, List.take_of_length_le (by rw [List.length_drop]; omega)]
  · rw [Nat.min_eq_right (by omega), List.drop_of_length_le (Nat.le_refl _), List.drop_of_length_le (by omega), List.take_nil]
theorem cutA_hi {α : Type} (xs : List α) {i : Int} (h : 0 ≤ i) : cutA xs none (some i) = xs.take i.toNat := by
  obtain ⟨k, rfl⟩ := Int.eq_ofNat_of_zero_le h
  unfold cutA
  rw [HT.sIx_none, HT.sIx_nat, Int.toNat_natCast, List.drop_zero, Nat.sub_zero]
  by_cases hk : k ≤ xs.length
  · rw [Nat.min_eq_left hk]
  · rw [Nat.min_eq_right (by omega), List.take_of_length_le (Nat.le_refl _), List.take_of_length_le (by omega)]
theorem rng_mem {lo hi : Int} {d : D} (h : d ∈ rng lo hi) : ∃ i : Int, d = .int i ∧ lo ≤ i ∧ i < hi := by
  unfold rng at h
  obtain ⟨k, hk, rfl⟩ := List.mem_map.mp h
  rw [List.mem_range] at hk
  exact ⟨lo + k, rfl, by omega, by omega⟩
theorem rng_len (lo hi : Int) : (rng lo hi).length = (hi - lo).toNat := by unfold rng; rw [List.length_map, List.length_range]
/-- a list of texts, from what holds of each -/
theorem strs_of {P : Str → Prop} : ∀ {ys : List D}, (∀ y ∈ ys, ∃ z, y = .str z ∧ P z) → ∃ zs : List Str, ys = zs.map D.str ∧ ∀ z ∈ zs, P z
  | [], _ => ⟨[], rfl, fun _ z => nomatch z⟩
  | y :: ys, h => by
    obtain ⟨zs, h1, h2⟩ := strs_of fun y hy => h y (List.mem_cons_of_mem _ hy)
    obtain ⟨z, rfl, hz⟩ := h y List.mem_cons_self
    exact ⟨z :: zs, by rw [h1]; rfl, fun w hw => (List.mem_cons.mp hw).elim (fun e => e ▸ hz) (h2 w)⟩
/-! ### the same without conditions, for reckoning at a stretch -/
def oS (o : Option Nat) (s : Sto) : Res D := match o with | some c => .ok (.str ⟨#[c]⟩) s | none => .bad
section
variable {s : Sto}
theorem u_oS (c : Nat) : oS (some c) s = .ok (.str ⟨#[c]⟩) s := rfl
theorem u_mul (i j : Int) : dMul (.int i) (.int j) s = if mulOk i j then .ok (.int (i * j)) s else .bad := rfl
theorem u_mulS (a : Str) (k : Int) : dMul (.str a) (.int k) s = if 0 ≤ k ∧ a.length * k.toNat ≤ lim ∧ k ≤ lim then .ok (.str (rep k.toNat a)) s else .bad := rfl
theorem u_div (i j : Int) : dDiv (.int i) (.int j) s = if 0 < j ∧ j.natAbs.log2 < 9000 then .ok (.int (i / j)) s else .bad := rfl
theorem u_mod (i j : Int) : dMod (.int i) (.int j) s = if 0 < j then .ok (.int (i % j)) s else .bad := rfl
theorem u_pow (i j : Int) : dPow (.int i) (.int j) s = if 0 ≤ j ∧ j ≤ 1000000 ∧ i.natAbs < 2 ^ 64 then .ok (.int (i ^ j.toNat)) s else .bad := rfl
theorem u_addS (a b : Str) : dAdd (.str a) (.str b) s = if a.length + b.length ≤ lim then .ok (.str (a ++ b)) s else .bad := rfl
theorem u_addL (a b : List D) : dAdd (.lst a) (.lst b) s = if a.length + b.length ≤ lim then .ok (.lst (a ++ b)) s else .bad := rfl
theorem u_slS (z : Str) (lo hi : Option Int) : dSl (.str z) lo hi s = if z.length ≤ lim then .ok (.str (cutS z lo hi)) s else .bad := rfl
theorem u_ixS (z : Str) (i : Int) : dIx (.str z) (.int i) s = if z.length ≤ lim then oS (atI z.cps.toList i) s else .bad := rfl
theorem u_lenS (z : Str) : cLen [.str z] s = if z.length ≤ lim then .ok (.int z.length) s else .bad := rfl
theorem u_str (i : Int) : cStr [.int i] s = if i.natAbs.log2 < 1920 then .ok (.str (Str.ofString (toString i))) s else .bad := rfl
theorem u_kLst (xs : List D) : kLst xs s = if xs.length ≤ lim then .ok (.lst xs) s else .bad := rfl
theorem u_kTup (xs : List D) : kTup xs s = if xs.length ≤ lim then .ok (.tup xs) s else .bad := rfl
theorem u_kLstS (xs : List D) : kLstS xs s = if xs.length ≤ lim then .ok (.ref s.length) (s ++ [.lst xs]) else .bad := rfl
theorem u_rng (j : Int) : kRng (.int j) s = if -(2 ^ 62) ≤ j ∧ j < 2 ^ 62 then .ok (fix (rng 0 j)) s else .bad := by
  show (if -(2 ^ 62) ≤ j ∧ j < 2 ^ 62 then ret (fix (rng 0 j)) else bad : M Src) s = _
  split <;> rfl
theorem u_upper (a : Str) : mUpper (.str a) [] s = if a.length ≤ lim then .ok (.str (Txt.upper a)) s else .bad := rfl
theorem u_tNm (i : Nat) (d : D) (σ : EV) : tNm i d σ = some (σ.set i (some d)) := rfl
theorem u_tTup (gs : TFs) (ds : List D) (σ : EV) : tTup gs (.tup ds) σ = gs ds σ := rfl
theorem u_tNil (σ : EV) : tNil [] σ = some σ := rfl
def tcR (o : Option EV) (gs : TFs) (ds : List D) : Option EV := match o with | some σ => gs ds σ | none => none
theorem u_tCns (g : TF) (gs : TFs) (d : D) (ds : List D) (σ : EV) : tCns g gs (d :: ds) σ = tcR (g d σ) gs ds := rfl
theorem u_tcR (gs : TFs) (ds : List D) (σ : EV) : tcR (some σ) gs ds = gs ds σ := rfl
theorem u_lim (n : Nat) : (n ≤ lim) = (n ≤ 1000000) := rfl
end
theorem nat_digits (n : Nat) : ∀ c ∈ (Nat.repr n).toList, c.toNat < 128 := by
  intro c hc
  have h : c ∈ Nat.toDigits 10 n := by simpa [Nat.repr] using hc
  have := Nat.isDigit_of_mem_toDigits (by decide) (by decide) h
  unfold Char.isDigit at this
  rw [Bool.and_eq_true] at this
  have h2 := of_decide_eq_true this.2
  have h3 : c.val.toNat ≤ 57 := h2
  show c.val.toNat < 128
  omega
theorem TxB.int {i : Int} {k : Nat} (h : i.natAbs < 10 ^ k) (hk : 0 < k) : TxB 128 (Str.ofString (toString i)) (k + 1) := by
  have e : ∀ x : String, (Str.ofString x).cps.toList = x.toList.map Char.toNat := fun x => by rw [Str.ofString_eq_toList]
  have hl : ∀ n : Nat, n < 10 ^ k → (Nat.repr n).toList.length ≤ k := fun n hn => by
    have := Nat.length_toDigits_le_iff (n := n) (b := 10) (k := k) (by decide) hk |>.mpr hn
    simpa [Nat.repr] using this
  have hd : ∀ n : Nat, ∀ c ∈ (Nat.repr n).toList.map Char.toNat, c < 128 := fun n c hc => by
    obtain ⟨d, hd, rfl⟩ := List.mem_map.mp hc
    exact nat_digits n d hd
  have len : ∀ x : String, (Str.ofString x).length = (x.toList.map Char.toNat).length := fun x => by
    rw [← e]; simp [Str.length]
  cases i with
  | ofNat n =>
    have es : toString (Int.ofNat n) = Nat.repr n := rfl
    refine ⟨?_, fun c hc => ?_⟩
    · rw [len, es, List.length_map]; have := hl n h; omega
    · rw [e, es] at hc; exact hd n c hc
  | negSucc n =>
    have es : toString (Int.negSucc n) = "-" ++ Nat.repr (n + 1) := rfl
    have el : (toString (Int.negSucc n)).toList = '-' :: (Nat.repr (n + 1)).toList := by rw [es]; simp
    refine ⟨?_, fun c hc => ?_⟩
    · rw [len, el, List.length_map, List.length_cons]; have := hl (n + 1) h; omega
    · rw [e, el, List.map_cons] at hc
      rcases List.mem_cons.mp hc with rfl | hc
      · decide
      · exact hd (n + 1) c hc
end RQ

namespace RQ
open PySem PySem.Spec PyProof.Rows L2 TL
/-! ### reckoning: things of the store -/
def srcO (o : Option O) (n : Nat) (s : Sto) : Res Src := match o with | some (.lst ys) => .ok (sto n ys.length) s | _ => .bad
def enuO (o : Option O) (n : Nat) (s : Sto) : Res Src := match o with | some (.lst ys) => .ok (enumS n ys.length) s | _ => .bad
def isTO (o : Option O) (T : String) : Bool := match o with | some (.lst _) => T == "list" | some (.dic _) => T == "dict" | _ => false
def appO (o : Option O) (n : Nat) (y : D) (s : Sto) : Res D := match o with | some (.lst ys) => if ys.length < lim then .ok .non (s.set n (.lst (ys ++ [y]))) else .bad | _ => .bad
def revO (o : Option O) (n : Nat) (s : Sto) : Res D := match o with | some (.lst ys) => .ok .non (s.set n (.lst ys.reverse)) | _ => .bad
def lisO (o : Option O) (k : List D → M D) (s : Sto) : Res D := match o with | some (.lst ys) => k ys s | _ => .bad
section
variable {σ : EV} {s : Sto}
theorem g_src (n : Nat) : kSrc (.ref n) s = srcO s[n]? n s := by unfold kSrc srcO; rcases h : s[n]? with _ | (_ | _ | _) <;> simp only [h]
theorem g_srcO (n : Nat) (ys : List D) : srcO (some (.lst ys)) n s = .ok (sto n ys.length) s := rfl
theorem g_enu (n : Nat) : kEnum (.ref n) s = enuO s[n]? n s := by unfold kEnum enuO; rcases h : s[n]? with _ | (_ | _ | _) <;> simp only [h]
theorem g_enuO (n : Nat) (ys : List D) : enuO (some (.lst ys)) n s = .ok (enumS n ys.length) s := rfl
theorem g_isT (n : Nat) (T : String) : isT T (.ref n) s = isTO s[n]? T := by unfold isT isTO; rcases h : s[n]? with _ | (_ | _ | _) <;> simp only [h]
theorem g_isTO (ys : List D) : isTO (some (.lst ys)) "list" = true := rfl
theorem g_app (n : Nat) (y : D) : mAppend (.ref n) [y] s = appO s[n]? n y s := by unfold mAppend lstAt appO; rcases h : s[n]? with _ | (_ | _ | _) <;> simp only [h]
theorem g_appO (n : Nat) (y : D) (ys : List D) : appO (some (.lst ys)) n y s = if ys.length < lim then .ok .non (s.set n (.lst (ys ++ [y]))) else .bad := rfl
theorem g_rev (n : Nat) : mReverse (.ref n) [] s = revO s[n]? n s := by unfold mReverse lstAt revO; rcases h : s[n]? with _ | (_ | _ | _) <;> simp only [h]
theorem g_revO (n : Nat) (ys : List D) : revO (some (.lst ys)) n s = .ok .non (s.set n (.lst ys.reverse)) := rfl
theorem g_lis (n : Nat) (k : List D → M D) : cList k [.ref n] s = lisO s[n]? k s := by unfold cList lisO asLL asL; rcases h : s[n]? with _ | (_ | _ | _) <;> simp only [h]
theorem g_lisO (k : List D → M D) (ys : List D) : lisO (some (.lst ys)) k s = k ys s := rfl
theorem g_kS (ys : List D) : kS ys s = .ok (.ref s.length) (s ++ [.lst ys]) := rfl
theorem g_LR (k : List D → M D) (f : EV → M D) : mLR k f σ s = (f σ s).bnd (kLR k) := rfl
theorem g_kLR (k : List D → M D) (j : Int) : kLR k (.int j) s = if 0 ≤ j ∧ j ≤ lim then k (rng 0 j) s else .bad := rfl
theorem unI_ints : ∀ ns : List Int, allM unI (ns.map D.int) = some ns
  | [] => rfl
  | n :: ns => by rw [List.map_cons]; unfold allM; simp only [unI, unI_ints ns]
theorem g_rem {n : Nat} {k : Int} {ns : List Int} (h : s[n]? = some (.lst (ns.map D.int))) (hk : k ∈ ns) : mRemove (.ref n) [.int k] s = .ok .non (s.set n (.lst ((ns.erase k).map D.int))) := by
  unfold mRemove lstAt
  simp only [h, unI_ints, hk, ↓reduceIte]
theorem toPr_prs : ∀ ps : List (Int × Int), allM toPr (ps.map ofPr) = some ps
  | [] => rfl
  | p :: ps => by rw [List.map_cons]; unfold allM; simp only [toPr_prs ps]; rfl
theorem g_srt (k : List D → M D) (ps : List (Int × Int)) : cSortP k [.lst (ps.map ofPr)] s = if ps.length ≤ lim then k ((srtP ps).map ofPr) s else .bad := by
  unfold cSortP asLL asL
  simp only [toPr_prs]
/-- for over a list of the store that stays -/
theorem forS_sto {n l : Nat} {ds : List D} {body : D → SM} (I : Nat → EV → Sto → Prop) (hl : l = ds.length) (hst : ∀ k σ' s', I k σ' s' → s'[n]? = some (.lst ds))
    (hstep : ∀ k d σ' s', I k σ' s' → ds[k]? = some d → ∃ σ2 s2, body d σ' s' = .go .nx σ2 s2 ∧ I (k + 1) σ2 s2) (h0 : I 0 σ s) :
    ∃ σ2 s2, forS (sto n l) body ((sto n l).n + 1) 0 σ s = .go .nx σ2 s2 ∧ I ds.length σ2 s2 := by
  have go : ∀ (r i : Nat) (σ' : EV) (s' : Sto), I i σ' s' → i + r = ds.length → ∃ σ2 s2, forS (sto n l) body (r + 1) i σ' s' = .go .nx σ2 s2 ∧ I ds.length σ2 s2 := by
    intro r
    induction r with
    | zero =>
      intro i σ' s' hi he
      have e : i = ds.length := by omega
      subst e
      refine ⟨σ', s', ?_, hi⟩
      unfold forS
      simp [sto, hst _ _ _ hi]
    | succ r ih =>
      intro i σ' s' hi he
      have hd := List.getElem?_eq_getElem (show i < ds.length by omega)
      obtain ⟨σ2, s2, h1, h2⟩ := hstep i _ σ' s' hi hd
      obtain ⟨σ3, s3, h3, h4⟩ := ih (i + 1) σ2 s2 h2 (by omega)
      refine ⟨σ3, s3, ?_, h4⟩
      unfold forS
      have e : (sto n l).item s' i = some (some ds[i]) := by
        show (match s'[n]? with | some (.lst ds) => some ds[i]? | _ => none) = _
        rw [hst _ _ _ hi]
        exact congrArg some hd
      rw [e]
      simp only [h1]
      exact h3
  subst hl
  exact go ds.length 0 σ s h0 (by omega)
/-- a comprehension over an enumerated list of the store, that changes nothing -/
theorem cmp_enu {n l : Nat} {ds : List D} {g : TF} {e : EV → M D} {h : Nat → D → D} (hl : l = ds.length) (hs : s[n]? = some (.lst ds)) (hz : ds.length ≤ lim)
    (H : ∀ (i : Nat) (d : D), ds[i]? = some d → ∃ σ2, g (.tup [.int i, d]) σ = some σ2 ∧ e σ2 s = .ok (h i d) s) : cmp (enumS n l) g yes e σ ((enumS n l).n + 1) 0 [] s = .ok (ds.mapIdx h) s := by
  have go : ∀ (r i : Nat) (acc : List D), i + r = ds.length → acc = (ds.mapIdx h).take i → cmp (enumS n l) g yes e σ (r + 1) i acc s = .ok (ds.mapIdx h) s := by
    intro r
    induction r with
    | zero =>
      intro i acc he ha
      have ei : i = ds.length := by omega
      subst ei
      unfold cmp
      rw [show (enumS n l).item s ds.length = some none by
        show (match s[n]? with | some (.lst ds') => some ((ds'[ds.length]?).map fun d => D.tup [.int (ds.length : Nat), d]) | _ => none) = _
        rw [hs]; simp]
      rw [ha, List.take_of_length_le (by simp)]
    | succ r ih =>
      intro i acc he ha
      have hi : i < ds.length := by omega
      have hd := List.getElem?_eq_getElem hi
      obtain ⟨σ2, h1, h2⟩ := H i _ hd
      unfold cmp
      rw [show (enumS n l).item s i = some (some (.tup [.int i, ds[i]])) by
        show (match s[n]? with | some (.lst ds') => some ((ds'[i]?).map fun d => D.tup [.int (i : Nat), d]) | _ => none) = _
        rw [hs]
        show some (Option.map _ ds[i]?) = _
        rw [hd]; rfl]
      have hal : acc.length < lim := by
        rw [ha, List.length_take, List.length_mapIdx]
        omega
      simp only [h1, e_yes, h2, hal, ↓reduceIte]
      refine ih (i + 1) _ (by omega) ?_
      rw [ha, List.take_add_one, List.getElem?_mapIdx, hd]
      rfl
  subst hl
  exact go ds.length 0 [] (by omega) (by simp)
/-- while: N turns, then the end -/
theorem whl_run {p : EV → M Bool} {F : SM} (I : Nat → EV → Sto → Prop) (N : Nat) (hgo : ∀ k σ' s', k < N → I k σ' s' → p σ' s' = .ok true s' ∧ ∃ σ2 s2, F σ' s' = .go .nx σ2 s2 ∧ I (k + 1) σ2 s2)
    (hend : ∀ σ' s', I N σ' s' → p σ' s' = .ok false s') : ∀ (r k : Nat) (σ : EV) (s : Sto), k + r = N → I k σ s → ∀ fuel, r < fuel → ∃ σ2 s2, whlS p F fuel σ s = .go .nx σ2 s2 ∧ I N σ2 s2
  | 0, k, σ, s, he, hi, fuel, hf => by
    have e : k = N := by omega
    subst e
    obtain ⟨f, rfl⟩ : ∃ f, fuel = f + 1 := ⟨fuel - 1, by omega⟩
    refine ⟨σ, s, ?_, hi⟩
    unfold whlS
    rw [hend σ s hi, e_lok]
    rfl
  | r + 1, k, σ, s, he, hi, fuel, hf => by
    obtain ⟨f, rfl⟩ : ∃ f, fuel = f + 1 := ⟨fuel - 1, by omega⟩
    obtain ⟨h1, σ2, s2, h2, h3⟩ := hgo k σ s (by omega) hi
    obtain ⟨σ3, s3, h4, h5⟩ := whl_run I N hgo hend r (k + 1) σ2 s2 (by omega) h3 f (by omega)
    refine ⟨σ3, s3, ?_, h5⟩
    unfold whlS
    rw [h1, e_lok]
    simp only [↓reduceIte, h2]
    exact h4
end
end RQ

namespace RQ
open PySem PySem.Spec PyProof.Rows L2 TL
/-! ### reckoning: own classes; loops as folds -/
def fldO (o : Option O) (cs : List Str) (f : Str) (s : Sto) : Res D := match o with | some (.ins c fs) => if c ∈ cs then o1 (fs.lookup f) s else .bad | _ => .bad
def propO (o : Option O) (alts : Alts) (x : D) (s : Sto) : Res D := match o with | some (.ins c _) => (match alts.lookup c with | some F => noxR (F [x] s) | none => .bad) | _ => .bad
def altO (o : Option O) (alts : Alts) (mn : Str) : Option (List D → M D) := match o with | some (.ins c fs) => if (fs.lookup mn).isNone = true then alts.lookup c else none | _ => none
def isiI (o : Option O) (tab : ITab) (x : D) (s : Sto) : Res D := match o with | some (.ins c _) => isiB (tab.lookup c) s | some (.lst _) => .ok (.bl false) s | some (.dic _) => .ok (.bl false) s | none => .bad
def bothO (o o' : Option O) (c : Str) : Bool := match o, o' with | some (.ins c1 _), some (.ins c2 _) => c1 == c && c2 == c | _, _ => false
def isCO (o : Option O) (c : Str) : Bool := match o with | some (.ins c1 _) => c1 == c | _ => false
def methR (o : Option (List D → M D)) (fs : M (List D)) (x : D) (s : Sto) : Res D := match o with | some F => (fs s).bnd fun xs => F (x :: xs) | none => .bad
def kMeth (alts : Alts) (mn : Str) (fs : M (List D)) (x : D) : M D := fun s => methR (altAt alts mn x s) fs x s
def kCallO (c : Str) (F : List D → M D) (fs : M (List D)) (x : D) : M D := fun s => if isC c x s = true then (fs s).bnd (fun xs s2 => if isC c x s2 = true then F (x :: xs) s2 else .bad) else .bad
section
variable {σ : EV} {s : Sto}
theorem h_fld (cs : List Str) (f : Str) (fo : EV → M D) : mFld cs f fo σ s = (fo σ s).bnd (gFld cs f) := rfl
theorem h_prop (alts : Alts) (fo : EV → M D) : mProp alts fo σ s = (fo σ s).bnd (gProp alts) := rfl
theorem h_meth (alts : Alts) (mn : Str) (fo : EV → M D) (fs : EV → M (List D)) : mMeth alts mn fo fs σ s = (fo σ s).bnd (kMeth alts mn (fs σ)) := by
  unfold mMeth kMeth methR bnd
  rfl
theorem h_callO (c : Str) (F : List D → M D) (fo : EV → M D) (fs : EV → M (List D)) : mCallO c F fo fs σ s = (fo σ s).bnd (kCallO c F (fs σ)) := rfl
theorem h_mk (c : Str) (F : List D → M D) (fs : EV → M (List D)) : mMkE c F fs σ s = (fs σ s).bnd (mMk c F) := rfl
theorem h_isi (tab : ITab) (fo : EV → M D) : mIsi tab fo σ s = (fo σ s).bnd (gIsi tab) := rfl
theorem h_gfld (cs : List Str) (f : Str) (n : Nat) : gFld cs f (.ref n) s = fldO s[n]? cs f s := by
  unfold gFld insV fldO o1
  rcases h : s[n]? with _ | (_ | _ | _) <;> simp only [h]
  all_goals (
    rename_i c fs
    split
    · cases List.lookup f fs <;> rfl
    · rfl)
theorem h_gprop (alts : Alts) (n : Nat) : gProp alts (.ref n) s = propO s[n]? alts (.ref n) s := by
  unfold gProp insV propO
  rcases h : s[n]? with _ | (_ | _ | _) <;> simp only [h]
  all_goals (
    rename_i c fs
    cases List.lookup c alts with
    | some F => simp only [e_nox]
    | none => rfl)
theorem h_alt (alts : Alts) (mn : Str) (n : Nat) : altAt alts mn (.ref n) s = altO s[n]? alts mn := by
  unfold altAt insV altO
  rcases h : s[n]? with _ | (_ | _ | _) <;> simp only [h]
theorem h_gisi (tab : ITab) (n : Nat) : gIsi tab (.ref n) s = isiI s[n]? tab (.ref n) s := by
  unfold gIsi insV isiI isiB tyN
  rcases h : s[n]? with _ | (_ | _ | _) <;> simp only [h]
  all_goals (
    rename_i c fs
    cases List.lookup c tab <;> rfl)
theorem h_both (c : Str) (a b : Nat) : both c (.ref a) (.ref b) s = bothO s[a]? s[b]? c := by
  unfold both insV bothO
  rcases h : s[a]? with _ | (_ | _ | _) <;> simp only [h]
  rcases h' : s[b]? with _ | (_ | _ | _) <;> simp only [h']
theorem h_isC (c : Str) (a : Nat) : isC c (.ref a) s = isCO s[a]? c := by
  unfold isC insV isCO
  rcases h : s[a]? with _ | (_ | _ | _) <;> simp only [h]
theorem h_kMeth (alts : Alts) (mn : Str) (fs : M (List D)) (x : D) : kMeth alts mn fs x s = methR (altAt alts mn x s) fs x s := rfl
theorem h_methR (F : List D → M D) (fs : M (List D)) (x : D) : methR (some F) fs x s = (fs s).bnd fun xs => F (x :: xs) := rfl
theorem h_kCallO (c : Str) (F : List D → M D) (fs : M (List D)) (x : D) : kCallO c F fs x s = if isC c x s = true then (fs s).bnd (fun xs s2 => if isC c x s2 = true then F (x :: xs) s2 else .bad) else .bad := rfl
theorem h_own (c : Str) (F : List D → M D) (o : D → D → M D) (x y : D) : dOwn c F o x y s = if both c x y s = true then noxR (F [x, y] s) else o x y s := by unfold dOwn; rw [e_nox]
theorem h_ownNe (c : Str) (F : List D → M D) (o : D → D → M D) (x y : D) : dOwnNe c F o x y s = if both c x y s = true then notR (F [x, y] s) else o x y s := rfl
theorem h_notR (k : Bool) : notR (.ok (.bl k) s) = .ok (.bl (!k)) s := rfl
theorem h_arN (n : Nat) (F : List D → M D) (xs : List D) : arN n F xs s = if xs.length = n then F xs s else .bad := rfl
theorem h_tLst (gs : TFs) (ds : List D) : tLst gs (.lst ds) σ = gs ds σ := rfl
theorem h_asgH (g : SGT) (f : EV → M D) : sAsgH g f σ s = lft (f σ s) σ fun d s' => nxO (g d σ s') := rfl
theorem h_srcT (xs : List D) : kSrc (.tup xs) s = .ok (fix xs) s := rfl
theorem h_addR (a b : Nat) {xs ys : List D} (h1 : s[a]? = some (.lst xs)) (h2 : s[b]? = some (.lst ys)) (h : xs.length + ys.length ≤ lim) : dAdd (.ref a) (.ref b) s = .ok (.lst (xs ++ ys)) s := by
  show (match asL s (.ref a), asL s (.ref b) with | some a, some b => if a.length + b.length ≤ lim then Res.ok (D.lst (a ++ b)) s else .bad | _, _ => .bad) = _
  unfold asL
  simp only [h1, h2, h, ↓reduceIte]
end
theorem h_max (i j : Int) : (if j > i then j else i) = max i j := by
  by_cases h : j > i
  · rw [if_pos h]; omega
  · rw [if_neg h]; omega
theorem h_min (i j : Int) : (if j < i then j else i) = min i j := by
  by_cases h : j < i
  · rw [if_pos h]; omega
  · rw [if_neg h]; omega
/-- a loop as a fold -/
theorem forL_fold {α β : Type} {body : D → SM} (f : α → D) (step : β → α → β) (I : β → EV → Sto → Prop) : ∀ (xs : List α) (b : β) (σ : EV) (s : Sto), I b σ s →
    (∀ a ∈ xs, ∀ b σ' s', I b σ' s' → ∃ σ2 s2, body (f a) σ' s' = .go .nx σ2 s2 ∧ I (step b a) σ2 s2) → ∃ σ2 s2, forL body (xs.map f) σ s = .go .nx σ2 s2 ∧ I (xs.foldl step b) σ2 s2
  | [], b, σ, s, h0, _ => ⟨σ, s, rfl, h0⟩
  | a :: xs, b, σ, s, h0, H => by
    obtain ⟨σ1, s1, h1, h2⟩ := H a List.mem_cons_self b σ s h0
    obtain ⟨σ2, s2, q1, q2⟩ := forL_fold f step I xs (step b a) σ1 s1 h2 fun a' ha => H a' (List.mem_cons_of_mem _ ha)
    refine ⟨σ2, s2, ?_, q2⟩
    rw [List.map_cons]
    unfold forL
    simp only [h1]
    exact q1
/-- .. over a list of the store that stays -/
theorem forS_fold {α β : Type} {body : D → SM} {n l : Nat} {σ : EV} {s : Sto} (f : α → D) (step : β → α → β) (I : β → EV → Sto → Prop) (xs : List α) (b : β) (hl : l = (xs.map f).length) (hst : ∀ b σ' s', I b σ' s' → s'[n]? = some (.lst (xs.map f))) (h0 : I b σ s)
    (H : ∀ a ∈ xs, ∀ b σ' s', I b σ' s' → ∃ σ2 s2, body (f a) σ' s' = .go .nx σ2 s2 ∧ I (step b a) σ2 s2) : ∃ σ2 s2, forS (sto n l) body ((sto n l).n + 1) 0 σ s = .go .nx σ2 s2 ∧ I (xs.foldl step b) σ2 s2 := by
  obtain ⟨σ2, s2, h1, h2⟩ := forS_sto (n := n) (l := l) (ds := xs.map f) (body := body) (fun k σ' s' => I ((xs.take k).foldl step b) σ' s') hl (fun k σ' s' h => hst _ _ _ h) (fun k d σ' s' h hd => by
    rw [List.getElem?_map] at hd
    cases hx : xs[k]? with
    | none => rw [hx] at hd; cases hd
    | some a =>
      rw [hx] at hd
      cases hd
      obtain ⟨σ2, s2, g1, g2⟩ := H a (List.mem_of_getElem? hx) _ σ' s' h
      refine ⟨σ2, s2, g1, ?_⟩
      rw [List.take_add_one, hx, List.foldl_append]
      exact g2) h0
  refine ⟨σ2, s2, h1, ?_⟩
  rw [List.length_map, List.take_length] at h2
  exact h2
theorem at_app {s : Sto} {n : Nat} {o : O} (l : List O) (h : s[n]? = some o) : (s ++ l)[n]? = some o := by
  rw [List.getElem?_append_left (List.getElem?_eq_some_iff.mp h).1]; exact h
theorem at_end (s : Sto) (o : O) : (s ++ [o])[s.length]? = some o := by simp
theorem set_end (s : Sto) (o p : O) : (s ++ [o]).set s.length p = s ++ [p] := by simp
end RQ

namespace RQ
open PySem PySem.Spec PyProof.Rows L2 TL
theorem forL_ix {body : D → SM} (I : Nat → EV → Sto → Prop) : ∀ (ds : List D) (σ : EV) (s : Sto) (k : Nat), I k σ s →
    (∀ j d σ' s', I (k + j) σ' s' → ds[j]? = some d → ∃ σ2 s2, body d σ' s' = .go .nx σ2 s2 ∧ I (k + j + 1) σ2 s2) → ∃ σ2 s2, forL body ds σ s = .go .nx σ2 s2 ∧ I (k + ds.length) σ2 s2
  | [], σ, s, k, h0, _ => ⟨σ, s, rfl, h0⟩
  | d :: ds, σ, s, k, h0, H => by
    obtain ⟨σ1, s1, h1, h2⟩ := H 0 d σ s h0 rfl
    obtain ⟨σ2, s2, q1, q2⟩ := forL_ix I ds σ1 s1 (k + 1) h2 fun j d' σ' s' hi hd => by
      have := H (j + 1) d' σ' s' (by rw [show k + (j + 1) = k + 1 + j by omega]; exact hi) (by simpa using hd)
      rw [show k + (j + 1) + 1 = k + 1 + j + 1 by omega] at this
      exact this
    refine ⟨σ2, s2, ?_, by rw [List.length_cons, show k + (ds.length + 1) = k + 1 + ds.length by omega]; exact q2⟩
    unfold forL
    simp only [h1]
    exact q1
theorem rng_at {lo hi : Int} {j : Nat} {d : D} (h : (rng lo hi)[j]? = some d) : d = .int (lo + j) ∧ lo + j < hi := by
  unfold rng at h
  rw [List.getElem?_map] at h
  cases e : (List.range (hi - lo).toNat)[j]? with
  | none => rw [e] at h; cases h
  | some k =>
    rw [e] at h
    obtain ⟨h1, h2⟩ := List.getElem?_eq_some_iff.mp e
    rw [List.length_range] at h1
    rw [List.getElem_range] at h2
    subst h2
    cases h
    exact ⟨rfl, by omega⟩
/-- alike lists -/
inductive Al {α β : Type} (P : α → β → Prop) : List α → List β → Prop where
  | nil : Al P [] []
  | cons {a : α} {b : β} {as : List α} {bs : List β} : P a b → Al P as bs → Al P (a :: as) (b :: bs)
theorem Al.snoc {α β : Type} {P : α → β → Prop} {a : α} {b : β} : ∀ {as : List α} {bs : List β}, Al P as bs → P a b → Al P (as ++ [a]) (bs ++ [b])
  | _, _, .nil, h => .cons h .nil
  | _, _, .cons q r, h => .cons q (Al.snoc r h)
theorem Al.len {α β : Type} {P : α → β → Prop} : ∀ {as : List α} {bs : List β}, Al P as bs → bs.length = as.length
  | _, _, .nil => rfl
  | _, _, .cons _ r => by rw [List.length_cons, List.length_cons, Al.len r]
theorem Al.mem {α β : Type} {P : α → β → Prop} : ∀ {as : List α} {bs : List β}, Al P as bs → ∀ b ∈ bs, ∃ a ∈ as, P a b
  | _, _, .nil, b, h => by cases h
  | _, _, .cons q r, b, h => by
    rcases List.mem_cons.mp h with rfl | h
    · exact ⟨_, List.mem_cons_self, q⟩
    · obtain ⟨a, h1, h2⟩ := Al.mem r b h
      exact ⟨a, List.mem_cons_of_mem _ h1, h2⟩
theorem Al.imp {α β : Type} {P Q : α → β → Prop} (f : ∀ a b, P a b → Q a b) : ∀ {as : List α} {bs : List β}, Al P as bs → Al Q as bs
  | _, _, .nil => .nil
  | _, _, .cons q r => .cons (f _ _ q) (Al.imp f r)
/-- a comprehension, each element by its item; the turns may change the store -/
theorem cmpL_al {α β : Type} {g : TF} {e : EV → M D} {σ : EV} (f : α → D) (h : β → D) (I : Nat → Sto → Prop) (P : α → β → Prop) : ∀ (xs : List α) (acc : List D) (s : Sto) (k : Nat), I k s →
    (∀ a ∈ xs, ∀ k' s', I k' s' → k' < k + xs.length → ∃ σ2 y s2, g (f a) σ = some σ2 ∧ e σ2 s' = .ok (h y) s2 ∧ P a y ∧ I (k' + 1) s2) → acc.length + xs.length ≤ lim →
    ∃ ys s2, cmpL g yes e σ (xs.map f) acc s = .ok (acc ++ ys.map h) s2 ∧ Al P xs ys ∧ I (k + xs.length) s2
  | [], acc, s, k, h0, _, _ => ⟨[], s, by simp [cmpL], .nil, h0⟩
  | a :: xs, acc, s, k, h0, H, hl => by
    rw [List.length_cons] at hl
    obtain ⟨σ2, y, s1, h1, h2, h3, h4⟩ := H a List.mem_cons_self k s h0 (by rw [List.length_cons]; omega)
    obtain ⟨ys, s2, q1, q2, q4⟩ := cmpL_al f h I P xs (acc ++ [h y]) s1 (k + 1) h4 (fun d' hd k' s' hi hk => H d' (List.mem_cons_of_mem _ hd) k' s' hi (by rw [List.length_cons]; omega)) (by rw [List.length_append, List.length_singleton]; omega)
    refine ⟨y :: ys, s2, ?_, .cons h3 q2, by rw [List.length_cons, show k + (xs.length + 1) = k + 1 + xs.length by omega]; exact q4⟩
    rw [List.map_cons]
    unfold cmpL
    simp only [h1, yes, h2]
    rw [if_pos (by omega), q1]
    simp
/-- .. over a list of the store that stays -/
theorem cmpS_al {α β : Type} {n l : Nat} {g : TF} {e : EV → M D} {σ : EV} {s : Sto} (f : α → D) (h : β → D) (I : Nat → Sto → Prop) (P : α → β → Prop) (xs : List α) (hl : l = (xs.map f).length) (hz : xs.length ≤ lim) (hst : ∀ k s', I k s' → s'[n]? = some (.lst (xs.map f))) (h0 : I 0 s)
    (H : ∀ a ∈ xs, ∀ k' s', I k' s' → k' < xs.length → ∃ σ2 y s2, g (f a) σ = some σ2 ∧ e σ2 s' = .ok (h y) s2 ∧ P a y ∧ I (k' + 1) s2) :
    ∃ ys s2, cmp (sto n l) g yes e σ ((sto n l).n + 1) 0 [] s = .ok (ys.map h) s2 ∧ Al P xs ys ∧ I xs.length s2 := by
  have go : ∀ (r i : Nat) (zs : List β) (s' : Sto), I i s' → i + r = xs.length → Al P (xs.take i) zs → ∃ ys s2, cmp (sto n l) g yes e σ (r + 1) i (zs.map h) s' = .ok (ys.map h) s2 ∧ Al P xs ys ∧ I xs.length s2 := by
    intro r
    induction r with
    | zero =>
      intro i zs s' hi he ha
      have ei : i = xs.length := by omega
      subst ei
      rw [List.take_length] at ha
      refine ⟨zs, s', ?_, ha, hi⟩
      unfold cmp
      rw [show (sto n l).item s' xs.length = some none by
        show (match s'[n]? with | some (.lst ds') => some ds'[xs.length]? | _ => none) = _
        rw [hst _ _ hi]; simp]
    | succ r ih =>
      intro i zs s' hi he ha
      have hx : i < xs.length := by omega
      obtain ⟨σ2, y, s2, h1, h2, h3, h4⟩ := H xs[i] (List.getElem_mem hx) i s' hi hx
      have hal : zs.length < lim := by
        rw [ha.len, List.length_take]
        omega
      obtain ⟨ys, s3, q1, q2, q3⟩ := ih (i + 1) (zs ++ [y]) s2 h4 (by omega) (by
        rw [List.take_add_one, List.getElem?_eq_getElem hx]
        exact ha.snoc h3)
      refine ⟨ys, s3, ?_, q2, q3⟩
      rw [← q1]
      conv => lhs; unfold cmp
      rw [show (sto n l).item s' i = some (some (f xs[i])) by
        show (match s'[n]? with | some (.lst ds') => some ds'[i]? | _ => none) = _
        rw [hst _ _ hi]
        show some (List.map f xs)[i]? = _
        rw [List.getElem?_map, List.getElem?_eq_getElem hx]; rfl]
      simp only [h1, e_yes, h2, List.length_map, hal, ↓reduceIte, List.map_append, List.map_cons, List.map_nil]
  subst hl
  have hn : (sto n (xs.map f).length).n + 1 = xs.length + 1 := by show (xs.map f).length + 1 = _; rw [List.length_map]
  rw [hn]
  exact go xs.length 0 [] s h0 (by omega) .nil
end RQ

namespace RQ
open PySem PySem.Spec PyProof.Rows L2 TL
/-! ### reckoning: instances that stay, what a call freezes -/
def propI (o : Option (List D → M D)) (x : D) (s : Sto) : Res D := match o with | some F => noxR (F [x] s) | none => .bad
section
variable {σ : EV} {s : Sto}
theorem e_fz (f : EV → M D) : fzE f σ s = frzR s (f σ s) := rfl
theorem e_fzF (F : List D → M D) (ds : List D) : fzF F ds s = frzR s (F ds s) := rfl
theorem i_gfld (cs : List Str) (f c : Str) (fs : List (Str × D)) : gFld cs f (.ins c fs) s = if c ∈ cs then o1 (fs.lookup f) s else .bad := by
  unfold gFld insV o1
  simp only
  all_goals (
    split
    · cases List.lookup f fs <;> rfl
    · rfl)
theorem i_gprop (alts : Alts) (c : Str) (fs : List (Str × D)) : gProp alts (.ins c fs) s = propI (alts.lookup c) (.ins c fs) s := by
  unfold gProp insV propI
  simp only
  all_goals (
    cases List.lookup c alts with
    | some F => simp only [e_nox]
    | none => rfl)
theorem i_propI (F : List D → M D) (x : D) : propI (some F) x s = noxR (F [x] s) := rfl
theorem i_alt (alts : Alts) (mn c : Str) (fs : List (Str × D)) : altAt alts mn (.ins c fs) s = if (fs.lookup mn).isNone = true then alts.lookup c else none := rfl
theorem i_gisi (tab : ITab) (c : Str) (fs : List (Str × D)) : gIsi tab (.ins c fs) s = isiB (tab.lookup c) s := by
  unfold gIsi insV isiB
  simp only
  all_goals (cases List.lookup c tab <;> rfl)
theorem i_both (c c1 c2 : Str) (f1 f2 : List (Str × D)) : both c (.ins c1 f1) (.ins c2 f2) s = (c1 == c && c2 == c) := rfl
theorem i_isC (c c1 : Str) (f1 : List (Str × D)) : isC c (.ins c1 f1) s = (c1 == c) := rfl
end
def augK (o : Option (Option D)) (i : Nat) (op : D → D → M D) (f : EV → M D) (σ : EV) (s : Sto) : SRes := match o with
  | some (some x) => lft ((f σ s).bnd fun y => nox (op x y)) σ fun d s' => .go .nx (σ.set i (some d)) s'
  | _ => .bad
def kMkS (c : Str) (F : List D → M D) (x : D) : M D := fun s => match seqAny s x with | some ds => mMk c F ds s | none => .bad
section
variable {σ : EV} {s : Sto}
theorem f_aug (i : Nat) (op : D → D → M D) (f : EV → M D) : sAug i op f σ s = augK σ[i]? i op f σ s := by
  unfold sAug augK
  rcases h : σ[i]? with _ | (_ | _) <;> simp only [h] <;> rfl
theorem f_augK (i : Nat) (op : D → D → M D) (f : EV → M D) (x : D) : augK (some (some x)) i op f σ s = lft ((f σ s).bnd fun y => nox (op x y)) σ fun d s' => .go .nx (σ.set i (some d)) s' := rfl
theorem h_mkS (c : Str) (F : List D → M D) (fo : EV → M D) : mMkS c F fo σ s = (fo σ s).bnd (kMkS c F) := rfl
theorem k_mkS (c : Str) (F : List D → M D) (ds : List D) : kMkS c F (.lst ds) s = mMk c F ds s := rfl
theorem k_mkST (c : Str) (F : List D → M D) (ds : List D) : kMkS c F (.tup ds) s = mMk c F ds s := rfl
end
theorem Keeps.refl (s : Sto) : Keeps s s := ⟨Nat.le_refl _, fun i o _ h => .inl h⟩
theorem Keeps.app {s s' : Sto} (l : List O) (h : Keeps s s') : Keeps s (s' ++ l) := by
  refine ⟨by rw [List.length_append]; have := h.1; omega, fun i o hi ho => h.2 i o hi ?_⟩
  rw [List.getElem?_append_left (by have := h.1; omega)] at ho
  exact ho
theorem keeps_app (s : Sto) (l : List O) : Keeps s (s ++ l) := (Keeps.refl s).app l
theorem allM_id {α : Type} {f : α → Option α} : ∀ {xs : List α}, (∀ x ∈ xs, f x = some x) → allM f xs = some xs
  | [], _ => rfl
  | x :: xs, h => by
    unfold allM
    rw [h x List.mem_cons_self, allM_id fun y hy => h y (List.mem_cons_of_mem _ hy)]
/-- plain data of a depth: no references -/
inductive Pl : Nat → D → Prop where
  | non {n : Nat} : Pl (n + 1) .non
  | bl {n : Nat} (b : Bool) : Pl (n + 1) (.bl b)
  | int {n : Nat} (i : Int) : Pl (n + 1) (.int i)
  | str {n : Nat} (x : Str) : Pl (n + 1) (.str x)
  | tup {n : Nat} {xs : List D} : (∀ x ∈ xs, Pl n x) → Pl (n + 1) (.tup xs)
  | lst {n : Nat} {xs : List D} : (∀ x ∈ xs, Pl n x) → Pl (n + 1) (.lst xs)
  | sls {n : Nat} {xs : List D} : (∀ x ∈ xs, Pl n x) → Pl (n + 1) (.sls xs)
  | dic {n : Nat} {kvs : List (Key × D)} : (∀ x ∈ kvs.map (·.2), Pl n x) → Pl (n + 1) (.dic kvs)
  | ins {n : Nat} {c : Str} {fs : List (Str × D)} : (∀ x ∈ fs.map (·.2), Pl n x) → Pl (n + 1) (.ins c fs)
theorem zip_of_map {α β : Type} : ∀ (xs : List (α × β)), (xs.map (·.1)).zip (xs.map (·.2)) = xs
  | [] => rfl
  | x :: xs => by rw [List.map_cons, List.map_cons, List.zip_cons_cons, zip_of_map xs]
theorem Pl.frz {s : Sto} {m : Nat} : ∀ {n : Nat} {d : D}, Pl n d → ∀ {f : Nat}, n ≤ f → RQ.frz m s f d = some d
  | _, _, .non, f + 1, _ => rfl
  | _, _, .bl b, f + 1, _ => rfl
  | _, _, .int i, f + 1, _ => rfl
  | _, _, .str x, f + 1, _ => rfl
  | _, _, .tup h, f + 1, hf => by
    unfold RQ.frz
    simp only
    rw [allM_id fun x hx => (h x hx).frz (by omega)]
    rfl
  | _, _, .lst h, f + 1, hf => by
    unfold RQ.frz
    simp only
    rw [allM_id fun x hx => (h x hx).frz (by omega)]
    rfl
  | _, _, .sls h, f + 1, hf => by
    unfold RQ.frz
    simp only
    rw [allM_id fun x hx => (h x hx).frz (by omega)]
    rfl
  | _, _, .dic h, f + 1, hf => by
    unfold RQ.frz
    simp only
    rw [allM_id fun x hx => (h x hx).frz (by omega)]
    simp only [Option.map_some, zip_of_map]
  | _, _, .ins h, f + 1, hf => by
    unfold RQ.frz
    simp only
    rw [allM_id fun x hx => (h x hx).frz (by omega)]
    simp only [Option.map_some, zip_of_map]
theorem Pl.mono : ∀ {n : Nat} {d : D}, Pl n d → ∀ {m : Nat}, n ≤ m → Pl m d
  | _, _, .non, m + 1, _ => .non
  | _, _, .bl b, m + 1, _ => .bl b
  | _, _, .int i, m + 1, _ => .int i
  | _, _, .str x, m + 1, _ => .str x
  | _, _, .tup h, m + 1, hm => .tup fun x hx => (h x hx).mono (by omega)
  | _, _, .lst h, m + 1, hm => .lst fun x hx => (h x hx).mono (by omega)
  | _, _, .sls h, m + 1, hm => .sls fun x hx => (h x hx).mono (by omega)
  | _, _, .dic h, m + 1, hm => .dic fun x hx => (h x hx).mono (by omega)
  | _, _, .ins h, m + 1, hm => .ins fun x hx => (h x hx).mono (by omega)
theorem Pl.cl {n : Nat} : ∀ {k : Nat} {d : D}, Pl k d → Cl n d
  | _, _, .non => .non
  | _, _, .bl b => .bl b
  | _, _, .int i => .int i
  | _, _, .str x => .str x
  | _, _, .tup h => .tup fun x hx => (h x hx).cl
  | _, _, .lst h => .lst fun x hx => (h x hx).cl
  | _, _, .sls h => .sls fun x hx => (h x hx).cl
  | _, _, .dic h => .dic fun x hx => (h x hx).cl
  | _, _, .ins h => .ins fun x hx => (h x hx).cl
/-- a call that leaves its answer as plain data, and new things besides -/
theorem frz_pl {s s' : Sto} {d : D} {n : Nat} (h : Keeps s s') (hd : Pl n d) (hn : n ≤ 20) : frzR s (.ok d s') = .ok d (s'.take s.length) := frz_ok h (hd.frz hn)
/-- .. as a new list of plain data -/
theorem frz_lst {s s' : Sto} {k : Nat} {xs : List D} {n : Nat} (h : Keeps s s') (hk : s.length ≤ k) (hs : s'[k]? = some (.lst xs)) (hx : ∀ x ∈ xs, Pl n x) (hn : n ≤ 19) : frzR s (.ok (.ref k) s') = .ok (.lst xs) (s'.take s.length) := by
  refine frz_ok h ?_
  unfold frz
  simp only [if_neg (show ¬ k < s.length by omega), hs]
  rw [allM_id fun x hx' => (hx x hx').frz hn]
  rfl
/-- .. as a new instance -/
theorem frz_ins {s s' : Sto} {k : Nat} {c : Str} {fs : List (Str × D)} {n : Nat} (h : Keeps s s') (hk : s.length ≤ k) (hs : s'[k]? = some (.ins c fs)) (hx : ∀ x ∈ fs.map (·.2), Pl n x) (hn : n ≤ 19) : frzR s (.ok (.ref k) s') = .ok (.ins c fs) (s'.take s.length) := by
  refine frz_ok h ?_
  unfold frz
  simp only [if_neg (show ¬ k < s.length by omega), hs]
  rw [allM_id fun x hx' => (hx x hx').frz hn]
  simp only [Option.map_some, zip_of_map]
theorem take_app {s : Sto} (l : List O) : (s ++ l).take s.length = s := List.take_left
end RQ

/-! calls with keywords; f-strings; divmod, int -/
namespace RQ
open PySem PySem.Spec PyProof.Rows L2
section
variable {X : Cx} {W : WX} {k n : Nat} {f : Addr} {fd : FuncData} {ps ks : List Str} {F : List D → M D} {x : Str} {p pos kpos : Pos} {a e : Expr} {es : List Expr} {kws : List Keyword} {fs gs : EV → M (List D)} {fe : EV → M D} {nm : Option Str}
structure IK (X : Cx) (W : WX) (kws : List Keyword) (f : EV → M (List D)) : Prop where
  pk : PK X kws (rA X W f)
theorem pk_mono {t t' : TA} (h : PK X kws t) (i : ∀ σ H Q, t' σ H Q → t σ H Q) : PK X kws t' := ⟨fun ps pins s σ H Q I q => h.run ps pins s σ H Q I (i σ H Q q)⟩
theorem ik_nil : IK X W [] aNil := ⟨pk_mono pk_nil fun σ H Q ⟨m, σd, s, hR, hS, hG⟩ => Go.ok (a := []) hG hR .nil⟩
theorem ik_cons (ha : IE X W e fe) (hr : IK X W kws gs) : IK X W (⟨nm, e, kpos⟩ :: kws) (aCons fe gs) := by
  refine ⟨pk_mono (pk_cons ha.pe hr.pk) fun σ H Q ⟨m, σd, s, hR, hS, hG⟩ => ?_⟩
  refine ⟨m, σd, s, hR, hS, (Go.bnd (rel := RV X.K) hG).imp fun x H1 ⟨m1, d, s1, e1, r1, v1, g1⟩ => ?_⟩
  refine ⟨m1, σd, s1, r1, hS.mono e1.pre e1.same, (Go.bnd (rel := RVs X.K) g1).imp fun y H2 ⟨m2, d2, s2, e2, r2, v2, g2⟩ => ?_⟩
  exact Go.ok (a := d :: d2) g2 r2 (.cons (v1.mono e2.pre e2.same) v2)
/-- n positional values, then the keywords' ones, in the parameters' order -/
structure KBi (K : PySem.W.Frag) (fd : FuncData) (ps : List Str) (n : Nat) (ks : List Str) : Prop where
  to : ∀ (s : Shared) (us ws : List Value), K.In s.heap → us.length = n → ws.length = ks.length → BindsTo s fd ⟨us, ks.zip ws⟩ (ps.zip (us ++ ws))
  len : n + ks.length = ps.length
def mCallK (n q : Nat) (F : List D → M D) (fs gs : EV → M (List D)) : EV → M D := fun σ => bnd (fs σ) fun xs => bnd (gs σ) fun ys s => if xs.length = n ∧ ys.length = q then F (xs ++ ys) s else .bad
theorem ie_callK {q : Nat} (G : FnI X.prog X.w X.K X.mg X.base k f fd ps F) (hr : Room k X.A) (hgd : X.A.guards = some []) (tk : Takes X W) (hg : Gl X x) (hm : X.mg x = some (.ref f)) (hk : PySem.W.keepIn X.K (.ref f) = true) (hb : KBi X.K fd ps n ks) (hq : ks.length = q)
    (ha : IA X W (a :: es) fs) (hkw : IK X W kws gs) (hall : (backToKw pos (keywordEach kws X.env)).all (·.1.isSome) = true := by rfl) (hks : (backToKw pos (keywordEach kws X.env)).filterMap (·.1) = ks := by rfl)
    (hdb : (x == ("__debug__" : Str)) = false := by decide) (he : starEach (a :: es) X.env = (false, eval a X.env) :: starEach es X.env := by rfl)
    (hpl : ((backTo pos (starEach (a :: es) X.env)).any (·.1) || (backToKw pos (keywordEach kws X.env)).any (·.1.isNone)) = false := by rfl) :
    IE X W (.Call (.Name x p) (a :: es) kws pos) (mCallK n q F fs gs) := by
  subst hq
  refine ⟨⟨fun pins s σ H Q I ⟨m, σd, t, hR, hS, hG⟩ => ?_⟩⟩
  refine wpAny_Call_Name_kw (ld_glob I hg hm ?_ hdb)
  refine PySem.W.callWith_KW (h₀ := X.base) I.ok.mod.kin hk hall (thn (ha.pa.run pos pins s σ H _ I ⟨m, σd, t, hR, hS, Go.bnd (rel := RVs X.K) hG⟩) fun us s1 ⟨vs, H1, I1, r, m1, xs, t1, e1, r1, v1, g1⟩ => ?_) hpl he
  refine thn (hkw.pk.run pos pins s1 σ H1 _ I1 ⟨m1, σd, t1, r1, hS.mono e1.pre e1.same, Go.bnd (rel := RVs X.K) g1⟩) fun ws s2 ⟨zs, H2, I2, rz, m2, ys, t2, e2, r2, v2, g2⟩ => ⟨I2.kIn, ?_⟩
  rw [hks]
  split at g2
  · rename_i hl
    have v1' := v1.mono e2.pre e2.same
    refine wpAny_call (codeAny_mono (run_i (us := us) (args := ⟨us, ks.zip ws⟩) G hr hgd tk (hb.to s2 us ws I2.kIn (by rw [← r.length, v1.length]; exact hl.1) (by rw [← rz.length, v2.length]; exact hl.2)) I2 (r.append rz) (by rw [List.length_append, v1.length, v2.length, hl.1, hl.2]; exact hb.len) r2 (v1'.append v2) g2) fun r s' hq => ?_)
    cases r with
    | error e => exact hq
    | ok fl =>
      cases fl with
      | ret u => exact hq
      | next => exact hq.elim
      | brk => exact hq.elim
      | cont => exact hq.elim
  · exact g2.elim
/-! ### divmod, int -/
def cDivmod (xs : List D) : M D := fun s => match xs with
  | [.int i, .int j] => if 0 < j ∧ j < 1073741824 then .ok (.tup [.int (i / j), .int (i % j)]) s else .bad
  | _ => .bad
theorem ci_divmod : CallI X (.builtin "divmod") cDivmod := by
  refine call_mono call_divmod fun vs H Q ⟨m, xs, s, hR, hx, hg⟩ => ?_
  unfold cDivmod at hg
  split at hg
  · split at hg
    · rename_i h
      obtain ⟨v, u, rfl, q1, q2⟩ := rv2 hx
      cases q1
      cases q2
      exact ⟨_, _, rfl, h, fun p hp => Go.newT hR (.cons (.int _) (.cons (.int _) .nil)) hp hg⟩
    · exact hg.elim
  · exact hg.elim
def cInt (xs : List D) : M D := fun s => match xs with
  | [.int i] => .ok (.int i) s
  | [.bl k] => .ok (.int (if k then 1 else 0)) s
  | [.str a] => (match PySem.intText? a with | some n => if a.length ≤ 640 then .ok (.int n) s else .bad | none => .bad)
  | _ => .bad
theorem CallR.or {f : Value} {r r' : List V → Hp → VK → Prop} (h : CallR X f r) (h' : CallR X f r') : CallR X f (fun xs H Q => r xs H Q ∨ r' xs H Q) :=
  fun pins s σ H xs us Q I rs q => q.elim (h pins s σ H xs us Q I rs) (h' pins s σ H xs us Q I rs)
theorem ci_int : CallI X (.type "int") cInt := by
  refine call_mono (CallR.or call_int1 call_int_str) fun vs H Q ⟨m, xs, s, hR, hx, hg⟩ => ?_
  unfold cInt at hg
  split at hg
  · obtain ⟨v, rfl, q⟩ := rv1 hx
    cases q
    exact .inl (.inl ⟨_, rfl, hg.ok hR (.int _)⟩)
  · obtain ⟨v, rfl, q⟩ := rv1 hx
    cases q
    exact .inl (.inr ⟨_, rfl, hg.ok hR (.int _)⟩)
  · obtain ⟨v, rfl, q⟩ := rv1 hx
    cases q
    split at hg
    · rename_i n e
      split at hg
      · rename_i hl
        exact .inr ⟨_, n, rfl, e, hl, hg.ok hR (.int _)⟩
      · exact hg.elim
    · exact hg.elim
  · exact hg.elim
/-! ### f-strings -/
def kFmt (x : D) : M D := fun s => match x with
  | .str y => if y.length ≤ lim then .ok (.str y) s else .bad
  | .int i => if i.natAbs.log2 < 1920 then .ok (.str (Str.ofString (toString i))) s else .bad
  | _ => .bad
def mFmt (f : EV → M D) : EV → M D := fun σ => bnd (f σ) kFmt
theorem ie_fmt (he : IE X W e fe) : IE X W (.FormattedValue e (-1) none pos) (mFmt fe) := by
  refine ⟨pe_mono (pe_fmt he.pe) fun σ H Q ⟨m, σd, s, hR, hS, hG⟩ => ?_⟩
  refine ⟨m, σd, s, hR, hS, (Go.bnd (rel := RV X.K) hG).imp fun x H1 ⟨m1, d, s1, e1, r1, v1, g1⟩ => ?_⟩
  unfold kFmt at g1
  split at g1
  · cases v1
    split at g1
    · rename_i hl
      exact .inl ⟨_, rfl, lim_le hl, g1.ok r1 (.str _)⟩
    · exact g1.elim
  · cases v1
    split at g1
    · rename_i hl
      exact .inr ⟨_, rfl, hl, g1.ok r1 (.str _)⟩
    · exact g1.elim
  · exact g1.elim
inductive IJ (X : Cx) (W : WX) : List Expr → List (EV → M D) → Prop where
  | nil : IJ X W [] []
  | cons {e : Expr} {f : EV → M D} {es : List Expr} {fs : List (EV → M D)} (h : IE X W e f) (r : IJ X W es fs) : IJ X W (e :: es) (f :: fs)
theorem IJ.pj : ∀ {es : List Expr} {fs : List (EV → M D)}, IJ X W es fs → PJ X es (fs.map (rE X W))
  | _, _, .nil => .nil
  | _, _, .cons h r => .cons h.pe r.pj
def mJs : List (EV → M D) → Str → EV → M D
  | [], acc => fun _ s => .ok (.str acc) s
  | f :: fs, acc => fun σ => bnd (f σ) fun x => match x with
    | .str y => if (acc ++ y).length ≤ lim then mJs fs (acc ++ y) σ else bad
    | _ => bad
theorem js : ∀ (fs : List (EV → M D)) (acc : Str) {σ : SV} {H : Hp} {Q : VK}, rE X W (mJs fs acc) σ H Q → tJs (fs.map (rE X W)) acc σ H fun out H1 => Q (.str out) H1
  | [], acc, σ, H, Q, ⟨m, σd, s, hR, hS, hG⟩ => Go.ok (a := D.str acc) hG hR (.str _)
  | f :: fs, acc, σ, H, Q, ⟨m, σd, s, hR, hS, hG⟩ => by
    refine ⟨m, σd, s, hR, hS, (Go.bnd (rel := RV X.K) hG).imp fun x H1 ⟨m1, d, s1, e1, r1, v1, g1⟩ => ?_⟩
    split at g1
    · cases v1
      split at g1
      · rename_i hl
        exact ⟨_, rfl, lim_le hl, js fs _ ⟨m1, σd, s1, r1, hS.mono e1.pre e1.same, g1⟩⟩
      · exact g1.elim
    · exact g1.elim
theorem ie_joined {v1 v2 : Expr} {rest : List Expr} {fs : List (EV → M D)} (h : IJ X W (v1 :: v2 :: rest) fs) : IE X W (.JoinedStr (v1 :: v2 :: rest) pos) (mJs fs Str.empty) :=
  ⟨pe_mono (pe_joined h.pj) fun σ H Q hw => js fs Str.empty hw⟩
end
end RQ

/-! data as a whole: equal, shown -/
namespace RQ
open PySem PySem.Spec PyProof.Rows L2 TL
theorem allM_map {α β γ : Type} {f : β → Option γ} {g : α → β} {h : α → γ} : ∀ {xs : List α}, (∀ x ∈ xs, f (g x) = some (h x)) → allM f (xs.map g) = some (xs.map h)
  | [], _ => rfl
  | x :: xs, H => by
    rw [List.map_cons]
    unfold allM
    rw [H x List.mem_cons_self, allM_map fun y hy => H y (List.mem_cons_of_mem _ hy)]
    rfl
theorem toP_lst {α : Type} {s : Sto} {n : Nat} {f : α → D} {g : α → PyData} {xs : List α} (h : ∀ a ∈ xs, toP n s (f a) = some (g a)) : toP (n + 1) s (.lst (xs.map f)) = some (.list (xs.map g)) := by
  unfold toP
  simp only
  rw [allM_map h]
  rfl
theorem toP_tup {α : Type} {s : Sto} {n : Nat} {f : α → D} {g : α → PyData} {xs : List α} (h : ∀ a ∈ xs, toP n s (f a) = some (g a)) : toP (n + 1) s (.tup (xs.map f)) = some (.tuple (xs.map g)) := by
  unfold toP
  simp only
  rw [allM_map h]
  rfl
theorem lay_all {α : Type} {g : α → PyData} : ∀ {xs : List α}, (∀ a ∈ xs, (g a).canLay0 = true) → PyData.canLayAll0 (xs.map g) = true
  | [], _ => rfl
  | x :: xs, h => by
    rw [List.map_cons]
    simp only [PyData.canLayAll0, h x List.mem_cons_self, lay_all fun y hy => h y (List.mem_cons_of_mem _ hy), Bool.and_self]
theorem lay_list {α : Type} {g : α → PyData} {xs : List α} (h : ∀ a ∈ xs, (g a).canLay0 = true) : (PyData.list (xs.map g)).canLay0 = true := lay_all h
theorem lay_tuple {α : Type} {g : α → PyData} {xs : List α} (h : ∀ a ∈ xs, (g a).canLay0 = true) : (PyData.tuple (xs.map g)).canLay0 = true := lay_all h
theorem dEq_same {s : Sto} {x y : D} {p : PyData} (hx : dat s x = some p) (hy : dat s y = some p) (hc : p.canLay0 = true) : dEqB s x y = some true := by
  unfold dEqB
  cases e : sEq x y with
  | none => simp only [hx, hy, hc, and_self, ↓reduceIte, SeqAt.eqv_refl p hc]
  | some b =>
    unfold sEq at e
    split at e
    · cases e; cases hx; cases hy; simp
    · cases e; cases hx; cases hy; simp
    · cases e; cases hx; cases hy; simp
    · cases e
theorem eq_same {s : Sto} {x y : D} {p : PyData} (hx : dat s x = some p) (hy : dat s y = some p) (hc : p.canLay0 = true) : dEq x y s = .ok (.bl true) s := by unfold dEq; rw [dEq_same hx hy hc]
theorem ne_same {s : Sto} {x y : D} {p : PyData} (hx : dat s x = some p) (hy : dat s y = some p) (hc : p.canLay0 = true) : dNe x y s = .ok (.bl false) s := by unfold dNe; rw [dEq_same hx hy hc]; rfl
theorem eq_diff {s : Sto} {x y : D} {p q : PyData} (h0 : sEq x y = none) (hx : dat s x = some p) (hy : dat s y = some q) (hc : p.canLay0 = true) (hd : q.canLay0 = true) {b : Bool} (he : PyData.eqv p q = b) : dEqB s x y = some b := by
  unfold dEqB
  simp only [h0, hx, hy, hc, hd, and_self, ↓reduceIte, he]
theorem rdat_of {s : Sto} {x : D} {p : PyData} (h : dat s x = some p) : rdat s x = some p := by
  unfold rdat
  split
  · cases h
  · exact h
end RQ

/-! own ==, != with any right side; repr, str by an own __repr__ -/
namespace RQ
open PySem PySem.Spec PyProof.Rows L2
/-- no built-in type comes first in a comparison with an instance of C -/
structure NFC (K : PySem.W.Frag) (C : Addr) : Prop where
  own : PySem.W.notFirst K C (.ref C) = true
  non : PySem.W.notFirst K C (.type "NoneType") = true
  bl : PySem.W.notFirst K C (.type "bool") = true
  int : PySem.W.notFirst K C (.type "int") = true
  str : PySem.W.notFirst K C (.type "str") = true
  tup : PySem.W.notFirst K C (.type "tuple") = true
  lst : PySem.W.notFirst K C (.type "list") = true
  dic : PySem.W.notFirst K C (.type "dict") = true
theorem NFC.of {K : PySem.W.Frag} {C : Addr} (h : NFC K C) {s : Sto} {x : D} {t : String} (e : tyN s x = some t) : PySem.W.notFirst K C (.type t) = true := by
  unfold tyN at e
  split at e
  · cases e; exact h.non
  · cases e; exact h.bl
  · cases e; exact h.int
  · cases e; exact h.str
  · cases e; exact h.tup
  · cases e; exact h.lst
  · cases e; exact h.lst
  · cases e; exact h.dic
  · split at e
    · cases e; exact h.lst
    · cases e; exact h.dic
    · cases e
  · cases e
def rhs (c : Str) (y : D) (s : Sto) : Bool := match insV s y with | some (c2, _) => c2 == c | none => (tyN s y).isSome
def lhs (c : Str) (x y : D) (s : Sto) : Bool := isC c x s && rhs c y s
section
variable {X : Cx} {k : Nat} {f C : Addr} {c : Str} {F : List D → M D}
theorem rhs_at {pins : List (Addr × Obj)} {σ : SV} {sh : Shared} {m : MM} {s : Sto} {H : Hp} {y : D} {u : V} {u' : Value} (hm : X.mg c = some (.ref C)) (nf : NFC X.K C) (I : Inv X pins σ H sh) (hR : R X.K X.mg m s H) (ry : RV X.K m (hid m H) y u) (ru : RelV u u') (h : rhs c y s = true) :
    ∃ tb, PySem.W.Looks (model X.prog X.w) sh.heap (typeOf u') tb ∧ PySem.W.notFirst X.K C tb = true := by
  unfold rhs at h
  split at h
  · rename_i c2 f2 e
    have q := eq_of_beq h
    subst q
    obtain ⟨b, C2, dy, hs, rfl, h3, h4, _⟩ := insV_at hR ry e
    rw [hm] at h3
    cases h3
    obtain rfl : u' = Value.ref b := ru
    obtain ⟨oy, oe, J'⟩ := inst_at I h4
    exact ⟨_, J'.type, nf.own⟩
  · obtain ⟨t, ht⟩ := Option.isSome_iff_exists.mp h
    obtain ⟨P, hk, hp, _⟩ := kit_of I ru (tyN_ok hR ry ht)
    exact ⟨_, hk.ty _ _ I.kIn hp, nf.of ht⟩
def dOwnE (c : Str) (F : List D → M D) (o : D → D → M D) (x y : D) : M D := fun s => if lhs c x y s = true then nox (F [x, y]) s else o x y s
def dOwnN (c : Str) (F : List D → M D) (o : D → D → M D) (x y : D) : M D := fun s => if lhs c x y s = true then notR (F [x, y] s) else o x y s
theorem oi_eqE {o : D → D → M D} (ob : OpI X (compareOp .Eq) o) (hm : X.mg c = some (.ref C)) (nf : NFC X.K C) (hs : PySem.W.findIn X.K (.ref C) "__eq__" = some (some (.ref f))) (hf : PySem.W.isFn X.K (.ref f) = true)
    (G : FnJ X.prog X.w X.K X.mg X.base k f F) (hr : Room k X.A) (hgd : X.A.guards = some []) : OpI X (compareOp .Eq) (dOwnE c F o) := by
  intro pins sh σ H v u v' u' Q I rv ru ⟨m, x, y, s, hR, hx, hy, hg⟩
  unfold dOwnE at hg
  split at hg
  · rename_i hb
    rw [lhs, Bool.and_eq_true] at hb
    obtain ⟨a, dx, gs, rfl, h1⟩ := isC_at hm hR hx hb.1
    obtain ⟨tb, hl, hn⟩ := rhs_at hm nf I hR hy ru hb.2
    obtain rfl : v' = Value.ref a := rv
    obtain ⟨ox, od, J⟩ := inst_at I h1
    obtain ⟨m', hF⟩ := I.fr
    show wpAny _ _ (richCompare .Eq _ _) _ _ _
    refine PySem.W.cmp_K (op := .Eq) (tb := tb) hr.units0 hF I.ok.mod.kin J hl hn hs hf (wpAny_mono (callN (vs := [.ref a, u]) G hr hgd I.env0 I (.cons rfl (.cons ru .nil)) hR (.cons hx (.cons hy .nil)) hg) (fun w s' z => ?_) fun _ _ z => z)
    obtain ⟨z', H', I', rz, qz⟩ := z
    exact back_of rz ⟨z', H', I', rz, qz⟩
  · exact ob pins sh σ H v u v' u' Q I rv ru ⟨m, x, y, s, hR, hx, hy, hg⟩
theorem oi_neE {o : D → D → M D} (ob : OpI X (compareOp .NotEq) o) (hm : X.mg c = some (.ref C)) (nf : NFC X.K C) (hs : PySem.W.findIn X.K (.ref C) "__eq__" = some (some (.ref f))) (hf : PySem.W.isFn X.K (.ref f) = true)
    (hne : PySem.W.findIn X.K (.ref C) "__ne__" = some (some (.builtin "object.__ne__"))) (hob : PySem.W.subIn X.K (.ref C) (.type "object") = some true)
    (G : FnJ X.prog X.w X.K X.mg X.base k f F) (hr : Room (k + 1) X.A) (hgd : X.A.guards = some []) : OpI X (compareOp .NotEq) (dOwnN c F o) := by
  intro pins sh σ H v u v' u' Q I rv ru ⟨m, x, y, s, hR, hx, hy, hg⟩
  unfold dOwnN at hg
  split at hg
  · rename_i hb
    rw [lhs, Bool.and_eq_true] at hb
    obtain ⟨a, dx, gs, rfl, h1⟩ := isC_at hm hR hx hb.1
    obtain ⟨tb, hl, hn⟩ := rhs_at hm nf I hR hy ru hb.2
    obtain rfl : v' = Value.ref a := rv
    obtain ⟨ox, od, J⟩ := inst_at I h1
    have hg2 : Go W0 X.K X.mg [] (RV X.K) m H (nox (F [x, y]) s) (fun w H' => ∃ kk, w = .bl kk ∧ Q (.bl (!kk)) H') := by
      unfold notR at hg
      unfold nox
      cases q : F [x, y] s with
      | ok d s' =>
        rw [q] at hg
        intro w m' H' ee rr vv
        cases d with
        | bl kk =>
          cases vv
          exact ⟨kk, rfl, hg _ m' H' ee rr (.bl _)⟩
        | _ => exact hg.elim
      | exc c' fs' s' => rw [q] at hg; exact hg.elim
      | bad => rw [q] at hg; exact hg.elim
    have hin : PySem.W.Looks (model X.prog X.w) sh.heap (isInstance (.ref a) (.type "object")) true := J.type.andThen (PySem.W.looks_subIn I.kIn hob)
    have hbd : ∀ self, PySem.W.Looks (model X.prog X.w) sh.heap (bindSpecial (.builtin "object.__ne__") self) (.builtin "object.__ne__", [self]) := fun self => PySem.W.Looks.of_pure (bind_ne self)
    show wpAny _ _ (richCompare .NotEq _ _) _ _ _
    refine ne_own (tb := tb) (by have := hr.units; omega) I.kIn J hl hn hne hs hf hbd hin (wpAny_mono (callN (vs := [.ref a, u]) G hr.in1 hgd I.env0.in1 I (.cons rfl (.cons ru .nil)) hR (.cons hx (.cons hy .nil)) hg2) (fun w s' z => ?_) fun _ _ z => z)
    obtain ⟨z', H', I', rz, kk, rfl, qz⟩ := z
    cases (show w = Value.bool kk from rz)
    exact ⟨kk, rfl, .bl (!kk), H', I', rfl, qz⟩
  · exact ob pins sh σ H v u v' u' Q I rv ru ⟨m, x, y, s, hR, hx, hy, hg⟩
/-! ### repr, str -/
def strO (r : Res D) : Res D := match r with | .ok (.str z) s => .ok (.str z) s | _ => .bad
def cReprO (c : Str) (F : List D → M D) (g : List D → M D) (xs : List D) : M D := fun s => match xs with
  | [x] => if isC c x s = true then strO (F [x] s) else g [x] s
  | xs => g xs s
theorem strO_go {m : MM} {s : Sto} {H : Hp} {x : D} {Q : VK} (hg : Go W0 X.K X.mg [] (RV X.K) m H (strO (F [x] s)) Q) : Go W0 X.K X.mg [] (RV X.K) m H (nox (F [x]) s) (fun w H' => ∃ z, w = .str z ∧ Q (.str z) H') := by
  unfold strO at hg
  unfold nox
  cases q : F [x] s with
  | ok d s' =>
    rw [q] at hg
    intro w m' H' ee rr vv
    cases d with
    | str z =>
      cases vv
      exact ⟨z, rfl, hg _ m' H' ee rr (.str _)⟩
    | _ => exact hg.elim
  | exc c' fs' s' => rw [q] at hg; exact hg.elim
  | bad => rw [q] at hg; exact hg.elim
theorem ci_reprO {g : List D → M D} (cg : CallI X (.builtin "repr") g) (hm : X.mg c = some (.ref C)) (hs : PySem.W.findIn X.K (.ref C) "__repr__" = some (some (.ref f))) (hf : PySem.W.isFn X.K (.ref f) = true)
    (G : FnJ X.prog X.w X.K X.mg X.base k f F) (hr : Room (k + 1) X.A) (hgd : X.A.guards = some []) : CallI X (.builtin "repr") (cReprO c F g) := by
  intro pins sh σ H vs us Q I rs ⟨m, xs, s, hR, hx, hg⟩
  unfold cReprO at hg
  split at hg
  · rename_i x
    split at hg
    · rename_i hc
      obtain ⟨v, rfl, q⟩ := rv1 hx
      obtain ⟨a, dx, gs, rfl, h1⟩ := isC_at hm hR q hc
      cases rs with
      | cons r1 r2 =>
        cases r2
        obtain rfl : _ = Value.ref a := r1
        obtain ⟨ox, od, J⟩ := inst_at I h1
        obtain ⟨m', hF⟩ := I.fr
        refine PySem.W.repr_K hr.in1.units0 hF I.ok.mod.kin J hs hf (wpAny_mono (callN (vs := [.ref a]) G hr.in1 hgd I.env0.in1 I (.cons rfl .nil) hR (.cons q .nil) (strO_go hg)) (fun w s' z => ?_) fun _ _ z => z)
        obtain ⟨z', H', I', rz, zz, rfl, qz⟩ := z
        obtain ⟨t, rfl⟩ := rz
        exact ⟨.str zz, H', I', ⟨t, rfl⟩, qz⟩
    · exact cg pins sh σ H vs us Q I rs ⟨m, _, s, hR, hx, hg⟩
  · exact cg pins sh σ H vs us Q I rs ⟨m, _, s, hR, hx, hg⟩
theorem ci_strO {g : List D → M D} (cg : CallI X (.type "str") g) (hm : X.mg c = some (.ref C)) (hs : PySem.W.findIn X.K (.ref C) "__str__" = some (some (.builtin "object.__str__"))) (hmro : PySem.W.mroIn X.K C (.type "object") = some true)
    (hrp : PySem.W.findIn X.K (.ref C) "__repr__" = some (some (.ref f))) (hf : PySem.W.isFn X.K (.ref f) = true)
    (G : FnJ X.prog X.w X.K X.mg X.base k f F) (hr : Room (k + 3) X.A) (hgd : X.A.guards = some []) : CallI X (.type "str") (cReprO c F g) := by
  intro pins sh σ H vs us Q I rs ⟨m, xs, s, hR, hx, hg⟩
  unfold cReprO at hg
  split at hg
  · rename_i x
    split at hg
    · rename_i hc
      obtain ⟨v, rfl, q⟩ := rv1 hx
      obtain ⟨a, dx, gs, rfl, h1⟩ := isC_at hm hR q hc
      cases rs with
      | cons r1 r2 =>
        cases r2
        obtain rfl : _ = Value.ref a := r1
        obtain ⟨ox, od, J⟩ := inst_at I h1
        refine PySem.W.kfo_call hr.in1.in1.units0 hr.in1.in1.in1.units0 I.kIn J hs hmro hrp hf (wpAny_mono (callN (vs := [.ref a]) G hr.in1.in1.in1 hgd I.env0.in1.in1.in1 I (.cons rfl .nil) hR (.cons q .nil) (strO_go hg)) (fun w s' z => ?_) fun _ _ z => z)
        obtain ⟨z', H', I', rz, zz, rfl, qz⟩ := z
        obtain ⟨t, rfl⟩ := rz
        exact ⟨.str zz, H', I', ⟨t, rfl⟩, qz⟩
    · exact cg pins sh σ H vs us Q I rs ⟨m, _, s, hR, hx, hg⟩
  · exact cg pins sh σ H vs us Q I rs ⟨m, _, s, hR, hx, hg⟩
end
end RQ

/-! reckoning: f-strings, keywords, own operators and reprs -/
namespace RQ
open PySem PySem.Spec PyProof.Rows L2 TL
def kJs (fs : List (EV → M D)) (acc : Str) (σ : EV) (x : D) : M D := match x with
  | .str y => if (acc ++ y).length ≤ lim then mJs fs (acc ++ y) σ else bad
  | _ => bad
section
variable {σ : EV} {s : Sto}
theorem e_fmt (f : EV → M D) : mFmt f σ s = (f σ s).bnd kFmt := rfl
theorem k_fmt (y : Str) : kFmt (.str y) s = if y.length ≤ lim then .ok (.str y) s else .bad := rfl
theorem k_fmtI (i : Int) : kFmt (.int i) s = if i.natAbs.log2 < 1920 then .ok (.str (Str.ofString (toString i))) s else .bad := rfl
theorem e_js (f : EV → M D) (fs : List (EV → M D)) (acc : Str) : mJs (f :: fs) acc σ s = (f σ s).bnd (kJs fs acc σ) := rfl
theorem k_js (fs : List (EV → M D)) (acc y : Str) : kJs fs acc σ (.str y) s = if (acc ++ y).length ≤ lim then mJs fs (acc ++ y) σ s else .bad := by
  show (if (acc ++ y).length ≤ lim then mJs fs (acc ++ y) σ else bad) s = _
  split <;> rfl
theorem e_js0 (acc : Str) : mJs [] acc σ s = .ok (.str acc) s := rfl
theorem q_callK (n q : Nat) (F : List D → M D) (fs gs : EV → M (List D)) : mCallK n q F fs gs σ s = (fs σ s).bnd fun xs => bnd (gs σ) fun ys s => if xs.length = n ∧ ys.length = q then F (xs ++ ys) s else .bad := rfl
theorem q_divmod (i j : Int) : cDivmod [.int i, .int j] s = if 0 < j ∧ j < 1073741824 then .ok (.tup [.int (i / j), .int (i % j)]) s else .bad := rfl
theorem q_strO (z : Str) : strO (.ok (.str z) s) = .ok (.str z) s := rfl
theorem q_reprO (c : Str) (F g : List D → M D) (x : D) : cReprO c F g [x] s = if isC c x s = true then strO (F [x] s) else g [x] s := rfl
theorem q_isCint (c : Str) (i : Int) : isC c (.int i) s = false := rfl
theorem q_isCbl (c : Str) (b : Bool) : isC c (.bl b) s = false := rfl
theorem q_isCstr (c : Str) (b : Str) : isC c (.str b) s = false := rfl
theorem q_isCtup (c : Str) (b : List D) : isC c (.tup b) s = false := rfl
theorem q_isClst (c : Str) (b : List D) : isC c (.lst b) s = false := rfl
theorem q_isCnon (c : Str) : isC c .non s = false := rfl
theorem q_ownE (c : Str) (F : List D → M D) (o : D → D → M D) (x y : D) : dOwnE c F o x y s = if lhs c x y s = true then noxR (F [x, y] s) else o x y s := by unfold dOwnE; rw [e_nox]
theorem q_ownN (c : Str) (F : List D → M D) (o : D → D → M D) (x y : D) : dOwnN c F o x y s = if lhs c x y s = true then notR (F [x, y] s) else o x y s := rfl
theorem q_lhs (c : Str) (x y : D) : lhs c x y s = (isC c x s && rhs c y s) := rfl
theorem q_rins (c c1 : Str) (fs : List (Str × D)) : rhs c (.ins c1 fs) s = (c1 == c) := rfl
theorem q_rint (c : Str) (i : Int) : rhs c (.int i) s = true := rfl
theorem q_rbl (c : Str) (b : Bool) : rhs c (.bl b) s = true := rfl
theorem q_rstr (c : Str) (b : Str) : rhs c (.str b) s = true := rfl
theorem q_rtup (c : Str) (b : List D) : rhs c (.tup b) s = true := rfl
theorem q_rlst (c : Str) (b : List D) : rhs c (.lst b) s = true := rfl
theorem q_rnon (c : Str) : rhs c .non s = true := rfl
theorem q_mulL (a : List D) (k : Int) : dMul (.lst a) (.int k) s = if 0 ≤ k ∧ a.length * k.toNat ≤ lim ∧ k ≤ lim then .ok (.lst (List.replicate k.toNat a).flatten) s else .bad := rfl
theorem q_pow (k : Nat) (hk : k ≤ 1000) : dPow (.int 10) (.int k) s = .ok (.int (10 ^ k)) s := by
  rw [u_pow, if_pos ⟨by omega, by omega, by decide⟩]
  rfl
theorem q_intB (b : Bool) : cInt [.bl b] s = .ok (.int (if b = true then 1 else 0)) s := rfl
theorem q_intI (i : Int) : cInt [.int i] s = .ok (.int i) s := rfl
theorem q_sum (ns : List Int) : cSum [.lst (ns.map D.int)] s = .ok (.int ns.sum) s := by
  unfold cSum asLL asL
  simp only [allM_map_int]
theorem q_all (bs : List Bool) : cAll [.lst (bs.map D.bl)] s = .ok (.bl (bs.all id)) s := by
  unfold cAll asLL asL
  simp only [allM_map_bl]
theorem q_any (bs : List Bool) : cAny [.lst (bs.map D.bl)] s = .ok (.bl (bs.any id)) s := by
  unfold cAny asLL asL
  simp only [allM_map_bl]
theorem q_neS (z : Str) : dNe (.str z) (.str z) s = .ok (.bl false) s := by rw [v_neS, beq_self_eq_true]; rfl
theorem q_step {g : TF} {t : EV → M Bool} {e : EV → M D} {σ2 : EV} {d y : D} {ds acc : List D} {s1 s2 : Sto} (h1 : g d σ = some σ2) (h2 : t σ2 s = .ok true s1) (h3 : e σ2 s1 = .ok y s2) (hl : acc.length < lim) :
    cmpL g t e σ (d :: ds) acc s = cmpL g t e σ ds (acc ++ [y]) s2 := by
  conv => lhs; unfold cmpL
  simp only [h1, h2, h3, hl, ↓reduceIte]
theorem q_end {g : TF} {t : EV → M Bool} {e : EV → M D} {acc : List D} : cmpL g t e σ [] acc s = .ok acc s := rfl
end
theorem slen (x y : Str) : (x ++ y).length = x.length + y.length := by show (x.cps ++ y.cps).size = _; rw [Array.size_append]; rfl
theorem q_at {α : Type} {xs : List α} {f : α → D} {i : Int} (h0 : 0 ≤ i) (h1 : i < xs.length) : ∃ a, xs[i.toNat]? = some a ∧ atI (xs.map f) i = some (f a) := by
  have hl : i.toNat < xs.length := by omega
  refine ⟨xs[i.toNat], List.getElem?_eq_getElem hl, ?_⟩
  rw [at_nat _ h0, List.getElem?_map, List.getElem?_eq_getElem hl]
  rfl
theorem repl_map {α : Type} (f : α → D) (rows : List α) : ∀ n : Nat, (List.replicate n (rows.map f)).flatten = ((List.replicate n rows).flatten).map f
  | 0 => rfl
  | n + 1 => by rw [List.replicate_succ, List.replicate_succ, List.flatten_cons, List.flatten_cons, List.map_append, repl_map f rows n]
theorem repl_len {α : Type} (rows : List α) (n : Nat) : (List.replicate n rows).flatten.length = n * rows.length := by rw [List.length_flatten, List.map_replicate, List.sum_replicate_nat]
theorem repl_mem {α : Type} {rows : List α} {n : Nat} {r : α} (h : r ∈ (List.replicate n rows).flatten) : r ∈ rows := by
  rw [List.mem_flatten] at h
  obtain ⟨l, hl, hr⟩ := h
  rw [List.mem_replicate] at hl
  rw [hl.2] at hr
  exact hr
end RQ

/-! own exceptions: raise, try -/
namespace RQ
open PySem PySem.Spec PyProof.Rows L2
section
variable {X : Cx} {W : WX} {o e : Expr} {es : List Expr} {ta : TA} {c : Str} {C B : Addr} {p1 p2 pos : Pos}
/-- what the written part says of the class whose __init__ is called by its name -/
structure QBase (K : PySem.W.Frag) (B : Addr) : Prop where
  ga : PySem.W.specialIn K (.ref B) "__getattribute__" = some (some (.builtin "type.__getattribute__"))
  rd : PySem.W.readsIn K B (.type "type") = true
  fc : PySem.W.findCls K (.ref B) (.type "type") "__init__" = some (.val (.builtin "ValueError.__init__"))
/-- Base.__init__(self, ..), Base an own class over ValueError without an own __init__ -/
theorem pe_binit {pl : Sem Bool} (hg : Gl X c) (hm : X.mg c = some (.ref B)) (hq : QBase X.K B) (ha : PA X (e :: es) ta)
    (hdb : (c == ("__debug__" : Str)) = false := by decide)
    (hev : eval (.Call (.Attribute (.Name c p1) "__init__" p2) (e :: es) [] pos) X.env = (do
      let ov ← eval (.Name c p1) X.env
      standAt p2.atName
      let (g, lead) ← holding [ov] (getMethod ov "__init__" pl)
      callWith pos g lead (backTo pos (starEach (e :: es) X.env)) (backToKw pos (keywordEach [] X.env))) := by rfl)
    (hst : starEach (e :: es) X.env = (false, eval e X.env) :: starEach es X.env := by rfl) (hno : (backTo pos (starEach es X.env)).any (·.1) = false := by rfl) :
    PE X (.Call (.Attribute (.Name c p1) "__init__" p2) (e :: es) [] pos) (tVeI X.K ta) := by
  refine ⟨fun pins s σ H Q I hw => ?_⟩
  refine PySem.W.methodCall_KW (ld_glob I hg hm ?_ hdb) hev
  refine PySem.W.method_cls I.kIn hq.ga (PySem.W.cls_value I.kIn hq.rd hq.fc (by decide +kernel) ?_)
  refine PyProof.Rows.callWith_method1 (thn (ha.run pos pins _ σ H _ (I.tok _) hw) fun us s1 hh => ?_) hst hno
  obtain ⟨vs, H1, I1, rr, a, C, ws, ev, hl, T, ea, q⟩ := hh
  subst ev
  cases rr with
  | @cons _ u0 _ ur ra rw' =>
    obtain rfl : u0 = Value.ref a := ra
    refine oinit_ok T I1 ea ?_ fun s' J => ⟨.non, H1, J, rfl, q⟩
    rw [← Paired.length rw', sizeLine_eq]
    omega
/-- the promise of an __init__ that keeps one field, and of one that keeps none -/
def sp1 (C : Addr) (f : Str) : Sp := fun vs H Q _ => ∃ (a : Addr) (y : V), vs = [.ref a, y] ∧ H a = some (exo a C none) ∧ ∀ dx, H dx = none → dx ≠ a → Q .non (upd (upd H dx (exd dx [(f, y)])) a (exo a C (some dx)))
def sp0 (C : Addr) : Sp := fun vs H Q _ => ∃ a : Addr, vs = [.ref a] ∧ H a = some (exo a C none) ∧ Q .non H
end
section
variable {X : Cx} {W : WX} {e : Expr} {g : EV → M D} {x f : Str} {C fI : Addr} {k : Nat} {fd : FuncData} {ps : List Str} {p p2 pos : Pos}
def sRaise (c f : Str) (g : EV → M D) : SM := fun σ s => lft (g σ s) σ fun d s' => .exc c [(f, d)] σ s'
def sRaise0 (c : Str) : SM := fun σ s => .exc c [] σ s
theorem is_raise1 (hcm : X.calm = true) (tk : Takes X W) (T : OexC X.K C) (iC : PySem.W.findIn X.K (.ref C) "__init__" = some (some (.ref fI))) (tI : PySem.W.typeIn X.K (.ref fI) = some (.type "function"))
    (F1 : FnOk X.prog X.w X.K X.mg X.base (L2.CX X.prog X.w) k fI fd ps (sp1 C f)) (hr : Room (k + 1) X.A) (hb : Binds X.K fd ps []) (hg : Gl X x) (hm : X.mg x = some (.ref C)) (he : IE X W e g)
    (hdb : (x == ("__debug__" : Str)) = false := by decide) (hst : starEach (e :: []) X.env = (false, eval e X.env) :: starEach [] X.env := by rfl) :
    IS X W (.Raise (some (.Call (.Name x p) [e] [] p2)) none pos) (sRaise x f g) := by
  refine ⟨ps_mono (ps_raise hcm tk (pmk_oex T iC tI F1 hr hb .nil (passes_call tk fun _ _ _ _ z => z.elim) hg hm (pa_cons he.pe pa_nil hst) hdb hst)) fun E σ H ⟨m, σd, s, hR, hS, hG⟩ => ?_⟩
  refine ⟨m, σd, s, hR, hS, (GoS.lft (rel := RV X.K) hS hG).imp fun y H1 ⟨m1, d, s1, e1, r1, v1, g1⟩ => ?_⟩
  refine ⟨by show 1 ≤ 1000; decide, fun a ha => ⟨a, y, rfl, upd_same, fun dx hdx hne => ⟨rfl, dx, [(f, y)], ?_, ?_, ?_, ?_⟩⟩⟩
  · rw [upd_same]
  · rw [upd_ne hne, upd_same]
  · rw [upd_ne hne] at hdx; exact hdx
  · rw [upd_ne hne] at hdx
    have eH : upd (del (upd (upd (upd H1 a (exo a C none)) dx (exd dx [(f, y)])) a (exo a C (some dx))) a) dx (.xd [(f, y)]) = upd H1 dx (.xd [(f, y)]) := by
      funext b
      by_cases hb : b = dx
      · rw [hb, upd_same, upd_same]
      · rw [upd_ne hb, upd_ne hb]
        by_cases hba : b = a
        · rw [hba, del_same, ha]
        · rw [del_ne hba, upd_ne hba, upd_ne hb, upd_ne hba]
    rw [eH]
    obtain ⟨e2, r2, hh⟩ := r1.newF (o := .xd [(f, y)]) hdx
    refine g1 C (some dx) σ m1 _ e2 r2 ((hS.mono e1.pre e1.same).mono e2.pre e2.same) hm (.inr ⟨dx, [(f, y)], rfl, hh, rfl, .cons (v1.mono e2.pre e2.same) .nil⟩)
/-- C(), C's own __init__ keeping nothing: an exception without a dict -/
theorem pmk_none (T : OexC X.K C) (iC : PySem.W.findIn X.K (.ref C) "__init__" = some (some (.ref fI))) (tI : PySem.W.typeIn X.K (.ref fI) = some (.type "function"))
    (F1 : FnOk X.prog X.w X.K X.mg X.base (L2.CX X.prog X.w) k fI fd ps (sp0 C)) (hr : Room (k + 1) X.A) (hb : Binds X.K fd ps []) (tk : Takes X W) (hg : Gl X x) (hm : X.mg x = some (.ref C)) (hdb : (x == ("__debug__" : Str)) = false := by decide) :
    PMk X (.Call (.Name x p) [] [] p2) (fun σ H Q => Q (.ref C) none H) := by
  intro pins s σ H Q I hw
  obtain ⟨cn, cq, cN, cb, cm, cs, cu, ca, cl, cd, q0, q1, q2, q3, q5, hC, hcm⟩ := T.cls
  refine wpAny_Call_Name_kw (ld_glob I hg hm (PySem.W.callWith_K0 I.kIn T.kC ?_) hdb)
  obtain ⟨hp, gn, dr, tk0, os⟩ := s
  have n1 : hp.get? (hp.objs.size + 1) = none := by
    cases z : hp.get? (hp.objs.size + 1) with
    | none => rfl
    | some o =>
      have := Heap.lt_size z
      exact absurd this (Nat.not_lt.mpr (Nat.le_succ _))
  have hn : H (hp.objs.size + 1) = none := I.hok.fresh (Nat.le_succ _)
  have up : ∀ b o, hp.get? b = some o → ((hp.push (PySem.W.kdv_tup [])).push (PySem.HandSPX.excO C hp.objs.size)).get? b = some o := fun b o z => Heap.get?_push_of_some _ (Heap.get?_push_of_some _ z)
  have at1 : ((hp.push (PySem.W.kdv_tup [])).push (PySem.HandSPX.excO C hp.objs.size)).get? (hp.objs.size + 1) = some (PySem.HandSPX.excO C hp.objs.size) := by heap_get
  have J : Inv X pins σ (upd H (hp.objs.size + 1) (exo (hp.objs.size + 1) C none)) ⟨(hp.push (PySem.W.kdv_tup [])).push (PySem.HandSPX.excO C hp.objs.size), gn, dr, tk0, os⟩ :=
    I.laid (t' := tk0) (a := hp.objs.size + 1) (o := exo (hp.objs.size + 1) C none) (h' := (hp.push (PySem.W.kdv_tup [])).push (PySem.HandSPX.excO C hp.objs.size)) up (Nat.le_succ _) (exo_ok at1)
  have hq : sp0 C [V.ref (hp.objs.size + 1)] (upd H (hp.objs.size + 1) (exo (hp.objs.size + 1) C none)) (fun v H2 => v = .non ∧ H2 = upd H (hp.objs.size + 1) (exo (hp.objs.size + 1) C none)) (fun _ _ _ => False) := ⟨_, rfl, upd_same, rfl, rfl⟩
  have rv : Vals [V.ref (hp.objs.size + 1)] [Value.ref (hp.objs.size + 1)] := .cons rfl .nil
  have hl : ([Value.ref (hp.objs.size + 1)] ++ ([] : List Value)).length = ps.length := F1.len _ _ _ _ hq
  refine wpAny_call (PySem.HandSPX.call_own (rest := []) F.excBase_ValueError (fun Y => PySem.HandSPX.refsVE_contains Y cm hcm) (I.kIn _ _ hC) (PySem.W.looks_findIn I.kIn iC) (fun self => PySem.W.bind_fn I.kIn self tI) (Nat.zero_le _)
    (codeAny_mono (F1.run _ X.stack _ _ ⟨[Value.ref (hp.objs.size + 1)], []⟩ [Value.ref (hp.objs.size + 1)] _ _ (fun _ _ _ => False) (hr.make C [] []) (J.env0.make C [] []) (by have := hb _ [Value.ref (hp.objs.size + 1)] J.kIn hl; rw [List.append_nil] at this; exact this) rv hq) fun r s' hz => ?_))
  cases r with
  | error er => exact passes_call tk (fun _ _ _ _ z => z.elim) pins σ _ _ er s' J hz
  | ok fl =>
    cases fl with
    | next => exact hz.elim
    | brk => exact hz.elim
    | cont => exact hz.elim
    | ret u =>
      obtain ⟨v, H2, hos, hbare, hun, hok2, ru, ev, eH⟩ := hz
      subst ev
      subst eH
      refine ⟨ru, ?_⟩
      obtain ⟨t1, ho⟩ := exo_at hok2 (upd_same (H := H) (a := hp.objs.size + 1) (o := exo (hp.objs.size + 1) C none))
      obtain ⟨G, gsame, gnone⟩ := restrict s'.heap fun b => !(b == hp.objs.size + 1)
      have ga : G.get? (hp.objs.size + 1) = none := gnone _ (by simp)
      have gk : ∀ {b : Addr}, b ≠ hp.objs.size + 1 → G.get? b = s'.heap.get? b := fun {b} hb => gsame b (by simp [hb])
      have ne : ∀ {b : Addr} {oo : Obj}, hp.get? b = some oo → b ≠ hp.objs.size + 1 := fun {b oo} z y => by rw [y, n1] at z; cases z
      have same : ∀ {b : Addr}, b ≠ hp.objs.size + 1 → upd H (hp.objs.size + 1) (exo (hp.objs.size + 1) C none) b = H b := fun hb => upd_ne hb
      have U : Un (frs X.stack) [] H H hp G := by
        refine ⟨fun b oo z nn hf hx => ?_, fun b oo z nn hf hx => ?_, fun _ _ _ nn _ => nn, fun b oo z hx => ?_, fun _ _ z => z, fun _ _ _ z => z, fun b qs z => ⟨#[], by rw [z]; simp⟩⟩
        · rw [gk (ne z)]
          exact hun.keep b oo (up b oo z) ((same (ne z)).trans nn) hf hx
        · rw [gk (ne z)]
          exact hun.slot b oo (up b oo z) ((same (ne z)).trans nn) hf hx
        · rw [gk (ne z)]
          exact hun.there b oo (up b oo z) hx
      have hokG : HOk X.prog X.w H G := fun b oo z => by
        have hb : b ≠ hp.objs.size + 1 := fun y => by rw [y, hn] at z; cases z
        have far : ∀ {q : Addr} {w : HO}, H q = some w → q ≠ hp.objs.size + 1 := fun {q w} hq' y => by rw [y, hn] at hq'; cases hq'
        have own : ∀ {q : Addr} {w : HO}, upd H (hp.objs.size + 1) (exo (hp.objs.size + 1) C none) q = some w → w ≠ exo (hp.objs.size + 1) C none → H q = some w := fun {q w} hq' hw' => by
          by_cases y : q = hp.objs.size + 1
          · rw [y, upd_same] at hq'
            exact absurd (Option.some.inj hq').symm hw'
          · rw [upd_ne y] at hq'
            exact hq'
        refine (hok2 b oo ((same hb).trans z)).stay (fun q u hq' y => ?_) (fun q hq' => own hq' (Ne.symm exo_own)) (fun q xs hq' => own hq' (Ne.symm exo_tup))
        have hqa : q ≠ hp.objs.size + 1 := by
          rcases hq' with rfl | hq'
          · exact hb
          · exact far (own hq' (Ne.symm exo_own))
        rw [gk hqa]
        exact y
      have J3 : Inv X pins σ H { s' with heap := G } := I.call' (ch := []) (s' := { s' with heap := G }) hos U hokG hbare (fun b z => absurd z (by simp))
      refine ⟨_, _, _, { s' with heap := G }, H, .ref C, none, rfl, J3, fun b oo z => ?_, ga, ho, ⟨rfl, rfl⟩, rfl, rfl, hn, rfl, hbare, raises_own T.exC T.tyC, hw⟩
      by_cases y : b = hp.objs.size + 1
      · rw [y, ga] at z; cases z
      · rw [← gk y]; exact z
theorem is_raise0 (hcm : X.calm = true) (tk : Takes X W) (T : OexC X.K C) (iC : PySem.W.findIn X.K (.ref C) "__init__" = some (some (.ref fI))) (tI : PySem.W.typeIn X.K (.ref fI) = some (.type "function"))
    (F1 : FnOk X.prog X.w X.K X.mg X.base (L2.CX X.prog X.w) k fI fd ps (sp0 C)) (hr : Room (k + 1) X.A) (hb : Binds X.K fd ps []) (hg : Gl X x) (hm : X.mg x = some (.ref C))
    (hdb : (x == ("__debug__" : Str)) = false := by decide) : IS X W (.Raise (some (.Call (.Name x p) [] [] p2)) none pos) (sRaise0 x) := by
  refine ⟨ps_mono (ps_raise hcm tk (pmk_none T iC tI F1 hr hb tk hg hm hdb)) fun E σ H ⟨m, σd, s, hR, hS, hG⟩ => ?_⟩
  exact hG C none σ m H (Ext.refl _ _) hR hS hm (.inl ⟨rfl, rfl⟩)
end
/-! ### the bodies of such __init__s -/
section
variable {X : Cx} {C B : Addr} {sf pl f qe : Str} {text : Str} {p1 p2 p3 p4 p5 p6 p7 p8 p9 p10 : Pos} {j : Nat}
theorem xi_body1 {pl0 : Sem Bool} (hN0 : X.N[0]? = some sf) (hN1 : X.N[1]? = some pl) (hv0 : Vis X.env.scope sf) (hv1 : Vis X.env.scope pl) (hg : Gl X qe) (hm : X.mg qe = some (.ref B)) (hq : QBase X.K B) (T : OexC X.K C) (hno : PySem.W.findIn X.K (.ref C) f = some none)
    (d0 : (sf == ("__debug__" : Str)) = false := by decide) (k0 : (sf == ("__classdict__" : Str)) = false := by decide) (d1 : (pl == ("__debug__" : Str)) = false := by decide) (k1 : (pl == ("__classdict__" : Str)) = false := by decide) (dq : (qe == ("__debug__" : Str)) = false := by decide)
    (hev : eval (.Call (.Attribute (.Name qe p1) "__init__" p2) [.Name sf p3, .Constant (.str text) j p4] [] p5) X.env = (do
      let ov ← eval (.Name qe p1) X.env
      standAt p2.atName
      let (g, lead) ← holding [ov] (getMethod ov "__init__" pl0)
      callWith p5 g lead (backTo p5 (starEach [.Name sf p3, .Constant (.str text) j p4] X.env)) (backToKw p5 (keywordEach [] X.env))) := by rfl)
    (hs1 : swapsWith (.Call (.Attribute (.Name qe p1) "__init__" p2) [.Name sf p3, .Constant (.str text) j p4] [] p5) none p6.line X.env = pure false := by rfl)
    (hs2 : swapsWith (.Name pl p9) (some (.Attribute (.Name sf p7) f p8)) p10.line X.env = pure false := by rfl) :
    PSs X [.Expr (.Call (.Attribute (.Name qe p1) "__init__" p2) [.Name sf p3, .Constant (.str text) j p4] [] p5) p6, .Assign [.Attribute (.Name sf p7) f p8] (.Name pl p9) p10]
      (fun E σ H => ∃ (a : Addr) (y : V), σ[0]? = some (some (.ref a)) ∧ σ[1]? = some (some y) ∧ H a = some (exo a C none) ∧ ∀ dx, H dx = none → dx ≠ a → E.nx σ (upd (upd H dx (exd dx [(f, y)])) a (exo a C (some dx)))) := by
  refine pss_mono (pss_cons (ps_expr (pe_binit hg hm hq (pa_cons (pe_var hN0 hv0 d0 k0) (pa_cons pe_str pa_nil)) dq hev) hs1) (pss_one (ps_ost (pe_var hN0 hv0 d0 k0) (pe_var hN1 hv1 d1 k1) hs2))) fun E σ H ⟨a, y, h0, h1, ha, hd⟩ => ?_
  exact ⟨_, h0, a, C, [.str text], rfl, by show 1 ≤ 1000; decide, T, ha, y, h1, _, h0, a, C, rfl, T, hno, .inl ⟨ha, fun dx n ne => hd dx n ne⟩⟩
theorem xi_body0 {pl0 : Sem Bool} (hN0 : X.N[0]? = some sf) (hv0 : Vis X.env.scope sf) (hg : Gl X qe) (hm : X.mg qe = some (.ref B)) (hq : QBase X.K B) (T : OexC X.K C)
    (d0 : (sf == ("__debug__" : Str)) = false := by decide) (k0 : (sf == ("__classdict__" : Str)) = false := by decide) (dq : (qe == ("__debug__" : Str)) = false := by decide)
    (hev : eval (.Call (.Attribute (.Name qe p1) "__init__" p2) [.Name sf p3, .Constant (.str text) j p4] [] p5) X.env = (do
      let ov ← eval (.Name qe p1) X.env
      standAt p2.atName
      let (g, lead) ← holding [ov] (getMethod ov "__init__" pl0)
      callWith p5 g lead (backTo p5 (starEach [.Name sf p3, .Constant (.str text) j p4] X.env)) (backToKw p5 (keywordEach [] X.env))) := by rfl)
    (hs1 : swapsWith (.Call (.Attribute (.Name qe p1) "__init__" p2) [.Name sf p3, .Constant (.str text) j p4] [] p5) none p6.line X.env = pure false := by rfl) :
    PSs X [.Expr (.Call (.Attribute (.Name qe p1) "__init__" p2) [.Name sf p3, .Constant (.str text) j p4] [] p5) p6] (fun E σ H => ∃ a : Addr, σ[0]? = some (some (.ref a)) ∧ H a = some (exo a C none) ∧ E.nx σ H) := by
  refine pss_mono (pss_one (ps_expr (pe_binit hg hm hq (pa_cons (pe_var hN0 hv0 d0 k0) (pa_cons pe_str pa_nil)) dq hev) hs1)) fun E σ H ⟨a, h0, ha, hd⟩ => ?_
  exact ⟨_, h0, a, C, [.str text], rfl, by show 1 ≤ 1000; decide, T, ha, hd⟩
end
section
variable {P : Program} {w : World} {K : PySem.W.Frag} {mg : Str → Option Value} {base : Heap} {x qual : Str} {st : Stmt} {f : Addr} {fd : FuncData} {C : Addr} {fld : Str} {n0 n1 : Str}
theorem xi_fn1 (F : Fn K x qual st f fd) (S : FnScope [n0, n1] [n0, n1] (defScope st))
    (hB : ∀ (cdv : Value) (A : Around) (outer : List Env) (s : Shared) (H : Hp) (E : XK), PSs (cxOf (L2.CX P w) P w K mg base [n0, n1] qual (defScope st) f cdv A outer s H E) (defBody st)
      (fun E σ H => ∃ (a : Addr) (y : V), σ[0]? = some (some (.ref a)) ∧ σ[1]? = some (some y) ∧ H a = some (exo a C none) ∧ ∀ dx, H dx = none → dx ≠ a → E.nx σ (upd (upd H dx (exd dx [(fld, y)])) a (exo a C (some dx))))) :
    FnOk P w K mg base (L2.CX P w) 1 f fd [n0, n1] (sp1 C fld) := by
  obtain ⟨oc, od, dV, kV, doc, pm, an, cdv, ct, osl, rfl, lk, hcd⟩ := F.at'
  refine fn_of lk hcd S (fun vs H Q E ⟨a, y, ev, _⟩ => by rw [ev]; rfl) fun A outer s H vs Q E hr ⟨a, y, ev, ha, hq⟩ => ⟨_, hB cdv A outer s H E, ?_⟩
  subst ev
  exact ⟨a, y, rfl, rfl, ha, hq⟩
theorem xi_fn0 (F : Fn K x qual st f fd) (S : FnScope [n0] [n0] (defScope st))
    (hB : ∀ (cdv : Value) (A : Around) (outer : List Env) (s : Shared) (H : Hp) (E : XK), PSs (cxOf (L2.CX P w) P w K mg base [n0] qual (defScope st) f cdv A outer s H E) (defBody st)
      (fun E σ H => ∃ a : Addr, σ[0]? = some (some (.ref a)) ∧ H a = some (exo a C none) ∧ E.nx σ H)) :
    FnOk P w K mg base (L2.CX P w) 1 f fd [n0] (sp0 C) := by
  obtain ⟨oc, od, dV, kV, doc, pm, an, cdv, ct, osl, rfl, lk, hcd⟩ := F.at'
  refine fn_of lk hcd S (fun vs H Q E ⟨a, ev, _⟩ => by rw [ev]; rfl) fun A outer s H vs Q E hr ⟨a, ev, ha, hq⟩ => ⟨_, hB cdv A outer s H E, ?_⟩
  subst ev
  exact ⟨a, rfl, ha, hq⟩
end
/-! ### try .. except X: -/
abbrev XTab := List (Str × Bool)
def XTabOk (X : Cx) (cv : Value) (tab : XTab) : Prop := ∀ c b, tab.lookup c = some b → ∃ C, X.mg c = some (.ref C) ∧ PySem.W.exmOne X.K (.ref C) cv = some b
def noxS (r : SRes) : SRes := match r with | .exc _ _ _ _ => .bad | r => r
def sTry (tab : XTab) (F G : SM) : SM := fun σ s => match F σ s with
  | .exc c fs σ' s' => (match tab.lookup c with | some true => noxS (G σ' s') | some false => .exc c fs σ' s' | none => .bad)
  | r => r
section
variable {X : Cx} {W : WX} {x : Str} {cv : Value} {body suite : List Stmt} {b0 : Stmt} {np pos pos' : Pos} {F G : SM} {tab : XTab}
theorem GoS.noxS {K : PySem.W.Frag} {mg : Str → Option Value} {m : MM} {H : Hp} {r : SRes} {E : Ends} (h : GoS W K mg m H (RQ.noxS r) E) : GoS W0 K mg m H r E := by
  cases r with
  | go fl σd s => exact h
  | exc c fs σd s => exact h.elim
  | bad => exact h
theorem xtab0 : XTabOk X cv [] := fun c b h => by simp at h
theorem xtabC {c : Str} {C : Addr} {b : Bool} (hm : X.mg c = some (.ref C)) (he : PySem.W.exmOne X.K (.ref C) cv = some b) (r : XTabOk X cv tab) : XTabOk X cv ((c, b) :: tab) := fun c' b' h => by
  rw [List.lookup_cons] at h
  split at h
  · rename_i e
    cases h
    have e' := eq_of_beq e
    subst e'
    exact ⟨C, hm, he⟩
  · exact r c' b' h
theorem is_tryO (hs : X.stack = X.env :: X.outer) (hf : X.env.frame = some X.env.locals) (hc : Names X x cv) (tk : Takes X W) (ht : XTabOk X cv tab)
    (hb : ∀ (W' : WX) (pn : List (Addr × Obj)) (xe : Value → Shared → Prop), Takes (X.tr pn xe) W' → PassesOwn (model X.prog X.w) X.A X.env xe → ISs (X.tr pn xe) W' body F)
    (hsu : ∀ (a : Addr) (oe : Obj) (cls : Value) (d : Option Addr) (pn : List (Addr × Obj)), Zc cls d oe → (∃ vs, oe.data = .fields vs) → ISs (X.suite a ((a, oe) :: pn)) W0 (b0 :: suite) G) :
    IS X W (.Try body [.ExceptHandler (some (.Name x np)) none (b0 :: suite) pos'] [] [] pos) (sTry tab F G) := by
  refine ⟨ps_mono (ps_try_only (tb := fun W' => rS X W' F) (ts := fun _ _ _ => rS X W0 G) hs hf hc tk (fun W' pn xe t1 t2 => (hb W' pn xe t1 t2).ps) (fun a oe cls d pn z1 z2 => (hsu a oe cls d pn z1 z2).ps)) fun E σ H ⟨m, σd, s, hR, hS, hG⟩ => ?_⟩
  refine ⟨m, σd, s, hR, hS, ?_⟩
  unfold sTry at hG
  cases q : F σd s with
  | go fl σ' s' => rw [q] at hG; exact hG
  | bad => rw [q] at hG; exact hG.elim
  | exc c fs σ' s' =>
    rw [q] at hG
    simp only at hG
    intro C d σ2 m' H' e' r' q' hm hx
    cases hl : tab.lookup c with
    | none => rw [hl] at hG; exact hG.elim
    | some b =>
      rw [hl] at hG
      obtain ⟨C', hm', he⟩ := ht c b hl
      rw [hm] at hm'
      cases hm'
      refine ⟨b, he, fun hb1 a ha => ?_, fun hb1 => ?_⟩
      · subst hb1
        exact ⟨m', σ', s', r', q', (GoS.noxS hG).ext e'⟩
      · subst hb1
        exact hG C d σ2 m' H' e' r' q' hm hx
end
end RQ

namespace RQ
open PySem PySem.Spec PyProof.Rows L2
section
variable {X : Cx} {W : WX}
/-! ### tuples: +, slices -/
def dAddT (x y : D) : M D := fun s => match x, y with
  | .tup a, .tup b => if a.length + b.length ≤ lim then .ok (.tup (a ++ b)) s else .bad
  | x, y => dAdd x y s
theorem oi_addT : OpI X (binaryOp .Add) dAddT := by
  refine op_mono (OpR.or op_catA (oi_add (X := X))) fun v u H Q ⟨m, x, y, s, hR, hx, hy, hg⟩ => ?_
  unfold dAddT at hg
  split at hg
  · rename_i a b
    split at hg
    · rename_i h
      obtain ⟨p, vs, rfl, h1, r1⟩ := tup_at hx
      obtain ⟨q, us, rfl, h2, r2⟩ := tup_at hy
      refine .inl ⟨p, q, vs, us, rfl, rfl, h1, h2, by rw [r1.length, r2.length]; exact lim_le h, fun e => ?_, fun e e2 => ?_, fun _ _ l hl => Go.newT hR (r1.append r2) hl hg⟩
      · subst e
        have ea : a = [] := by cases r1; rfl
        subst ea
        exact hg.ok hR hy
      · subst e2
        have eb : b = [] := by cases r2; rfl
        subst eb
        rw [List.append_nil] at hg
        exact hg.ok hR hx
    · exact hg.elim
  · exact .inr ⟨m, x, y, s, hR, hx, hy, hg⟩
def dSlT (x : D) (lo hi : Option Int) : M D := fun s => match x with
  | .tup xs => .ok (.tup (cutD xs lo hi)) s
  | x => dSl x lo hi s
theorem cutD_whole {xs : List D} {lo hi : Option Int} (h : HT.sIx xs.length 0 lo = 0 ∧ HT.sIx xs.length xs.length hi = xs.length) : cutD xs lo hi = xs := by
  unfold cutD
  rw [h.1, h.2]
  simp
theorem si_slT : SlI X dSlT := by
  refine sl_mono (SlR.or sl_tupA (si_sl (X := X))) fun v lo hi H Q ⟨m, x, s, hR, hx, hg⟩ => ?_
  unfold dSlT at hg
  split at hg
  · rename_i xs
    obtain ⟨a, vs, rfl, h1, h2⟩ := tup_at hx
    refine .inl ⟨a, vs, rfl, h1, fun h => ?_, fun h p hp => Go.newT hR (h2.cut lo hi) hp hg⟩
    rw [h2.length] at h
    rw [cutD_whole h] at hg
    exact hg.ok hR hx
  · exact .inr ⟨m, x, s, hR, hx, hg⟩
/-! ### in, for data of any depth -/
def isInD (s : Sto) (x y : D) : Option Bool := match isIn s x y with
  | some b => some b
  | none => match dat s x, asLL s y, dat s y with
    | some p, some _, some (.list qs) => if p.canLay0 = true ∧ (PyData.list qs).canLay0 = true then some (qs.any fun z => PyData.eqv z p) else none
    | _, _, _ => none
def dInD (x y : D) : M D := fun s => match isInD s x y with | some b => .ok (.bl b) s | none => .bad
def dNotInD (x y : D) : M D := fun s => match isInD s x y with | some b => .ok (.bl (!b)) s | none => .bad
theorem insD {K : PySem.W.Frag} {mg : Str → Option Value} {m : MM} {s : Sto} {H : Hp} {x y : D} {v u : V} {b : Bool} (hR : R K mg m s H) (hx : RV K m (hid m H) x v) (hy : RV K m (hid m H) y u) (h : isInD s x y = some b) :
    isIn s x y = some b ∨ ∃ d ds, Dp K H v d ∧ Dp K H u (.list ds) ∧ SeqAt.shaped d = true ∧ SeqAt.shaped (.list ds) = true ∧ b = (ds.any fun z => PyData.eqv z d) := by
  unfold isInD at h
  split at h
  · rename_i b' e
    cases h
    exact .inl e
  · split at h
    · rename_i p _ qs e1 _ e2
      split at h
      · rename_i hc
        cases h
        obtain ⟨h1, h2⟩ := dp_of hR 12 x v p hx e1
        obtain ⟨h3, h4⟩ := dp_of hR 12 y u _ hy e2
        refine .inr ⟨p, qs, h1, h3, ?_, ?_, rfl⟩
        · unfold SeqAt.shaped; rw [hc.1, Bool.true_and]; exact decide_eq_true (by omega)
        · unfold SeqAt.shaped; rw [hc.2, Bool.true_and]; exact decide_eq_true (by omega)
      · cases h
    · cases h
theorem oi_inD (hu : X.A.units + 65 < cLine) : OpI X (compareOp .In) dInD := by
  refine op_mono (OpR.or (oi_in (X := X)) (op_inD hu)) fun v u H Q ⟨m, x, y, s, hR, hx, hy, hg⟩ => ?_
  unfold dInD at hg
  split at hg
  · rename_i b e
    rcases insD hR hx hy e with h | ⟨d, ds, h1, h2, h3, h4, rfl⟩
    · exact .inl ⟨m, x, y, s, hR, hx, hy, by unfold dIn; rw [h]; exact hg⟩
    · exact .inr ⟨d, ds, h1, h2, h3, h4, hg.ok hR (.bl _)⟩
  · exact hg.elim
theorem oi_notInD (hu : X.A.units + 65 < cLine) : OpI X (compareOp .NotIn) dNotInD := by
  refine op_mono (OpR.or (oi_notIn (X := X)) (op_notInD hu)) fun v u H Q ⟨m, x, y, s, hR, hx, hy, hg⟩ => ?_
  unfold dNotInD at hg
  split at hg
  · rename_i b e
    rcases insD hR hx hy e with h | ⟨d, ds, h1, h2, h3, h4, rfl⟩
    · exact .inl ⟨m, x, y, s, hR, hx, hy, by unfold dNotIn; rw [h]; exact hg⟩
    · exact .inr ⟨d, ds, h1, h2, h3, h4, hg.ok hR (.bl _)⟩
  · exact hg.elim
theorem units65 {k : Nat} {A : Around} (r : Room k A) : A.units + 65 < cLine := by have := r.un; omega
/-! ### list.count of texts -/
def mCount (x : D) (xs : List D) : M D := fun s => match xs, asLL s x with
  | [.str a], some ys => (match allM unS ys with | some zs => .ok (.int (zs.count a : Nat)) s | none => .bad)
  | _, _ => .bad
theorem dpAll_strs {K : PySem.W.Frag} {H : Hp} : ∀ zs : List Str, DpAll K H (zs.map V.str) (zs.map PyData.str)
  | [] => .nil
  | z :: zs => .cons (.str z) (dpAll_strs zs)
theorem plain_strs : ∀ zs : List Str, PyData.plainAll (zs.map PyData.str) = true
  | [] => rfl
  | z :: zs => by
    rw [List.map_cons]
    show (PyData.plain (.str z) && PyData.plainAll (zs.map PyData.str)) = true
    rw [plain_strs zs]; rfl
theorem depth_strs : ∀ zs : List Str, PyData.depthAll (zs.map PyData.str) = 0
  | [] => rfl
  | z :: zs => by
    rw [List.map_cons]
    show max (PyData.depth (.str z)) (PyData.depthAll (zs.map PyData.str)) = 0
    rw [depth_strs zs]; rfl
theorem count_strs (a : Str) : ∀ zs : List Str, (zs.map PyData.str).countP (fun y => PyData.eqv y (.str a)) = zs.count a
  | [] => rfl
  | z :: zs => by
    rw [List.map_cons, List.countP_cons, count_strs a zs, List.count_cons]
    rfl
theorem mt_countS (hu : X.A.units + 65 < cLine) : MtR X "list.count" (fun x xs H Q => ∃ (p : Addr) (zs : List Str) (a : Str), x = .ref p ∧ xs = [.str a] ∧ SqL X.K H p (zs.map V.str) ∧ Q (.int (zs.count a : Nat)) H) := by
  intro pins s σ H x xs v us Q I rx rxs h
  obtain ⟨p, zs, a, rfl, rfl, hs, q⟩ := h
  cases rx
  obtain ⟨u, rfl, ru⟩ := rxs.one
  obtain ⟨t, rfl⟩ := ru
  obtain ⟨its, rv, pl, hlen⟩ := I.list hs
  obtain ⟨as, h4⟩ := Dp.readsAll I (zs.map PyData.str) _ its (dpAll_strs zs) rv
  refine PySem.SeqAt.count_list_data (xs := zs.map PyData.str) (d := .str a) pl.isList h4 (Reads.str a t) (plain_strs zs) rfl (by rw [depth_strs]; show X.A.units + 1 + min 0 _ < _; omega) ?_
  refine ⟨.int (zs.count a : Nat), H, I.tok _, ⟨s.toks, ?_⟩, q⟩
  rw [count_strs]
theorem mi_count (hu : X.A.units + 65 < cLine) : MtI X "list.count" mCount := by
  refine mt_mono (mt_countS hu) fun v vs H Q ⟨m, x, xs, s, hR, hx, hxs, hg⟩ => ?_
  unfold mCount at hg
  split at hg
  · rename_i a ys e
    split at hg
    · rename_i zs e2
      obtain ⟨u, rfl, q⟩ := rv1 hxs
      cases q
      obtain ⟨p, ws, rfl, h1, h2⟩ := asLL_at hR hx e
      have e3 := h2.strs (allM_str e2)
      subst e3
      exact ⟨p, zs, a, rfl, rfl, h1, hg.ok hR (.int _)⟩
    · exact hg.elim
  · exact hg.elim
/-! ### list.insert, list.extend -/
def mInsert (x : D) (xs : List D) : M D := fun s => match xs, lstAt s x with
  | [.int i, y], some (n, ys) => if ys.length < lim ∧ 0 ≤ i ∧ i < 2 ^ 62 then .ok .non (s.set n (.lst (ys.take i.toNat ++ [y] ++ ys.drop i.toNat))) else .bad
  | _, _ => .bad
theorem mi_insert : MtI X "list.insert" mInsert := by
  refine mt_mono mt_insert fun v vs H Q ⟨m, x, xs, s, hR, hx, hxs, hg⟩ => ?_
  unfold mInsert at hg
  split at hg
  · rename_i i y n ys e
    split at hg
    · rename_i hl
      cases hxs with
      | cons q1 q2 =>
        obtain ⟨u, rfl, q⟩ := rv1 q2
        cases q1
        obtain ⟨a, ws, rfl, h1, h2, h3⟩ := lstAt_at hR hx e
        exact ⟨a, ws, i, u, rfl, rfl, h2, by rw [h3.length]; exact Nat.lt_of_lt_of_le hl.1 (lim_le (Nat.le_refl _)), hl.2.1, by have := hl.2.2; omega, Go.putL hR h1 (((h3.take _).append (.cons q .nil)).append (h3.drop _)) (fun _ _ _ _ => .non) hg⟩
    · exact hg.elim
  · exact hg.elim
end
end RQ

namespace RQ
open PySem PySem.Spec PyProof.Rows L2 PySem.AutoSeq1
theorem ext_tup (l : Addr) (items : Array Value) (n : Nat) (b : Addr) (items2 : Array Value) (n2 : Nat) (dd : Option Addr) (sl : Array (Option Value)) (hs0 : ¬(!items.isEmpty && Builtin.List.listTooLong (items.size + items2.size)) = true) (hs1 : items.size ≤ sizeLine) (hs2 : items.size + items2.size ≤ sizeLine + 1) :
    Meets (Builtin.«list.extend» ⟨[.ref l, .ref b], []⟩) (fun _ R s => s.heap.get? l = some { cls := .type "list", dict := none, data := .seq items n, slots := #[] } ∧ s.heap.get? b = some { cls := .type "tuple", dict := dd, data := .seq items2 n2, slots := sl } ∧ R (.ok (.ret Value.none)) { s with heap := s.heap.update l (Obj.mapSeq fun x => x ++ items2), toks := s.toks }) :=
  .of_wp fun prog w A R s h => by
    obtain ⟨hp, g, d, tk, os⟩ := s
    obtain ⟨hl, hb, h⟩ := h
    have g1 := AutoSeq1.idx_int; have g2 := AutoSeq1.sub_tuple_tuple; have g3 := AutoSeq1.sub_list_list; have g4 := AutoSeq1.sub_tuple_list; have g5 := AutoSeq1.sub_list_tuple
    have hz : (items ++ items2).size ≤ sizeLine + 1 := by rw [Array.size_append]; exact hs2
    wp_walk using (wpAny_updateSeq hl rfl (hz := hs1) (_hz' := hz)), wpAny_loadPart' hl, wpAny_loadPart' hb
    exact ⟨_, rfl, h⟩
section
variable {X : Cx} {W : WX}
theorem mt_extT : MtR X "list.extend" (fun x vs H Q => ∃ l b xs zs, x = .ref l ∧ vs = [.ref b] ∧ H l = some (.lst xs) ∧ SqT X.K H b zs ∧ xs.length + zs.length ≤ sizeLine ∧ Q .non (upd H l (.lst (xs ++ zs)))) := by
  intro pins s σ H x vs v us Q I rx rv h
  obtain ⟨l, b, xs, zs, rfl, rfl, hH, hB, hz, q⟩ := h
  cases rx
  obtain ⟨u, rfl, ru⟩ := rv.one
  cases ru
  obtain ⟨z, its, n, r, hl, e⟩ := I.lstM hH
  obtain ⟨its2, r2, ⟨⟨cls, dd, data, sl⟩, ho, hc, n2, hd⟩, hl2⟩ := I.tuple hB
  simp only at hc hd
  subst hc hd
  have k1 := r.length
  have k2 := r2.length
  have hsz : its.toArray.size + its2.toArray.size ≤ sizeLine := by rw [List.size_toArray, List.size_toArray]; omega
  have hlong : ¬ (!its.toArray.isEmpty && Builtin.List.listTooLong (its.toArray.size + its2.toArray.size)) = true := by
    rw [notLongL hsz, Bool.and_false]
    exact Bool.false_ne_true
  refine call_meets F.slot_list_extend ⟨_, e, rfl⟩ F.entry_list_extend (F.args_list_extend_2 _ _)
    (ext_tup l its.toArray n b its2.toArray n2 dd sl hlong (by rw [List.size_toArray]; omega) (by omega)) ⟨e, ho, ?_⟩
  refine ⟨.non, _, I.lset (its' := its ++ its2) hH e (by simp) (r.append r2) ?_, rfl, q⟩
  rw [List.length_append]
  omega
def mExtend (x : D) (xs : List D) : M D := fun s => match xs, lstAt s x with
  | [.tup zs], some (n, ys) => if ys.length + zs.length ≤ lim then .ok .non (s.set n (.lst (ys ++ zs))) else .bad
  | [y], some (n, ys) => (match asL s y with
    | some zs => if ys.length + zs.length ≤ lim then .ok .non (s.set n (.lst (ys ++ zs))) else .bad
    | none => .bad)
  | _, _ => .bad
theorem MtR.or {id : String} {r r' : V → List V → Hp → VK → Prop} (h : MtR X id r) (h' : MtR X id r') : MtR X id (fun x xs H Q => r x xs H Q ∨ r' x xs H Q) :=
  fun pins s σ H x xs v us Q I rx rs q => q.elim (h pins s σ H x xs v us Q I rx rs) (h' pins s σ H x xs v us Q I rx rs)
theorem mi_extend : MtI X "list.extend" mExtend := by
  refine mt_mono (MtR.or mt_extT (show MtR X "list.extend" rExtend from mt_extend)) fun v vs H Q ⟨m, x, xs, s, hR, hx, hxs, hg⟩ => ?_
  unfold mExtend at hg
  split at hg
  · rename_i zs n ys e
    split at hg
    · rename_i hl
      obtain ⟨u, rfl, q⟩ := rv1 hxs
      obtain ⟨a, ws, rfl, h1, h2, h3⟩ := lstAt_at hR hx e
      obtain ⟨b, us, rfl, k1, k2⟩ := tup_at q
      exact .inl ⟨a, b, ws, us, rfl, rfl, h2, k1, by rw [h3.length, k2.length]; exact lim_le hl, Go.putL hR h1 (h3.append k2) (fun _ _ _ _ => .non) hg⟩
    · exact hg.elim
  · rename_i y n ys _ e
    split at hg
    · rename_i zs e2
      split at hg
      · rename_i hl
        obtain ⟨u, rfl, q⟩ := rv1 hxs
        obtain ⟨a, ws, rfl, h1, h2, h3⟩ := lstAt_at hR hx e
        obtain ⟨b, us, rfl, k1, k2⟩ := asL_at hR q e2
        exact .inr ⟨a, b, ws, us, rfl, rfl, h2, k1, by rw [h3.length, k2.length]; exact lim_le hl, Go.putL hR h1 (h3.append k2) (fun _ _ _ _ => .non) hg⟩
      · exact hg.elim
    · exact hg.elim
  · exact hg.elim
end
end RQ

namespace RQ
open PySem PySem.Spec PyProof.Rows L2 HT
section
variable {prog : Program} {w : World} {A : Around} {E : Value → Shared → Prop} {s : Shared}
theorem adj_rev (n : Nat) : Builtin.Slice.sliceAdjust none none (-1) (n : Int) = ((n : Int) - 1, -1) := by
  unfold Builtin.Slice.sliceAdjust
  simp
theorem plc_rev (n : Nat) : Builtin.Slice.slicePlaces ((n : Int) - 1) (-1) (-1) = n := by
  unfold Builtin.Slice.slicePlaces
  have h1 : ¬ ((-1 : Int) > 0) := by decide
  rw [if_neg h1]
  by_cases h : (n : Int) - 1 > -1
  · rw [if_pos h]
    have e : ((n : Int) - 1 - -1 - 1) / (- -1) = (n : Int) - 1 := by
      have : (- -1 : Int) = 1 := by decide
      rw [this, Int.ediv_one]; omega
    rw [e]; omega
  · rw [if_neg h]; omega
theorem applied_rev {sl : Addr} {vl vu vs : Value} {n : Nat} {Q : Int × Int × Nat → Shared → Prop} (hs : s.heap.IsSliceOf sl vl vu vs) (pl : IsPart vl none) (pu : IsPart vu none) (ps : IsPart vs (some (-1)))
    (h : Q ((n : Int) - 1, -1, n) s) : wpAny (model prog w) A (Builtin.Slice.sliceApplied (.ref sl) (pure (n : Int))) Q E s := by
  obtain ⟨os, hos, hcs, hds⟩ := id hs
  unfold Builtin.Slice.sliceApplied Builtin.Slice.sliceFields
  refine wpAny_bind (wpAny_bind (wpAny_field hos hds (x := vl) rfl (wpAny_bind (wpAny_field hos hds (x := vu) rfl (wpAny_bind (wpAny_field hos hds (x := vs) rfl (wpAny_pure ?_)))))))
  refine wpAny_bind (slicePart_ ps ?_)
  show wpAny _ _ (if ((-1 : Int) == 0) = true then _ else _) _ _ s
  rw [if_neg (by decide)]
  refine wpAny_bind (slicePart_ pl (wpAny_bind (slicePart_ pu (wpAny_bind (wpAny_pure ?_)))))
  show wpAny _ _ (match Builtin.Slice.sliceAdjust none none (-1) (n : Int) with | (lo, hi) => pure (lo, (-1 : Int), Builtin.Slice.slicePlaces lo hi (-1))) _ _ s
  rw [adj_rev]
  show wpAny _ _ (pure ((n : Int) - 1, (-1 : Int), Builtin.Slice.slicePlaces ((n : Int) - 1) (-1) (-1))) _ _ s
  rw [plc_rev]
  exact wpAny_pure h
theorem fm_map {α β : Type} {f : α → Option β} {g : α → β} : ∀ {l : List α}, (∀ m ∈ l, f m = some (g m)) → l.filterMap f = l.map g
  | [], _ => rfl
  | a :: l, h => by
    rw [List.filterMap_cons_some (h a (List.mem_cons_self ..)), List.map_cons, fm_map (l := l) fun m hm => h m (List.mem_cons_of_mem _ hm)]
theorem pick_rev (xs : Array Value) : ((List.range xs.size).filterMap fun (m : Nat) => xs[(((xs.size : Int) - 1) + (m : Int) * -1).toNat]?).toArray = xs.toList.reverse.toArray := by
  congr 1
  apply List.ext_getElem?
  intro i
  have e : (List.range xs.size).filterMap (fun (m : Nat) => xs[(((xs.size : Int) - 1) + (m : Int) * -1).toNat]?) = (List.range xs.size).map (fun m => xs[xs.size - 1 - m]?.getD .none) := by
    refine fm_map fun m hm => ?_
    have hm' := List.mem_range.mp hm
    have e2 : (((xs.size : Int) - 1) + (m : Int) * -1).toNat = xs.size - 1 - m := by omega
    have e3 : xs.size - 1 - m < xs.size := by omega
    rw [e2, Array.getElem?_eq_getElem e3]; rfl
  rw [e, List.getElem?_map]
  by_cases h : i < xs.size
  · rw [List.getElem?_range h, List.getElem?_reverse (by simpa using h)]
    have e3 : xs.size - 1 - i < xs.size := by omega
    simp [Array.getElem?_eq_getElem e3]
  · rw [List.getElem?_eq_none (by simpa using h), List.getElem?_eq_none (by simpa using h)]; rfl
theorem item_tup_rev {t sl : Addr} {items : Array Value} {vl vu vs : Value} {Q : Value → Shared → Prop} (ht : IsTup s.heap t items) (hs : s.heap.IsSliceOf sl vl vu vs) (pl : IsPart vl none) (pu : IsPart vu none) (ps : IsPart vs (some (-1)))
    (h : Q (.ref s.heap.objs.size) { s with heap := s.heap.push { cls := .type "tuple", data := .seq items.toList.reverse.toArray } }) (hsz : items.size ≤ sizeLine) : wpAny (model prog w) A (getItem (.ref t) (.ref sl)) Q E s := by
  have htake : sizeOk (.seq items.toList.reverse.toArray) := by
    show items.toList.reverse.toArray.size ≤ sizeLine
    simpa using hsz
  obtain ⟨os, hos, hcs, hds⟩ := id hs
  have hTs : s.TypeIs (.ref sl) "slice" := ⟨os, hos, hcs⟩
  unfold getItem
  try with_reducible refine wpAny_holding ?_
  first | refine wpAny_bind (wpAny_pure ?_) | skip
  refine wpAny_bind (wpAny_sequenceKey ht.typeIs (by decide) ?_)
  refine wpAny_bind (wpAny_callSpecial?_slot (name := Str.ofString "__getitem__") ht.typeIs PyProof.Rows.slot_tuple_getitem
    (wpAny_call_entry PyProof.Rows.slot_tuple_getitem ht.typeIs entry_tuple_getitem ?_ (args_tuple_getitem _ _)))
  show wpAny _ _ (Builtin.Tuple.tupleItemsOf (.ref t) >>= _) _ _ s
  refine wpAny_bind (tupleItemsOf_ ht ?_)
  refine wpAny_bind (wpAny_typeOf hTs ?_)
  rw [if_pos (by decide)]
  refine wpAny_bind (applied_rev hs pl pu ps ?_)
  have hno : ¬ (((((items.size : Int) - 1)) == 0 && (-1 : Int) == 1 && items.size == items.size) = true) := by
    intro q
    rw [Bool.and_eq_true, Bool.and_eq_true] at q
    exact absurd q.1.2 (by decide)
  show wpAny _ _ (if ((((items.size : Int) - 1)) == 0 && (-1 : Int) == 1 && items.size == items.size) = true then _ else _) _ _ s
  rw [if_neg hno, pick_rev]
  first
    | exact wpAny_bind (m := Builtin.Tuple.tupleExact _) (wpAny_newObj_type (wpAny_pure ⟨_, rfl, wpAny_pure h⟩) htake)
    | exact wpAny_bind (m := Builtin.Tuple.tupleExact _) (wpAny_newObj_type (wpAny_bind (wpAny_pure (wpAny_pure ⟨_, rfl, wpAny_pure h⟩))) htake)
    | exact wpAny_bind (wpAny_bind (m := Builtin.Tuple.tupleExact _) (wpAny_newObj_type (wpAny_pure (wpAny_pure ⟨_, rfl, wpAny_pure h⟩)) htake))
    | exact wpAny_bind (wpAny_bind (m := Builtin.Tuple.tupleExact _) (wpAny_newObj_type (wpAny_pure ⟨_, rfl, wpAny_pure h⟩) htake))
end
section
variable {X : Cx} {W : WX}
/-- t[::-1], a list or a tuple -/
def tRevA (K : PySem.W.Frag) (te : TE) : TE := fun σ H Q => te σ H fun x H1 => ∃ a xs, x = .ref a ∧ ((SqL K H1 a xs ∧ ∀ p, H1 p = none → Q (.ref p) (upd H1 p (.lst xs.reverse))) ∨ (SqT K H1 a xs ∧ ∀ p, H1 p = none → Q (.ref p) (upd H1 p (.tup xs.reverse))))
theorem pe_revA {e : Expr} {te : TE} {k : Nat} {p1 p2 p3 pos : Pos} (he : PE X e te) : PE X (.Subscript e (.Slice none none (some (.UnaryOp .USub (.Constant (.int 1) k p1) p2)) p3) pos) (tRevA X.K te) := by
  refine ⟨fun pins s σ H Q I h => ?_⟩
  refine Subscript_ (thn (he.run pins s σ H _ I h) fun v s1 ⟨x, H1, I1, r1, q1⟩ => ?_)
  obtain ⟨a, xs, ex, hx⟩ := q1
  subst ex
  cases r1
  have hst : PO X (some (.UnaryOp .USub (.Constant (.int 1) k p1) p2)) (tPart (tUn (rU fun i => .int (-i)) (tC (.int 1)))) := po_some (pe_un un_neg pe_int)
  refine wpAny_Slice (thn (po_none.run pins s1 σ H1 (fun o H2 => o = none ∧ H2 = H1) I1 ⟨rfl, rfl⟩) fun vl s2 ⟨l, H2, I2, pl, el, e2⟩ => ?_)
  subst el e2
  refine thn (po_none.run pins s2 σ H2 (fun o H3 => o = none ∧ H3 = H2) I2 ⟨rfl, rfl⟩) fun vu s3 ⟨u, H3, I3, pu, eu, e3⟩ => ?_
  subst eu e3
  refine thn (hst.run pins s3 σ H3 (fun o H4 => o = some (-1) ∧ H4 = H3) I3 ⟨1, rfl, -1, rfl, rfl, rfl⟩) fun vs s4 ⟨o, H4, I4, ps, eo, e4⟩ => ?_
  subst eo e4
  have I5 : Inv X pins σ H4 { s4 with heap := s4.heap.push { cls := .type "slice", data := .fields #[vl, vu, vs] } } := I4.kept (t' := s4.toks) fun b ob q => Heap.get?_push_of_some _ q
  show wpAny (model X.prog X.w) X.A (subscriptTail e (.Slice none none (some (.UnaryOp .USub (.Constant (.int 1) k p1) p2)) p3) (.ref a) (.ref s4.heap.objs.size)) (EP X pins σ Q) X.xe { s4 with heap := s4.heap.push { cls := .type "slice", data := .fields #[vl, vu, vs] } }
  rcases hx with ⟨hx, q⟩ | ⟨hx, q⟩
  · obtain ⟨its, r, ht, hz⟩ := I5.list hx
    have hlen := r.length
    refine tail_any (ops := [.ref a, .ref s4.heap.objs.size]) ht.isList.typeIs (PySem.slot_list_getitem.lookup) ?_ (by with_unfolding_all rfl)
    refine wpAny_getItem_list_slice ht.isList (Heap.IsSliceOf.new _ vl vu vs) pl pu ps (by decide) ?_ (by rw [List.size_toArray]; omega)
    rw [PySem.W.krv_pick]
    refine ⟨.ref _, _, I5.laid (t' := s4.toks) (o := .lst xs.reverse) (fun b ob q => Heap.get?_push_of_some _ q) (Nat.le_refl _) ?_, rfl, q _ (I5.hok.fresh (Nat.le_refl _))⟩
    exact ⟨by rw [List.length_reverse]; exact hz, _, 0, r.reverse, Heap.get?_push_size _ rfl⟩
  · obtain ⟨its, r, ht, hz⟩ := I5.tuple hx
    have hlen := r.length
    refine tail_any (ops := [.ref a, .ref s4.heap.objs.size]) ht.typeIs (PyProof.Rows.slot_tuple_getitem.lookup) ?_ (by with_unfolding_all rfl)
    refine item_tup_rev ht (Heap.IsSliceOf.new _ vl vu vs) pl pu ps ?_ (by rw [List.size_toArray]; omega)
    refine ⟨.ref _, _, I5.laid (t' := s4.toks) (o := .tup xs.reverse) (fun b ob q => Heap.get?_push_of_some _ q) (Nat.le_refl _) ?_, rfl, q _ (I5.hok.fresh (Nat.le_refl _))⟩
    exact ⟨by rw [List.length_reverse]; exact hz, _, r.reverse, IsTup.new _ _⟩
def dRev (x : D) : M D := fun s => match x with
  | .tup xs => .ok (.tup xs.reverse) s
  | x => match asLL s x with
    | some xs => .ok (.lst xs.reverse) s
    | none => .bad
def mRev (f : EV → M D) : EV → M D := fun σ => bnd (f σ) dRev
theorem ie_rev {e : Expr} {k : Nat} {p1 p2 p3 pos : Pos} {f : EV → M D} (he : IE X W e f) : IE X W (.Subscript e (.Slice none none (some (.UnaryOp .USub (.Constant (.int 1) k p1) p2)) p3) pos) (mRev f) := by
  refine ⟨pe_mono (pe_revA he.pe) fun σ H Q ⟨m, σd, s, hR, hS, hG⟩ => ?_⟩
  refine ⟨m, σd, s, hR, hS, (Go.bnd (rel := RV X.K) hG).imp fun x H1 ⟨m1, d, s1, e1, r1, v1, g1⟩ => ?_⟩
  unfold dRev at g1
  split at g1
  · obtain ⟨a, vs, rfl, h1, h2⟩ := tup_at v1
    exact ⟨a, vs, rfl, .inr ⟨h1, fun p hp => Go.newT r1 h2.reverse hp g1⟩⟩
  · split at g1
    · rename_i xs e
      obtain ⟨a, vs, rfl, h1, h2⟩ := asLL_at r1 v1 e
      exact ⟨a, vs, rfl, .inl ⟨h1, fun p hp => Go.newL r1 h2.reverse hp g1⟩⟩
    · exact g1.elim
end
end RQ

namespace RQ
open PySem PySem.Spec PyProof.Rows L2
/-! ### [e for x in a if .. for y in b if ..] -/
def cmp2 (J : Src) (g : TF) (t : EV → M Bool) (f1 : EV → M Src) (g1 : TF) (t1 : EV → M Bool) (e : EV → M D) (vs1 : List Nat) (σ : EV) : Nat → Nat → List D → M (List D)
  | 0, _, _ => fun _ => .bad
  | n + 1, i, acc => fun s => match J.item s i with
    | none => .bad
    | some none => .ok acc s
    | some (some d) => match g d σ with
      | none => .bad
      | some σ2 => match t σ2 s with
        | .ok false s1 => cmp2 J g t f1 g1 t1 e vs1 σ n (i + 1) acc s1
        | .ok true s1 => (match f1 σ2 s1 with
          | .ok J1 s2 => (match cmp J1 g1 t1 e (wipeD σ2 vs1) (J1.n + 1) 0 acc s2 with
            | .ok acc2 s3 => cmp2 J g t f1 g1 t1 e vs1 σ n (i + 1) acc2 s3
            | _ => .bad)
          | _ => .bad)
        | _ => .bad
def mLc2 (own vs1 : List Nat) (f : EV → M Src) (g : TF) (t : EV → M Bool) (f1 : EV → M Src) (g1 : TF) (t1 : EV → M Bool) (e : EV → M D) (k : List D → M D) : EV → M D :=
  fun σ => bnd (f σ) fun J => bnd (nox (cmp2 J g t f1 g1 t1 e vs1 (wipeD σ own) (J.n + 1) 0 [])) k
structure LI (K : PySem.W.Frag) (mg : Str → Option Value) (m1 : MM) (H1 : Hp) (p : Addr) (m : MM) (s : Sto) (acc : List D) (H : Hp) : Prop where
  exq : m = ⟨m.ix, p :: m1.ex⟩
  pre : m1.ix <+: m.ix
  same : Same (hid m1 H1) (hid m H)
  keep : ∀ a ∈ m1.ex, H a = H1 a
  r : R K mg m s H
  l : ∃ vs, H p = some (.lst vs) ∧ RVs K m (hid m H) acc vs
section
variable {K : PySem.W.Frag} {mg : Str → Option Value} {m1 m m2 : MM} {H1 H H2 : Hp} {p : Addr} {s s2 : Sto} {acc : List D}
theorem LI.ext (L : LI K mg m1 H1 p m s acc H) (e : Ext m H m2 H2) (r : R K mg m2 s2 H2) : LI K mg m1 H1 p m2 s2 acc H2 := by
  have hex : m.ex = p :: m1.ex := by rw [L.exq]
  obtain ⟨vs, h1, h2⟩ := L.l
  refine ⟨?_, L.pre.trans e.pre, L.same.trans e.same, fun a ha => (e.keep a (by rw [hex]; exact List.mem_cons_of_mem _ ha)).trans (L.keep a ha), r, vs, (e.keep p (by rw [hex]; exact List.mem_cons_self)).trans h1, h2.mono e.pre e.same⟩
  obtain ⟨ix2, ex2⟩ := m2
  have : ex2 = p :: m1.ex := e.exq.trans hex
  subst this
  rfl
theorem LI.app (hpx : p ∉ m1.ex) (L : LI K mg m1 H1 p m s acc H) {y : D} {yv : V} (hy : RV K m (hid m H) y yv) : ∃ vs, H p = some (.lst vs) ∧ vs.length = acc.length ∧ LI K mg m1 H1 p m s (acc ++ [y]) (upd H p (.lst (vs ++ [yv]))) := by
  obtain ⟨vs, h1, h2⟩ := L.l
  have hex : p ∈ m.ex := by rw [L.exq]; exact List.mem_cons_self
  obtain ⟨r5, sm5⟩ := L.r.exput (ho := .lst (vs ++ [yv])) hex
  refine ⟨vs, h1, h2.length, L.exq, L.pre, L.same.trans sm5, fun a ha => (upd_ne (show a ≠ p from fun z => hpx (z ▸ ha))).trans (L.keep a ha), r5, _, upd_same, ?_⟩
  exact (h2.append (.cons hy .nil)).mono List.prefix_rfl sm5
end
section
variable {X : Cx} {W : WX}
theorem lc_in {m1 : MM} {H1 : Hp} {p : Addr} {Nx : Hp → Prop} {J1 : Src} {I1 : It} {g1 : TF} {t1 : EV → M Bool} {e : EV → M D} {vs1 : List Nat} {σ2d : EV} {σ2 : SV} {m4 : MM} {H4 : Hp} {s4 : Sto} {acc : List D} {r1 : Res (List D)} (hpx : p ∉ m1.ex)
    (L : LI X.K X.mg m1 H1 p m4 s4 acc H4) (v1 : Wk X.K X.mg m4 (hid m4 H4) J1 I1) (hS : RS X.K m4 (hid m4 H4) σ2d σ2) (hr : nox (cmp J1 g1 t1 e (wipeD σ2d vs1) (J1.n + 1) 0 acc) s4 = r1) (hb : r1 ≠ .bad)
    (hn : ∀ m s acc H, LI X.K X.mg m1 H1 p m s acc H → r1 = .ok acc s → Nx H) :
    ∃ W1 : Nat → Nat → Hp → Prop, (∃ m, W1 0 m H4) ∧ ∀ j k H, W1 j k H →
      (I1.stop j H ∧ Nx H) ∨ (I1.go j H ∧ ∃ Nx1 : Hp → Prop, (∀ H', Nx1 H' → ∃ k', k' < k ∧ W1 (j + 1) k' H') ∧ ∀ x H', I1.yld j H x H' → rG X vs1 g1 x (L2.wipe σ2 vs1) H' fun σ3 H5 => L2.wipe σ3 vs1 = L2.wipe σ2 vs1 ∧ rT X W0 t1 σ3 H5 fun b H6 =>
        if b = true then rE X W0 e σ3 H6 fun y H7 => ∃ acc, H7 p = some (.lst acc) ∧ acc.length < sizeLine ∧ Nx1 (upd H7 p (.lst (acc ++ [y]))) else Nx1 H6) := by
  refine ⟨fun j k H => ∃ m s acc, LI X.K X.mg m1 H1 p m s acc H ∧ m4.ix <+: m.ix ∧ Same (hid m4 H4) (hid m H) ∧ nox (cmp J1 g1 t1 e (wipeD σ2d vs1) k j acc) s = r1,
    ⟨J1.n + 1, m4, s4, acc, L, List.prefix_rfl, fun _ _ z => z, hr⟩, fun j k H hW => ?_⟩
  obtain ⟨m, s, ac, L', px, sm, hc⟩ := hW
  cases k with
  | zero => exact absurd hc.symm hb
  | succ k =>
    have hwk := v1 m s H px sm L'.r j
    unfold cmp at hc
    cases hj : J1.item s j with
    | none => exact absurd (by rw [← hc]; unfold RQ.nox; simp only [hj]) hb
    | some o =>
      cases o with
      | none =>
        rw [hj] at hwk
        exact .inl ⟨hwk, hn m s ac H L' (by rw [← hc]; unfold RQ.nox; simp only [hj])⟩
      | some d =>
        rw [hj] at hwk
        obtain ⟨hgo, hy⟩ := hwk
        refine .inr ⟨hgo, fun H2 => ∃ m s acc, LI X.K X.mg m1 H1 p m s acc H2 ∧ m4.ix <+: m.ix ∧ Same (hid m4 H4) (hid m H2) ∧ nox (cmp J1 g1 t1 e (wipeD σ2d vs1) k (j + 1) acc) s = r1, fun H2 z => ⟨k, Nat.lt_succ_self _, z⟩, fun x H2 hx => ?_⟩
        obtain ⟨m2, e2, r2, v2⟩ := hy x H2 hx
        have hS2 : RS X.K m2 (hid m2 H2) (wipeD σ2d vs1) (L2.wipe σ2 vs1) := (hS.mono (px.trans e2.pre) (sm.trans e2.same)).wipe vs1
        cases hgd : g1 d (wipeD σ2d vs1) with
        | none => exact absurd (by rw [← hc]; unfold RQ.nox; simp only [hj, hgd]) hb
        | some σ5 =>
          refine ⟨m2, d, _, s, σ5, r2, v2, hS2, hgd, fun σ3 q3 w3 => ⟨w3.trans (wipe_wipe σ2 vs1 vs1 fun _ h => h), m2, σ5, s, r2, q3, ?_⟩⟩
          cases ht : t1 σ5 s with
          | bad => exact absurd (by rw [← hc]; unfold RQ.nox; simp only [hj, hgd, ht]) hb
          | exc c fs s3 => exact absurd (by rw [← hc]; unfold RQ.nox; simp only [hj, hgd, ht]) hb
          | ok b s3 =>
            intro b' m3 H3 e3 r3 hb'
            have hb' : b' = b := hb'
            subst hb'
            cases b' with
            | false =>
              rw [if_neg Bool.false_ne_true]
              exact ⟨m3, s3, ac, L'.ext (e2.trans e3) r3, px.trans (e2.pre.trans e3.pre), sm.trans (e2.same.trans e3.same), by rw [← hc]; unfold RQ.nox; simp only [hj, hgd, ht]⟩
            | true =>
              rw [if_pos rfl]
              refine ⟨m3, σ5, s3, r3, q3.mono e3.pre e3.same, ?_⟩
              cases hel : e σ5 s3 with
              | bad => exact absurd (by rw [← hc]; unfold RQ.nox; simp only [hj, hgd, ht, hel]) hb
              | exc c fs s4 => exact absurd (by rw [← hc]; unfold RQ.nox; simp only [hj, hgd, ht, hel]) hb
              | ok y s5 =>
                intro yv m5 H5 e5 r5 vy
                by_cases hl : ac.length < lim
                · have L5 := L'.ext (e2.trans (e3.trans e5)) r5
                  obtain ⟨vs, k1, k2, k3⟩ := L5.app hpx vy
                  have hex : p ∈ m5.ex := by rw [L5.exq]; exact List.mem_cons_self
                  have sm5 := (L5.r.exput (ho := .lst (vs ++ [yv])) hex).2
                  refine ⟨vs, k1, by rw [k2]; exact Nat.lt_of_lt_of_le hl (lim_le (Nat.le_refl _)), m5, s5, ac ++ [y], k3, px.trans (e2.pre.trans (e3.pre.trans e5.pre)), (sm.trans (e2.same.trans (e3.same.trans e5.same))).trans sm5, ?_⟩
                  rw [← hc]; unfold RQ.nox; simp only [hj, hgd, ht, hel, if_pos hl]
                · exact absurd (by rw [← hc]; unfold RQ.nox; simp only [hj, hgd, ht, hel, if_neg hl]) hb
theorem lcs2 {own vs1 : List Nat} {f : EV → M Src} {g : TF} {t : EV → M Bool} {f1 : EV → M Src} {g1 : TF} {t1 : EV → M Bool} {e : EV → M D} {k : List D → M D} (hk : LcK X.K X.mg k) {σ : SV} {H : Hp} {Q : VK} (hw : rE X W (mLc2 own vs1 f g t f1 g1 t1 e k) σ H Q) :
    tLc2 (rI X W f) (rG X own g) (rT X W0 t) (rI X W0 f1) (rG X vs1 g1) (rT X W0 t1) (rE X W0 e) own vs1 σ H Q := by
  obtain ⟨m, σd, s, hR, hS, hG⟩ := hw
  refine ⟨m, σd, s, hR, hS, (Go.bnd (rel := Wk X.K X.mg) hG).imp fun I H1 ⟨m1, J, s1, e1, r1, v1, g1'⟩ => ?_⟩
  intro p hp
  have hS1 := hS.mono e1.pre e1.same
  generalize hr0 : nox (cmp2 J g t f1 g1 t1 e vs1 (wipeD σd own) (J.n + 1) 0 []) s1 = r0 at g1'
  have gk : Go W X.K X.mg σ (RV X.K) m1 H1 (r0.bnd k) Q := by
    have : bnd (nox (cmp2 J g t f1 g1 t1 e vs1 (wipeD σd own) (J.n + 1) 0 [])) k s1 = r0.bnd k := by unfold bnd; rw [hr0]
    rw [← this]; exact g1'
  have hb : r0 ≠ .bad := fun z => by rw [z] at gk; exact gk.elim
  have hpx : p ∉ m1.ex := fun z => r1.fresh hp (.inr z)
  obtain ⟨rc, smc⟩ := r1.cover (ho := .lst []) hp
  refine ⟨fun i k' H' => ∃ m s' acc, LI X.K X.mg m1 H1 p m s' acc H' ∧ nox (cmp2 J g t f1 g1 t1 e vs1 (wipeD σd own) k' i acc) s' = r0,
    ⟨J.n + 1, ⟨m1.ix, p :: m1.ex⟩, s1, [], ⟨rfl, List.prefix_rfl, smc, fun a ha => upd_ne fun z => hpx (z ▸ ha), rc, [], upd_same, .nil⟩, hr0⟩, fun i k' H' hW => ?_⟩
  obtain ⟨m0, s', acc, L, hc⟩ := hW
  cases k' with
  | zero => exact absurd hc.symm hb
  | succ k' =>
    have hwk := v1 m0 s' H' L.pre L.same L.r i
    unfold cmp2 at hc
    cases hj : J.item s' i with
    | none => exact absurd (by rw [← hc]; unfold RQ.nox; simp only [hj]) hb
    | some o =>
      cases o with
      | none =>
        rw [hj] at hwk
        have : r0 = .ok acc s' := by rw [← hc]; unfold RQ.nox; simp only [hj]
        rw [this] at gk
        obtain ⟨vs, q1, q2⟩ := L.l
        have L2 := L
        obtain ⟨ix, ex⟩ := m0
        have hex : ex = p :: m1.ex := congrArg MM.ex L.exq
        subst hex
        exact .inl ⟨hwk, hk W σ Q m1 H1 H' ix p acc vs s' hp (.inr True.intro) L.pre L.same L.keep hpx L.r q1 q2 gk⟩
      | some d =>
        rw [hj] at hwk
        obtain ⟨hgo, hy⟩ := hwk
        refine .inr ⟨hgo, fun H2 => ∃ m s' acc, LI X.K X.mg m1 H1 p m s' acc H2 ∧ nox (cmp2 J g t f1 g1 t1 e vs1 (wipeD σd own) k' (i + 1) acc) s' = r0, fun H2 z => ⟨k', Nat.lt_succ_self _, z⟩, fun x H2 hx => ?_⟩
        obtain ⟨m2, e2, r2, v2⟩ := hy x H2 hx
        have La := L.ext e2 r2
        have hS2 : RS X.K m2 (hid m2 H2) (wipeD σd own) (L2.wipe σ own) := (hS1.mono La.pre La.same).wipe own
        cases hgd : g d (wipeD σd own) with
        | none => exact absurd (by rw [← hc]; unfold RQ.nox; simp only [hj, hgd]) hb
        | some σ2 =>
          refine ⟨m2, d, _, s', σ2, r2, v2, hS2, hgd, fun σ3 q3 w3 => ⟨w3.trans (wipe_wipe σ own own fun _ h => h), m2, σ2, s', r2, q3, ?_⟩⟩
          cases ht : t σ2 s' with
          | bad => exact absurd (by rw [← hc]; unfold RQ.nox; simp only [hj, hgd, ht]) hb
          | exc c fs s3 => exact absurd (by rw [← hc]; unfold RQ.nox; simp only [hj, hgd, ht]) hb
          | ok b s3 =>
            intro b' m3 H3 e3 r3 hb'
            have hb' : b' = b := hb'
            subst hb'
            have Lb := La.ext e3 r3
            cases b' with
            | false =>
              rw [if_neg Bool.false_ne_true]
              exact ⟨m3, s3, acc, Lb, by rw [← hc]; unfold RQ.nox; simp only [hj, hgd, ht]⟩
            | true =>
              rw [if_pos rfl]
              refine ⟨m3, σ2, s3, r3, q3.mono e3.pre e3.same, ?_⟩
              cases hf : f1 σ2 s3 with
              | bad => exact absurd (by rw [← hc]; unfold RQ.nox; simp only [hj, hgd, ht, hf]) hb
              | exc c fs s4 => exact absurd (by rw [← hc]; unfold RQ.nox; simp only [hj, hgd, ht, hf]) hb
              | ok J1 s4 =>
                intro I1 m4 H4 e4 r4 wk
                have Lc := Lb.ext e4 r4
                refine lc_in (r1 := nox (cmp J1 g1 t1 e (wipeD σ2 vs1) (J1.n + 1) 0 acc) s4) hpx Lc wk ((q3.mono e3.pre e3.same).mono e4.pre e4.same) rfl (fun z => hb ?_) fun m s ac H' L' er => ⟨m, s, ac, L', ?_⟩
                · rw [← hc]
                  unfold RQ.nox at z ⊢
                  simp only [hj, hgd, ht, hf]
                  cases q : cmp J1 g1 t1 e (wipeD σ2 vs1) (J1.n + 1) 0 acc s4 with
                  | ok a b => rw [q] at z; cases z
                  | exc c fs b => rfl
                  | bad => rfl
                · rw [← hc]
                  unfold RQ.nox at er ⊢
                  simp only [hj, hgd, ht, hf]
                  cases q : cmp J1 g1 t1 e (wipeD σ2 vs1) (J1.n + 1) 0 acc s4 with
                  | ok a b => rw [q] at er; cases er; rfl
                  | exc c fs b => rw [q] at er; cases er
                  | bad => rw [q] at er; cases er
theorem ie_lc2 {elt tg iter tg1 iter1 : Expr} {ifs ifs1 : List Expr} {scope : Scope} {own : List (Str × Nat)} {vs1 : List Nat} {pos : Pos} {f f1 : EV → M Src} {g g1 : TF} {t t1 : EV → M Bool} {e : EV → M D} {k : List D → M D} (hk : LcK X.K X.mg k) (hc : X.calm = true) (hN : X.N.Nodup) (hi : II X W tg iter f) (ok : BlkOk X.N X.env.scope scope own) (hv : ∀ i ∈ vs1, i ∈ own.map (·.2))
    (hg : ∀ (s : Shared) (H : Hp) (C : Addr) (cl : List (Str × Addr)) (fp : List Addr), IG (X.blk s H scope (compEnvC scope cl C X.env) fp) (own.map (·.2)) tg g) (ht : ∀ (s : Shared) (H : Hp) (C : Addr) (cl : List (Str × Addr)) (fp : List Addr), ITs (X.blk s H scope (compEnvC scope cl C X.env) fp) W0 ifs t)
    (hi1 : ∀ (s : Shared) (H : Hp) (C : Addr) (cl : List (Str × Addr)) (fp : List Addr), II (X.blk s H scope (compEnvC scope cl C X.env) fp) W0 tg1 iter1 f1)
    (hg1 : ∀ (s : Shared) (H : Hp) (C : Addr) (cl : List (Str × Addr)) (fp : List Addr), IG (X.blk s H scope (compEnvC scope cl C X.env) fp) vs1 tg1 g1) (ht1 : ∀ (s : Shared) (H : Hp) (C : Addr) (cl : List (Str × Addr)) (fp : List Addr), ITs (X.blk s H scope (compEnvC scope cl C X.env) fp) W0 ifs1 t1)
    (he : ∀ (s : Shared) (H : Hp) (C : Addr) (cl : List (Str × Addr)) (fp : List Addr), IE (X.blk s H scope (compEnvC scope cl C X.env) fp) W0 elt e) (hs : ∀ x, foldedSetIterable iter X.env x = pure x := by intro _; rfl) (hs1 : ∀ env x, foldedSetIterable iter1 env x = pure x := by intro _ _; rfl) :
    IE X W (.ListComp elt [⟨tg, iter, ifs, 0⟩, ⟨tg1, iter1, ifs1, 0⟩] scope pos) (mLc2 (own.map (·.2)) vs1 f g t f1 g1 t1 e k) :=
  ⟨pe_mono (pe_lc2 (wi := rI X W f) (g := rG X (List.map (fun x => Prod.snd x) own) g) (tt := rT X W0 t) (wi1 := rI X W0 f1) (g1 := rG X vs1 g1) (tt1 := rT X W0 t1) (te := rE X W0 e) hc hN hi.pi ok hv (fun s H C cl fp => (hg s H C cl fp).pg) (fun s H C cl fp => (ht s H C cl fp).pt)
    (fun s H C cl fp => (hi1 s H C cl fp).pi) (fun s H C cl fp => (hg1 s H C cl fp).pg) (fun s H C cl fp => (ht1 s H C cl fp).pt) (fun s H C cl fp => (he s H C cl fp).pe) hs hs1) fun σ H Q hw => lcs2 hk hw⟩
theorem is_setLc2 {i : Nat} {y : Str} {py : Pos} {elt tg iter tg1 iter1 : Expr} {ifs ifs1 : List Expr} {scope : Scope} {own : List (Str × Nat)} {vs1 : List Nat} {pos spos : Pos} {f f1 : EV → M Src} {g g1 : TF} {t t1 : EV → M Bool} {e : EV → M D} {k : List D → M D} (hk : LcK X.K X.mg k) (hc : X.calm = true) (hN : X.N.Nodup) (hy : X.N[i]? = some y) (hyl : X.env.scope.names.lookup y = some .local)
    (hsw : swapsWith (.ListComp elt [⟨tg, iter, ifs, 0⟩, ⟨tg1, iter1, ifs1, 0⟩] scope pos) (some (.Name y py)) spos.line X.env = pure true) (hi : II X W tg iter f) (ok : BlkOk X.N X.env.scope scope own) (hv : ∀ i ∈ vs1, i ∈ own.map (·.2))
    (hg : ∀ (s : Shared) (H : Hp) (C : Addr) (cl : List (Str × Addr)) (fp : List Addr), IG (X.blk s H scope (compEnvC scope cl C X.env) fp) (own.map (·.2)) tg g) (ht : ∀ (s : Shared) (H : Hp) (C : Addr) (cl : List (Str × Addr)) (fp : List Addr), ITs (X.blk s H scope (compEnvC scope cl C X.env) fp) W0 ifs t)
    (hi1 : ∀ (s : Shared) (H : Hp) (C : Addr) (cl : List (Str × Addr)) (fp : List Addr), II (X.blk s H scope (compEnvC scope cl C X.env) fp) W0 tg1 iter1 f1)
    (hg1 : ∀ (s : Shared) (H : Hp) (C : Addr) (cl : List (Str × Addr)) (fp : List Addr), IG (X.blk s H scope (compEnvC scope cl C X.env) fp) vs1 tg1 g1) (ht1 : ∀ (s : Shared) (H : Hp) (C : Addr) (cl : List (Str × Addr)) (fp : List Addr), ITs (X.blk s H scope (compEnvC scope cl C X.env) fp) W0 ifs1 t1)
    (he : ∀ (s : Shared) (H : Hp) (C : Addr) (cl : List (Str × Addr)) (fp : List Addr), IE (X.blk s H scope (compEnvC scope cl C X.env) fp) W0 elt e) (hs : ∀ x, foldedSetIterable iter X.env x = pure x := by intro _; rfl) (hs1 : ∀ env x, foldedSetIterable iter1 env x = pure x := by intro _ _; rfl) :
    IS X W (.Assign [.Name y py] (.ListComp elt [⟨tg, iter, ifs, 0⟩, ⟨tg1, iter1, ifs1, 0⟩] scope pos) spos) (sSet i (mLc2 (own.map (·.2)) vs1 f g t f1 g1 t1 e k)) := by
  refine ⟨ps_mono (ps_setLc2 (wi := rI X W f) (g := rG X (List.map (fun x => Prod.snd x) own) g) (tt := rT X W0 t) (wi1 := rI X W0 f1) (g1 := rG X vs1 g1) (tt1 := rT X W0 t1) (te := rE X W0 e) hc hN hy hyl hsw hi.pi ok hv (fun s H C cl fp => (hg s H C cl fp).pg) (fun s H C cl fp => (ht s H C cl fp).pt)
    (fun s H C cl fp => (hi1 s H C cl fp).pi) (fun s H C cl fp => (hg1 s H C cl fp).pg) (fun s H C cl fp => (ht1 s H C cl fp).pt) (fun s H C cl fp => (he s H C cl fp).pe) hs hs1) fun E σ H ⟨m, σd, s, hR, hS, hG⟩ => ?_⟩
  refine lcs2 hk ⟨m, σd, s, hR, hS, (GoS.lft (rel := RV X.K) hS hG).imp fun x H1 ⟨m1, d, s1, e1, r1, v1, g1⟩ => ?_⟩
  exact GoS.at (fl := .nx) g1 r1 ((hS.mono e1.pre e1.same).put v1)
end
end RQ

namespace RQ
open PySem PySem.Spec PyProof.Rows L2
/-- a name of the module that stands for plain data -/
def CT (K : PySem.W.Frag) (mg : Str → Option Value) (x : Str) (d : D) : Prop := ∃ u v, mg x = some u ∧ RelV v u ∧ ∀ m G, RV K m G d v
theorem ie_const {X : Cx} {W : WX} {x : Str} {d : D} {pos : Pos} (h : CT X.K X.mg x d) (hg : Gl X x := by rfl) (hd : (x == ("__debug__" : Str)) = false := by decide) : IE X W (.Name x pos) (cst d) := by
  obtain ⟨u, v, h1, h2, h3⟩ := h
  exact ie_glob hg h1 h2 h3 hd
theorem rv_tupK {K : PySem.W.Frag} {m : MM} {G : Hp} {a : Addr} {od : Option Addr} {sl : Array (Option Value)} {its : Array Value} {n : Nat} {vs : List V} {ds : List D} (lk : K.lookup a = some ⟨.type "tuple", od, .seq its n, sl⟩) (hz : its.size ≤ sizeLine) (hv : Vals vs its.toList) (r : RVs K m G ds vs) : RV K m G (.tup ds) (.ref a) :=
  .tup (.inr ⟨_, its, n, lk, rfl, rfl, hz, hv⟩) r
end RQ

/-! plain data told as PyData -/
namespace RQ
open PySem PySem.Spec PyProof.Rows L2 TL
mutual
def ofP : PyData → D
  | .none => .non
  | .bool b => .bl b
  | .int i => .int i
  | .str x => .str x
  | .list xs => .lst (ofPs xs)
  | .tuple xs => .tup (ofPs xs)
  | .dict _ => .dic []
def ofPs : List PyData → List D
  | [] => []
  | x :: xs => ofP x :: ofPs xs
end
theorem ofPs_map : ∀ xs : List PyData, ofPs xs = xs.map ofP
  | [] => rfl
  | x :: xs => by rw [ofPs, ofPs_map xs]; rfl
theorem allM_of {α β : Type} {f : α → Option β} {g : β → α} : ∀ {xs : List β}, (∀ x ∈ xs, f (g x) = some x) → allM f (xs.map g) = some xs
  | [], _ => rfl
  | x :: xs, h => by
    rw [List.map_cons]
    unfold allM
    rw [h x List.mem_cons_self, allM_of fun y hy => h y (List.mem_cons_of_mem _ hy)]
theorem lay_mem {x : PyData} : ∀ {xs : List PyData}, PyData.canLayAll0 xs = true → x ∈ xs → x.canLay0 = true
  | [], _, h => by cases h
  | y :: ys, h, hm => by
    have h' : (PyData.canLay0 y && PyData.canLayAll0 ys) = true := h
    rw [Bool.and_eq_true] at h'
    rcases List.mem_cons.mp hm with rfl | hm
    · exact h'.1
    · exact lay_mem h'.2 hm
theorem depth_mem {x : PyData} : ∀ {xs : List PyData}, x ∈ xs → x.depth ≤ PyData.depthAll xs
  | [], h => by cases h
  | y :: ys, hm => by
    show x.depth ≤ max y.depth (PyData.depthAll ys)
    rcases List.mem_cons.mp hm with rfl | hm
    · exact Nat.le_max_left ..
    · exact Nat.le_trans (depth_mem hm) (Nat.le_max_right ..)
theorem toP_ofP (s : Sto) : ∀ (n : Nat) (p : PyData), p.canLay0 = true → p.depth < n → toP n s (ofP p) = some p
  | 0, p, _, h => by omega
  | n + 1, .none, _, _ => rfl
  | n + 1, .bool b, _, _ => rfl
  | n + 1, .int b, _, _ => rfl
  | n + 1, .str b, _, _ => rfl
  | n + 1, .dict b, h, _ => by cases h
  | n + 1, .list xs, h, hd => by
    have hd' : 1 + PyData.depthAll xs < n + 1 ∨ PyData.depthAll xs + 1 < n + 1 := by
      first | exact .inl hd | exact .inr hd
    unfold ofP toP
    simp only
    rw [ofPs_map, allM_of fun x hx => toP_ofP s n x (lay_mem h hx) (by have := depth_mem hx; omega)]
    rfl
  | n + 1, .tuple xs, h, hd => by
    have hd' : 1 + PyData.depthAll xs < n + 1 ∨ PyData.depthAll xs + 1 < n + 1 := by
      first | exact .inl hd | exact .inr hd
    unfold ofP toP
    simp only
    rw [ofPs_map, allM_of fun x hx => toP_ofP s n x (lay_mem h hx) (by have := depth_mem hx; omega)]
    rfl
/-! ### weights: a bound of what is shown -/
mutual
def wt : PyData → Nat
  | .none => 4
  | .bool _ => 5
  | .int i => ((PyData.int i).shown).length
  | .str x => 10 * x.length + 2
  | .list xs => 4 + wts xs
  | .tuple xs => 4 + wts xs
  | .dict _ => 2
def wts : List PyData → Nat
  | [] => 0
  | x :: xs => wt x + 2 + wts xs
end
theorem wts_app : ∀ xs ys : List PyData, wts (xs ++ ys) = wts xs + wts ys
  | [], ys => by simp [wts]
  | x :: xs, ys => by rw [List.cons_append, wts, wts_app xs ys, wts]; omega
theorem wts_sub {xs ys : List PyData} (h : List.Sublist xs ys) : wts xs ≤ wts ys := by
  induction h with
  | slnil => exact Nat.le_refl _
  | cons a _ ih => rw [wts]; omega
  | cons_cons a _ ih => rw [wts, wts]; omega
theorem wts_rev : ∀ xs : List PyData, wts xs.reverse = wts xs
  | [] => rfl
  | x :: xs => by rw [List.reverse_cons, wts_app, wts_rev xs, wts, wts, wts]; omega
theorem wts_len : ∀ xs : List PyData, 2 * xs.length ≤ wts xs
  | [] => by simp
  | x :: xs => by have := wts_len xs; rw [wts, List.length_cons]; omega
theorem wt_mem {x : PyData} : ∀ {xs : List PyData}, x ∈ xs → wt x + 2 ≤ wts xs
  | [], h => by cases h
  | y :: ys, hm => by
    rw [wts]
    rcases List.mem_cons.mp hm with rfl | hm
    · omega
    · have := wt_mem hm; omega
theorem slen_app' (a b : Str) : (a ++ b).length = a.length + b.length := by
  show (a.cps ++ b.cps).size = _
  rw [Array.size_append]; rfl
theorem textFrom_le' : ∀ (ts : List Str) (k : Nat) (acc : Str), (textFrom k acc ts).length ≤ acc.length + (ts.map fun t => t.length + 2).sum
  | [], k, acc => by simp [textFrom]
  | t :: ts, k, acc => by
    unfold textFrom
    have h := textFrom_le' ts (k + 1) (acc ++ (if k > 0 then ", " else "" : String) ++ t)
    rw [slen_app', slen_app'] at h
    have h2 : (((if k > 0 then ", " else "" : String) : String) : Str).length ≤ 2 := by split <;> decide
    rw [List.map_cons, List.sum_cons]
    omega
theorem join_le : ∀ (ts : List Str), (Str.join ", " ts).length ≤ (ts.map fun t => t.length + 2).sum
  | [] => by decide
  | [x] => by show x.length ≤ _; simp
  | x :: y :: r => by
    have ih := join_le (y :: r)
    show (x ++ (", " : Str) ++ Str.join ", " (y :: r)).length ≤ _
    rw [slen_app', slen_app', List.map_cons, List.sum_cons]
    have h2 : ((", " : String) : Str).length = 2 := rfl
    have h3 : (", " : Str).length = 2 := rfl
    omega
mutual
theorem shown_le : ∀ p : PyData, p.canLay0 = true → p.shown.length ≤ wt p
  | .none, _ => by decide
  | .bool true, _ => by decide
  | .bool false, _ => by decide
  | .int i, _ => Nat.le_refl _
  | .str x, h => by
    refine PySem.StrLaws.reprText_len x fun c hc => ?_
    have h' : x.cps.all (· < 0x110000) = true := h
    have := Array.all_eq_true_iff_forall_mem.mp h' c (by simpa using hc)
    have h2 : c < 0x110000 := by simpa using this
    omega
  | .list xs, h => by
    show (listText (PyData.shownAll xs)).length ≤ 4 + wts xs
    have := shownAll_le xs h
    unfold listText
    have h3 := textFrom_le' (PyData.shownAll xs) 0 "["
    rw [slen_app']
    have h1 : (("[" : String) : Str).length = 1 := rfl
    have h2 : (("]" : String) : Str).length = 1 := rfl
    omega
  | .tuple xs, h => by
    show (tupleText (PyData.shownAll xs)).length ≤ 4 + wts xs
    have := shownAll_le xs h
    unfold tupleText
    have h3 := join_le (PyData.shownAll xs)
    rw [slen_app', slen_app']
    have h1 : (("(" : String) : Str).length = 1 := rfl
    have h2 : (((if (PyData.shownAll xs).length == 1 then ",)" else ")" : String) : String) : Str).length ≤ 2 := by split <;> decide
    omega
  | .dict _, h => by cases h
theorem shownAll_le : ∀ xs : List PyData, PyData.canLayAll0 xs = true → ((PyData.shownAll xs).map fun t => t.length + 2).sum ≤ wts xs
  | [], _ => by decide
  | x :: xs, h => by
    have h' : (PyData.canLay0 x && PyData.canLayAll0 xs) = true := h
    rw [Bool.and_eq_true] at h'
    have h1 := shown_le x h'.1
    have h2 := shownAll_le xs h'.2
    show ((x.shown.length + 2) :: ((PyData.shownAll xs).map fun t => t.length + 2)).sum ≤ wt x + 2 + wts xs
    rw [List.sum_cons]
    omega
end
/-- data that can be told, compared and shown -/
structure Gd (k : Nat) (p : PyData) : Prop where
  lay : p.canLay0 = true
  shw : p.showable = true
  dp : p.depth ≤ 9
  wt : RQ.wt p ≤ k
theorem Gd.dat {k : Nat} {p : PyData} (h : Gd k p) (s : Sto) : dat s (ofP p) = some p := toP_ofP s 12 p h.lay (by have := h.dp; omega)
theorem Gd.repr {k : Nat} {p : PyData} (h : Gd k p) (hk : k ≤ lim) (s : Sto) : cRepr [ofP p] s = .ok (.str p.shown) s := by
  unfold cRepr
  simp only [rdat_of (h.dat s)]
  rw [if_pos ⟨h.shw, Nat.le_trans (shown_le p h.lay) (Nat.le_trans h.wt hk)⟩]
theorem Gd.eq {k l : Nat} {p q : PyData} (h : Gd k p) (g : Gd l q) (s : Sto) : dEqB s (ofP p) (ofP q) = some (PyData.eqv p q) := by
  unfold dEqB
  cases e : sEq (ofP p) (ofP q) with
  | none => simp only [h.dat s, g.dat s, h.lay, g.lay, and_self, ↓reduceIte]
  | some b =>
    cases p <;> cases q <;> simp only [ofP, sEq] at e <;> first | (cases e; rfl) | cases e
theorem cmpL_of {α : Type} {g : TF} {e : EV → M D} {σ : EV} {f h : α → D} (s : Sto) : ∀ (xs : List α) (acc : List D), acc.length + xs.length ≤ lim → (∀ a ∈ xs, ∃ σ2, g (f a) σ = some σ2 ∧ e σ2 s = .ok (h a) s) → cmpL g yes e σ (xs.map f) acc s = .ok (acc ++ xs.map h) s
  | [], acc, _, _ => by simp [cmpL]
  | x :: xs, acc, hl, H => by
    obtain ⟨σ2, h1, h2⟩ := H x List.mem_cons_self
    rw [List.length_cons] at hl
    rw [List.map_cons]
    unfold cmpL
    have hl2 : acc.length < lim := by omega
    simp only [h1, h2, yes, if_pos hl2]
    rw [cmpL_of s xs (acc ++ [h x]) (by rw [List.length_append, List.length_singleton]; omega) fun a ha => H a (List.mem_cons_of_mem _ ha)]
    simp
theorem allM_bls {α : Type} (f : α → Bool) (xs : List α) : allM unB (xs.map fun x => D.bl (f x)) = some (xs.map f) := by
  have := allM_map_bl (xs.map f)
  rw [List.map_map] at this
  exact this
theorem call_all {α : Type} (f : α → Bool) (xs : List α) (s : Sto) : cAll [.lst (xs.map fun x => D.bl (f x))] s = .ok (.bl (xs.all f)) s := by
  unfold cAll
  simp only [asLL, asL, allM_bls]
  rw [List.all_map]
  rfl
theorem Gd.cons {k : Nat} {p : PyData} {r : List PyData} (h : Gd k (.list (p :: r))) : Gd k p ∧ Gd k (.list r) := by
  obtain ⟨h1, h2, h3, h4⟩ := h
  have e1 : (p.canLay0 && PyData.canLayAll0 r) = true := h1
  have e2 : (p.showable && PyData.showableAll r) = true := h2
  have e3 : 1 + max p.depth (PyData.depthAll r) ≤ 9 ∨ max p.depth (PyData.depthAll r) + 1 ≤ 9 := by first | exact .inl h3 | exact .inr h3
  have e4 : 4 + (RQ.wt p + 2 + wts r) ≤ k := h4
  rw [Bool.and_eq_true] at e1 e2
  have m1 := Nat.le_max_left p.depth (PyData.depthAll r)
  have m2 := Nat.le_max_right p.depth (PyData.depthAll r)
  refine ⟨⟨e1.1, e2.1, by omega, by omega⟩, e1.2, e2.2, ?_, ?_⟩
  · show PyData.depth (.list r) ≤ 9
    have : PyData.depth (.list r) = 1 + PyData.depthAll r ∨ PyData.depth (.list r) = PyData.depthAll r + 1 := by first | exact .inl rfl | exact .inr rfl
    omega
  · show 4 + wts r ≤ k
    omega
theorem Gd.mem {k : Nat} {p : PyData} : ∀ {r : List PyData}, Gd k (.list r) → p ∈ r → Gd k p
  | [], _, h => by cases h
  | q :: r, g, h => by
    rcases List.mem_cons.mp h with rfl | h
    · exact g.cons.1
    · exact g.cons.2.mem h
theorem Gd.len {k : Nat} {r : List PyData} (h : Gd k (.list r)) : 2 * r.length + 4 ≤ k := by
  have := wts_len r
  have h4 : 4 + wts r ≤ k := h.wt
  omega
theorem sl_tl (d : D) (ds : List D) (s : Sto) : dSlT (.lst (d :: ds)) (some 1) none s = .ok (.lst ds) s := by
  have e : dSlT (.lst (d :: ds)) (some 1) none s = .ok (.lst (cutD (d :: ds) (some 1) none)) s := rfl
  rw [e]
  congr 2
  unfold cutD HT.sIx
  simp
theorem cmp2_of {α : Type} {g : TF} {f1 : EV → M Src} {g1 : TF} {e : EV → M D} {vs1 : List Nat} {σ : EV} {f : α → D} {h : α → List D} (s : Sto) (xs : List α) (hz : (xs.flatMap h).length ≤ lim)
    (H : ∀ a ∈ xs, ∃ σ2 es, g (f a) σ = some σ2 ∧ f1 σ2 s = .ok (fix es) s ∧ ∀ acc : List D, acc.length + (h a).length ≤ lim → cmpL g1 yes e (wipeD σ2 vs1) es acc s = .ok (acc ++ h a) s) :
    cmp2 (fix (xs.map f)) g yes f1 g1 yes e vs1 σ ((fix (xs.map f)).n + 1) 0 [] s = .ok (xs.flatMap h) s := by
  have go : ∀ (r i : Nat) (acc : List D), i + r = xs.length → acc = (xs.take i).flatMap h → cmp2 (fix (xs.map f)) g yes f1 g1 yes e vs1 σ (r + 1) i acc s = .ok (xs.flatMap h) s := by
    intro r
    induction r with
    | zero =>
      intro i acc hi ha
      have hi' : i = xs.length := by omega
      subst hi'
      unfold cmp2
      have e1 : (fix (xs.map f)).item s xs.length = some none := by
        show some (xs.map f)[xs.length]? = some none
        rw [List.getElem?_eq_none (by simp)]
      simp only [e1]
      rw [ha, List.take_length]
    | succ r ih =>
      intro i acc hi ha
      have hlt : i < xs.length := by omega
      obtain ⟨σ2, es, h1, h2, h3⟩ := H xs[i] (List.getElem_mem hlt)
      have e1 : (fix (xs.map f)).item s i = some (some (f xs[i])) := by
        show some (xs.map f)[i]? = _
        rw [List.getElem?_map, List.getElem?_eq_getElem hlt]; rfl
      have ea : (xs.take (i + 1)).flatMap h = acc ++ h xs[i] := by
        rw [List.take_succ_eq_append_getElem hlt, List.flatMap_append, ← ha]; simp
      have hl : (acc ++ h xs[i]).length ≤ lim := by
        rw [← ea]
        refine Nat.le_trans ?_ hz
        have e2 : (xs.flatMap h) = (xs.take (i + 1)).flatMap h ++ (xs.drop (i + 1)).flatMap h := by rw [← List.flatMap_append, List.take_append_drop]
        rw [e2, List.length_append]; omega
      rw [List.length_append] at hl
      have e3 : cmp (fix es) g1 yes e (wipeD σ2 vs1) ((fix es).n + 1) 0 acc s = .ok (acc ++ h xs[i]) s := by
        have := cmp_fix es g1 yes e (wipeD σ2 vs1) 0 acc s (Nat.zero_le _)
        rw [Nat.sub_zero, List.drop_zero] at this
        exact this.trans (h3 acc hl)
      unfold cmp2
      simp only [e1, h1, h2, e3, yes]
      exact ih (i + 1) _ (by omega) ea.symm
  have en : (fix (xs.map f)).n = xs.length := List.length_map ..
  rw [en]
  exact go xs.length 0 [] (by omega) (by simp)
theorem count_F (ws : List Str) (a : Str) (s : Sto) : mCount (.lst (ws.map D.str)) [.str a] s = .ok (.int (ws.count a : Nat)) s := by
  unfold mCount
  simp only [asLL, asL, allM_map_str]
end RQ

/-! rules of reckoning, one a construct, told forwards -/
namespace RQ
open PySem PySem.Spec PyProof.Rows L2 TL
section
variable {α β : Type} {σ σ1 σ2 : EV} {s s1 s2 s3 s4 : Sto} {x y z d : D} {xs ys : List D} {b c : Bool} {r r1 : SRes}
def SetTo (σ : EV) (i : Nat) (d : D) (σ1 : EV) : Prop := σ.set i (some d) = σ1
theorem set_0 {a : Option D} : SetTo (a :: σ) 0 d (some d :: σ) := rfl
theorem set_S {a : Option D} {i : Nat} (h : SetTo σ i d σ1) : SetTo (a :: σ) (i + 1) d (a :: σ1) := congrArg (a :: ·) h
theorem x_get {i : Nat} (h : σ[i]? = some (some d)) : vGet i σ s = .ok d s := by unfold vGet; rw [h]
theorem x_cst (d : D) : cst d σ s = .ok d s := rfl
theorem x_yes : yes σ s = .ok true s := rfl
theorem x_m2 {o : D → D → M D} {f g : EV → M D} (h1 : f σ s = .ok x s1) (h2 : g σ s1 = .ok y s2) (h3 : o x y s2 = .ok z s3) : m2 o f g σ s = .ok z s3 := by
  rw [e_m2, h1, e_bok, e_bnd, h2, e_bok, e_nox, h3]; rfl
theorem x_m1 {o : D → M D} {f : EV → M D} (h1 : f σ s = .ok x s1) (h3 : o x s1 = .ok z s3) : m1 o f σ s = .ok z s3 := by
  rw [e_m1, h1, e_bok, e_nox, h3]; rfl
theorem x_tst {f : EV → M D} (h1 : f σ s = .ok (.bl b) s1) : tst f σ s = .ok b s1 := by
  rw [e_tst, h1, e_bok]; rfl
theorem x_not {p : EV → M Bool} (h : p σ s = .ok b s1) : mNot p σ s = .ok (!b) s1 := by rw [e_not, h]; rfl
theorem x_and {p q : EV → M Bool} (h : p σ s = .ok b s1) (h2 : (if b = true then q σ s1 else .ok false s1) = .ok c s2) : mAnd p q σ s = .ok c s2 := by
  rw [e_and, h, e_bok]
  cases b
  · exact h2
  · exact h2
theorem x_or {p q : EV → M Bool} (h : p σ s = .ok b s1) (h2 : (if b = true then .ok true s1 else q σ s1) = .ok c s2) : mOr p q σ s = .ok c s2 := by
  rw [e_or, h, e_bok]
  cases b
  · exact h2
  · exact h2
theorem x_vnot {f : EV → M D} (h : f σ s = .ok (.bl b) s1) : vNot f σ s = .ok (.bl (!b)) s1 := by rw [e_vnot, h]; rfl
theorem x_vand {f g : EV → M D} (h : f σ s = .ok (.bl b) s1) (h2 : (if b = true then g σ s1 else .ok (.bl false) s1) = .ok d s2) : vAnd f g σ s = .ok d s2 := by
  rw [e_vand, h, e_bok]
  cases b
  · exact h2
  · exact h2
theorem x_vor {f g : EV → M D} (h : f σ s = .ok (.bl b) s1) (h2 : (if b = true then .ok (.bl true) s1 else g σ s1) = .ok d s2) : vOr f g σ s = .ok d s2 := by
  rw [e_vor, h, e_bok]
  cases b
  · exact h2
  · exact h2
theorem x_mif {p : EV → M Bool} {f g : EV → M D} (h : p σ s = .ok b s1) (h2 : (if b = true then f σ s1 else g σ s1) = .ok d s2) : mIf p f g σ s = .ok d s2 := by
  rw [e_mif, h, e_bok]
  cases b
  · exact h2
  · exact h2
theorem x_chn {o o' : D → D → M D} {f g h : EV → M D} (h1 : f σ s = .ok x s1) (h2 : g σ s1 = .ok y s2) (h3 : o x y s2 = .ok (.bl b) s3) (h4 : (if b = true then (h σ s3).bnd (fun w => nox (o' y w)) else .ok (.bl false) s3) = .ok d s4) : chn o o' f g h σ s = .ok d s4 := by
  rw [e_chn, h1, e_bok, e_bnd, h2, e_bok, e_bnd, e_nox, h3, e_nok, e_bok]
  cases b
  · exact h4
  · exact h4
theorem x_chn2 {o' : D → D → M D} {h : EV → M D} (h1 : h σ s = .ok x s1) (h2 : o' y x s1 = .ok d s2) : (h σ s).bnd (fun w => nox (o' y w)) = .ok d s2 := by
  rw [h1, e_bok, e_nox, h2]; rfl
theorem x_T {γ : Type} {A B : γ} {v : γ} (hb : b = true) (h : A = v) : (if b = true then A else B) = v := by rw [if_pos hb]; exact h
theorem x_F {γ : Type} {A B : γ} {v : γ} (hb : b = false) (h : B = v) : (if b = true then A else B) = v := by rw [hb]; exact h
theorem x_nT {γ : Type} {A B : γ} {v : γ} (hb : b = false) (h : A = v) : (if (!b) = true then A else B) = v := by rw [hb]; exact h
theorem x_nF {γ : Type} {A B : γ} {v : γ} (hb : b = true) (h : B = v) : (if (!b) = true then A else B) = v := by rw [hb]; exact h
theorem x_nil : aNil σ s = .ok [] s := rfl
theorem x_cons {f : EV → M D} {fs : EV → M (List D)} (h : f σ s = .ok x s1) (h2 : fs σ s1 = .ok xs s2) : aCons f fs σ s = .ok (x :: xs) s2 := by
  rw [e_acons, h, e_bok, e_bnd, h2]; rfl
theorem x_bnd {m : M α} {k : α → M β} {a : α} {t : β} (h : m s = .ok a s1) (h2 : k a s1 = .ok t s2) : bnd m k s = .ok t s2 := by rw [e_bnd, h]; exact h2
theorem x_mC {k : List D → M D} {fs : EV → M (List D)} (h : fs σ s = .ok xs s1) (h2 : k xs s1 = .ok d s2) : mC k fs σ s = .ok d s2 := by rw [e_mC, h, e_bok, e_nox, h2]; rfl
theorem x_call {n : Nat} {F : List D → M D} {fs : EV → M (List D)} (h : fs σ s = .ok xs s1) (hl : xs.length = n) (h2 : F xs s1 = .ok d s2) : mCall n F fs σ s = .ok d s2 := by
  rw [e_call, h, e_bok]; simp only [hl, ↓reduceIte]; exact h2
theorem x_mM {T : String} {k : D → List D → M D} {f : EV → M D} {fs : EV → M (List D)} (h : f σ s = .ok x s1) (ht : isT T x s1 = true) (h1 : fs σ s1 = .ok xs s2) (h2 : k x xs s2 = .ok d s3) : mM T k f fs σ s = .ok d s3 := by
  rw [e_mM, h, e_bok]; simp only [ht, ↓reduceIte]; rw [e_bnd, h1, e_bok, e_nox, h2]; rfl
theorem x_sl {o : D → Option Int → Option Int → M D} {f : EV → M D} {u v : EV → M (Option Int)} {i j : Option Int} (h : f σ s = .ok x s1) (h1 : u σ s1 = .ok i s2) (h2 : v σ s2 = .ok j s3) (h3 : o x i j s3 = .ok d s4) : mSl o f u v σ s = .ok d s4 := by
  rw [e_sl, h, e_bok, e_bnd, h1, e_bok, e_bnd, h2, e_bok, e_nox, h3]; rfl
theorem x_ono : oNo σ s = .ok none s := rfl
theorem x_oso {f : EV → M D} {i : Int} (h : f σ s = .ok (.int i) s1) : oSo f σ s = .ok (some i) s1 := by rw [e_oso, h]; rfl
theorem x_rev {f : EV → M D} (h : f σ s = .ok x s1) (h1 : dRev x s1 = .ok d s2) : mRev f σ s = .ok d s2 := by unfold mRev; rw [e_bnd, h]; exact h1
theorem x_src {f : EV → M D} {J : Src} (h : f σ s = .ok x s1) (h1 : kSrc x s1 = .ok J s2) : mSrc f σ s = .ok J s2 := by rw [e_src, h]; exact h1
theorem x_enu {f : EV → M D} {J : Src} (h : f σ s = .ok x s1) (h1 : kEnum x s1 = .ok J s2) : mEnum f σ s = .ok J s2 := by rw [e_enum, h]; exact h1
theorem x_rng {f : EV → M D} {J : Src} (h : f σ s = .ok x s1) (h1 : kRng x s1 = .ok J s2) : mRng1 f σ s = .ok J s2 := by rw [e_rng1, h]; exact h1
def WipeTo (σ : EV) (own : List Nat) (σ1 : EV) : Prop := wipeD σ own = σ1
theorem wipe_of {own : List Nat} (h : wipeD σ own = σ1) : WipeTo σ own σ1 := h
def EnvOf (n : Nat) (ds : List D) (σ : EV) : Prop := ds.map some ++ List.replicate (n - ds.length) none = σ
theorem env_of {n : Nat} {ds : List D} (h : ds.map some ++ List.replicate (n - ds.length) none = σ) : EnvOf n ds σ := h
theorem x_tNm {i : Nat} (h : SetTo σ i d σ1) : tNm i d σ = some σ1 := congrArg some h
theorem x_tTup {gs : TFs} {ds : List D} (h : gs ds σ = some σ1) : tTup gs (.tup ds) σ = some σ1 := h
theorem x_tLst {gs : TFs} {ds : List D} (h : gs ds σ = some σ1) : tLst gs (.lst ds) σ = some σ1 := h
theorem x_tNil : tNil [] σ = some σ := rfl
theorem x_tCns {g : TF} {gs : TFs} {ds : List D} (h : g d σ = some σ2) (h2 : gs ds σ2 = some σ1) : tCns g gs (d :: ds) σ = some σ1 := by unfold tCns; simp only [h]; exact h2
theorem xl_0 : ([] : List D).length = 0 := rfl
theorem xl_1 {a : D} : [a].length = 1 := rfl
theorem xl_2 {a1 a2 : D} : [a1, a2].length = 2 := rfl
theorem xl_3 {a1 a2 a3 : D} : [a1, a2, a3].length = 3 := rfl
theorem xl_4 {a1 a2 a3 a4 : D} : [a1, a2, a3, a4].length = 4 := rfl
theorem xl_5 {a1 a2 a3 a4 a5 : D} : [a1, a2, a3, a4, a5].length = 5 := rfl
theorem xt_lst {xs : List D} : isT "list" (.lst xs) s = true := rfl
theorem xt_sls {xs : List D} : isT "list" (.sls xs) s = true := rfl
theorem xt_str {z : Str} : isT "str" (.str z) s = true := rfl
theorem x_lc {own : List Nat} {f : EV → M Src} {g : TF} {t : EV → M Bool} {e : EV → M D} {k : List D → M D} {ds : List D} (h : f σ s = .ok (fix ds) s1) (hw : WipeTo σ own σ1) (h1 : cmpL g t e σ1 ds [] s1 = .ok ys s2) (h2 : k ys s2 = .ok d s3) : mLc own f g t e k σ s = .ok d s3 := by
  rw [e_lc, h, e_bok, e_bnd, e_nox, show wipeD σ own = σ1 from hw, e_cmpfix, h1]; exact h2
theorem x_nox {m : M α} {a : α} (h : m s = .ok a s1) : nox m s = .ok a s1 := by rw [e_nox, h]; rfl
theorem x_fld {cs : List Str} {f : Str} {fo : EV → M D} (h : fo σ s = .ok x s1) (h1 : gFld cs f x s1 = .ok d s2) : mFld cs f fo σ s = .ok d s2 := by unfold mFld; rw [e_bnd, h]; exact h1
/-! statements -/
theorem x_seq {F G : SM} (h : F σ s = r1) (h2 : seqR r1 G = r) : sSeq F G σ s = r := by rw [e_seq, h]; exact h2
theorem x_snx {G : SM} (h : G σ s = r) : seqR (.go .nx σ s) G = r := h
theorem x_srt {G : SM} (d : D) : seqR (.go (.rt d) σ s) G = .go (.rt d) σ s := rfl
theorem x_nx : sNx σ s = .go .nx σ s := rfl
theorem x_bk : sBk σ s = .go .bk σ s := rfl
theorem x_ct : sCt σ s = .go .ct σ s := rfl
theorem x_ex {f : EV → M D} (h : f σ s = .ok d s1) : sEx f σ s = .go .nx σ s1 := by rw [e_ex, h]; rfl
theorem x_rt {f : EV → M D} (h : f σ s = .ok d s1) : sRt f σ s = .go (.rt d) σ s1 := by rw [e_rt, h]; rfl
theorem x_set {i : Nat} {f : EV → M D} (h : f σ s = .ok d s1) (hσ : SetTo σ i d σ1) : sSet i f σ s = .go .nx σ1 s1 := by rw [e_set, h, ← show _ = _ from hσ]; rfl
theorem x_par {i j : Nat} {f g : EV → M D} (h : f σ s = .ok x s1) (h2 : g σ s1 = .ok y s2) (hσ : SetTo σ i x σ2) (hσ2 : SetTo σ2 j y σ1) : sPar i j f g σ s = .go .nx σ1 s2 := by
  rw [e_par, h, e_bok, e_bnd, h2, ← show _ = _ from hσ2, ← show _ = _ from hσ]; rfl
theorem x_if {p : EV → M Bool} {F G : SM} (h : p σ s = .ok b s1) (h2 : (if b = true then F σ s1 else G σ s1) = r) : sIf p F G σ s = r := by rw [e_if, h, e_lok]; exact h2
theorem x_asg {g : TF} {f : EV → M D} (h : f σ s = .ok d s1) (h2 : g d σ = some σ1) : sAsg g f σ s = .go .nx σ1 s1 := by rw [e_asg, h, e_lok, h2]; rfl
theorem x_for {f : EV → M Src} {g : TF} {F : SM} {ds : List D} (h : f σ s = .ok (fix ds) s1) (h2 : forL (bdy g F) ds σ s1 = r) : sFor f g F σ s = r := by rw [e_sFor, h, e_lok, e_forfix]; exact h2
theorem x_bdy {g : TF} {F : SM} (h : g d σ = some σ1) (h2 : F σ1 s = r) : bdy g F d σ s = r := by unfold bdy; rw [h]; exact h2
theorem x_run {n : Nat} {B : SM} {ds : List D} (hσ : EnvOf n ds σ) (h : B σ s = r) (h2 : retOf r = .ok d s1) : runB n B ds s = .ok d s1 := by rw [f_run, show _ = _ from hσ, h]; exact h2
theorem x_kLst {xs : List D} (h : xs.length ≤ lim) : kLst xs s = .ok (.lst xs) s := if_pos h
theorem x_kTup {xs : List D} (h : xs.length ≤ lim) : kTup xs s = .ok (.tup xs) s := if_pos h
theorem x_kLstS {xs : List D} (h : xs.length ≤ lim) : kLstS xs s = .ok (.ref s.length) (s ++ [.lst xs]) := if_pos h
theorem x_isi {c : String} (h : isiO (tyN s x) c s = .ok d s1) : cIsi [x, .ty c] s = .ok d s1 := by rw [f_isi]; exact h
theorem x_ix {xs : List D} {i : Int} (h : atI xs i = some d) : dIx (.lst xs) (.int i) s = .ok d s := v_ixL xs i h
theorem x_addL {a b : List D} (h : a.length + b.length ≤ lim) : dAddT (.lst a) (.lst b) s = .ok (.lst (a ++ b)) s := by
  show dAdd (.lst a) (.lst b) s = _
  exact v_addL a b h
theorem x_addTp {a b : List D} (h : a.length + b.length ≤ lim) : dAddT (.tup a) (.tup b) s = .ok (.tup (a ++ b)) s := by
  unfold dAddT; simp only [h, ↓reduceIte]
theorem x_addTI (i j : Int) : dAddT (.int i) (.int j) s = .ok (.int (i + j)) s := rfl
theorem x_slT (xs : List D) (lo hi : Option Int) : dSlT (.tup xs) lo hi s = .ok (.tup (cutD xs lo hi)) s := rfl
theorem x_slL (xs : List D) (lo hi : Option Int) : dSlT (.lst xs) lo hi s = .ok (.lst (cutD xs lo hi)) s := rfl
theorem x_asgH {g : SGT} {f : EV → M D} (h : f σ s = .ok d s1) (h2 : g d σ s1 = .go .nx σ1 s2) : sAsgH g f σ s = .go .nx σ1 s2 := by
  rw [h_asgH, h, e_lok, h2]; rfl
theorem x_hTup {n : Nat} {gs : List D → SM} {ds : List D} (hl : ds.length = n) (h : gs ds σ s = r) : hTup n gs (.tup ds) σ s = r := by
  show (if ds.length = n then gs ds σ s else .bad) = r
  rw [if_pos hl]; exact h
theorem x_hsNil : hsNil [] σ s = .go .nx σ s := rfl
theorem x_hsCns {g : SGT} {gs : List D → SM} {ds : List D} (h : g d σ s = .go .nx σ1 s1) (h2 : gs ds σ1 s1 = r) : hsCns g gs (d :: ds) σ s = r := by
  unfold hsCns; simp only [h]; exact h2
theorem x_hIx {fo fi : EV → M D} (h : fo σ s = .ok x s1) (h1 : fi σ s1 = .ok y s2) (h2 : dSetL x y d s2 = some s3) : hIx fo fi d σ s = .go .nx σ s3 := by
  unfold hIx; rw [e_bnd, h, e_bok, e_bnd, h1, e_bok, e_ret, e_lok]; simp only [h2]; rfl
theorem x_hNm {i : Nat} (h : SetTo σ i d σ1) : hNm i d σ s = .go .nx σ1 s := by unfold hNm; rw [show _ = _ from h]
theorem x_hFld {cs : List Str} {f : Str} {fo : EV → M D} (h : fo σ s = .ok x s1) (h1 : putAt cs f x d s1 = some s2) : hFld cs f fo d σ s = .go .nx σ s2 := by
  unfold hFld; rw [h, e_lok, h1]; rfl
theorem x_setix {f fo fi : EV → M D} (h : f σ s = .ok d s1) (h1 : fo σ s1 = .ok x s2) (h2 : fi σ s2 = .ok y s3) (h3 : dSetL x y d s3 = some s4) : sSetIx f fo fi σ s = .go .nx σ s4 := by
  rw [f_setix, h, e_bok, e_bnd, h1, e_bok, e_bnd, h2, e_bok, e_ret, e_lok]; simp only [h3]; rfl
theorem x_aug {i : Nat} {o : D → D → M D} {f : EV → M D} (h0 : σ[i]? = some (some x)) (h : f σ s = .ok y s1) (h1 : o x y s1 = .ok z s2) (h2 : SetTo σ i z σ1) : sAug i o f σ s = .go .nx σ1 s2 := by
  rw [e_aug i o f h0, h, e_bok, e_nox, h1, e_nok, e_lok, show _ = _ from h2]
theorem x_fzF {F : List D → M D} (h : F xs s = .ok x s1) (h1 : frzR s (.ok x s1) = .ok d s2) : fzF F xs s = .ok d s2 := by rw [e_fzF, h]; exact h1
theorem x_fzE {f : EV → M D} (h : f σ s = .ok x s1) (h1 : frzR s (.ok x s1) = .ok d s2) : fzE f σ s = .ok d s2 := by rw [e_fz, h]; exact h1
theorem x_ok {a : α} : (Res.ok a s : Res α) = .ok a s := rfl
theorem x_go {f : Fl} : SRes.go f σ s = .go f σ s := rfl
end
end RQ

namespace RQ.Lw
open PySem PySem.Spec PyProof.Rows L2
def topS (i : Nat) : Stmt := PySem.Challenge.pw_rowqueue_k12_plans_of_any_value.main.body.getD i (.Pass ⟨0, 0, 0, 0⟩)
abbrev st_is_part : Stmt := topS 4
theorem sc_is_part : FnScope ["thing", "word"] ["thing"] (defScope st_is_part) := ⟨rfl, rfl, rfl, by decide +kernel, rfl, by decide +kernel, by decide +kernel⟩
abbrev st_place_of : Stmt := topS 6
theorem sc_place_of : FnScope ["plan", "word", "at", "part"] ["plan", "word"] (defScope st_place_of) := ⟨rfl, rfl, rfl, by decide +kernel, rfl, by decide +kernel, by decide +kernel⟩
abbrev st_l_bag : Stmt := topS 8
theorem sc_l_bag : FnScope ["_law_script", "_law_cell"] ["_law_script"] (defScope st_l_bag) := ⟨rfl, rfl, rfl, by decide +kernel, rfl, by decide +kernel, by decide +kernel⟩
abbrev st_l_take : Stmt := topS 9
theorem sc_l_take : FnScope ["_law_bag_here", "_law_many", "_law_first", "_law_second", "_law_cell", "_law_value"] ["_law_bag_here", "_law_many"] (defScope st_l_take) := ⟨rfl, rfl, rfl, by decide +kernel, rfl, by decide +kernel, by decide +kernel⟩
abbrev st_l_alike : Stmt := topS 10
theorem sc_l_alike : FnScope ["_law_found", "_law_due"] ["_law_found", "_law_due"] (defScope st_l_alike) := ⟨rfl, rfl, rfl, by decide +kernel, rfl, by decide +kernel, by decide +kernel⟩
abbrev st_l_is_plan : Stmt := topS 12
theorem sc_l_is_plan : FnScope ["_law_thing", "_law_words", "_law_part", "_law_word"] ["_law_thing"] (defScope st_l_is_plan) := ⟨rfl, rfl, rfl, by decide +kernel, rfl, by decide +kernel, by decide +kernel⟩
abbrev st_is_plan : Stmt := topS 5
theorem sc_is_plan : FnScope ["thing", "words", "part", "word"] ["thing"] (defScope st_is_plan) := ⟨rfl, rfl, rfl, by decide +kernel, rfl, by decide +kernel, by decide +kernel⟩
abbrev st_l_plan : Stmt := topS 11
theorem sc_l_plan : FnScope ["_law_bag_here", "_law_words", "_law_word", "_law_turned", "_law_parts"] ["_law_bag_here"] (defScope st_l_plan) := ⟨rfl, rfl, rfl, by decide +kernel, rfl, by decide +kernel, by decide +kernel⟩
abbrev st_l_spoilt_part : Stmt := topS 13
theorem sc_l_spoilt_part : FnScope ["_law_bag_here", "_law_part", "_law_at", "_law_odd", "_law_some"] ["_law_bag_here", "_law_part"] (defScope st_l_spoilt_part) := ⟨rfl, rfl, rfl, by decide +kernel, rfl, by decide +kernel, by decide +kernel⟩
abbrev st_l_spoilt : Stmt := topS 14
theorem sc_l_spoilt : FnScope ["_law_bag_here", "_law_plan_here", "_law_way", "_law_at", "_law_to", "_law_found", "_law_word"] ["_law_bag_here", "_law_plan_here"] (defScope st_l_spoilt) := ⟨rfl, rfl, rfl, by decide +kernel, rfl, by decide +kernel, by decide +kernel⟩
abbrev st_l_right : Stmt := topS 15
theorem sc_l_right : FnScope ["_law_thing", "_law_kept", "_law_again"] ["_law_thing"] (defScope st_l_right) := ⟨rfl, rfl, rfl, by decide +kernel, rfl, by decide +kernel, by decide +kernel⟩
abbrev st_law : Stmt := topS 16
theorem sc_law : FnScope ["_law_script", "_law_bag_here", "_law_turn", "_law_plan_here", "_law_handed", "_law_word", "_law_k", "_law_due", "_law_thing", "_law_part", "_law_at"] ["_law_script"] (defScope st_law) := ⟨rfl, rfl, rfl, by decide +kernel, rfl, by decide +kernel, by decide +kernel⟩
/-! the mirrors -/
noncomputable def E_is_part_1_60 : EV → M D :=
  (vAnd (mC cIsi (aCons (vGet 1) (aCons (cst (.ty "str")) aNil))) (m2 dInD (vGet 1) (cst (.tup [(.str "check"), (.str "effect"), (.str "finish"), (.str "follow")]))))
noncomputable def S_is_part_1 : SM :=
  (sRt (vAnd (mC cIsi (aCons (vGet 0) (aCons (cst (.ty "tuple")) aNil))) (vAnd (m2 dNe (vGet 0) (fun σ => bnd (aNil σ) kTup)) (mC cAll (aCons (mLc [1] (mSrc (vGet 0)) (tNm 1) yes E_is_part_1_60 kF) aNil)))))
noncomputable def B_is_part : SM :=
  S_is_part_1
noncomputable def m_is_part : List D → M D := runB 2 B_is_part
noncomputable def S_place_of_3 : SM :=
  (sRt (vGet 2))
noncomputable def S_place_of_2 : SM :=
  (sIf (tst (m2 dInD (vGet 1) (vGet 3)))
  S_place_of_3
  sNx)
noncomputable def S_place_of_1 : SM :=
  (sFor (mEnum (vGet 0)) (tTup (tCns (tNm 2) (tCns (tNm 3) tNil)))
  S_place_of_2)
noncomputable def S_place_of_4 : SM :=
  (sRt (cst .non))
noncomputable def B_place_of : SM :=
  (sSeq S_place_of_1
  S_place_of_4)
noncomputable def m_place_of : List D → M D := runB 4 B_place_of
noncomputable def E_l_bag_1_30 : EV → M D :=
  (mC cAbs (aCons (vGet 1) aNil))
noncomputable def S_l_bag_1 : SM :=
  (sRt (fun σ => bnd ((aCons (cst (.int 0)) (aCons (cst (.int 1234567891)) (aCons (cst (.int 0)) (aCons (mLc [1] (mSrc (mSl dSl (vGet 0) oNo (oSo (cst (.int 63))))) (tNm 1) yes E_l_bag_1_30 kF) aNil)))) σ) kLstS))
noncomputable def B_l_bag : SM :=
  S_l_bag_1
noncomputable def m_l_bag : List D → M D := runB 2 B_l_bag
noncomputable def S_l_take_2 : SM :=
  (sSet 4 (cst (.int 0)))
noncomputable def S_l_take_4 : SM :=
  (sSet 4 (m2 dIx (m2 dIx (vGet 0) (cst (.int 3))) (m2 dIx (vGet 0) (cst (.int 2)))))
noncomputable def S_l_take_3 : SM :=
  (sIf (tst (m2 dLt (m2 dIx (vGet 0) (cst (.int 2))) (mC cLen (aCons (m2 dIx (vGet 0) (cst (.int 3))) aNil))))
  S_l_take_4
  sNx)
noncomputable def S_l_take_5 : SM :=
  (sAugIx dAddI (vGet 0) (cst (.int 2)) (cst (.int 1)))
noncomputable def S_l_take_7 : SM :=
  (sSetIx (vGet 4) (vGet 0) (cst (.int 0)))
noncomputable def S_l_take_6 : SM :=
  (sIf (tst (m2 dGe (vGet 4) (cst (.int 1000000000000000000))))
  S_l_take_7
  sNx)
noncomputable def S_l_take_8 : SM :=
  (sSetIx (m2 dMod (m2 dAdd (m2 dAdd (m2 dMul (m2 dIx (vGet 0) (cst (.int 1))) (cst (.int 48271))) (m2 dMod (vGet 4) (cst (.int 2147483647)))) (m2 dMul (cst (.int 7919)) (m2 dIx (vGet 0) (cst (.int 2))))) (cst (.int 2147483647))) (vGet 0) (cst (.int 1)))
noncomputable def S_l_take_1 : SM :=
  (sIf (tst (m2 dEq (m2 dIx (vGet 0) (cst (.int 0))) (cst (.int 0))))
  (sSeq S_l_take_2
  (sSeq S_l_take_3
  (sSeq S_l_take_5
  (sSeq S_l_take_6
  S_l_take_8))))
  sNx)
noncomputable def S_l_take_10 : SM :=
  (sSet 5 (m2 dMod (m2 dIx (vGet 0) (cst (.int 0))) (vGet 1)))
noncomputable def S_l_take_11 : SM :=
  (sSetIx (m2 dDiv (m2 dIx (vGet 0) (cst (.int 0))) (vGet 1)) (vGet 0) (cst (.int 0)))
noncomputable def S_l_take_12 : SM :=
  (sRt (vGet 5))
noncomputable def S_l_take_9 : SM :=
  (sIf (tst (m2 dGt (m2 dIx (vGet 0) (cst (.int 0))) (cst (.int 0))))
  (sSeq S_l_take_10
  (sSeq S_l_take_11
  S_l_take_12))
  sNx)
noncomputable def S_l_take_13 : SM :=
  (sSet 2 (m2 dMod (m2 dMul (m2 dAdd (m2 dIx (vGet 0) (cst (.int 1))) (cst (.int 1))) (cst (.int 39373))) (cst (.int 1000000007))))
noncomputable def S_l_take_14 : SM :=
  (sSet 3 (m2 dMod (m2 dMul (m2 dMod (m2 dMul (vGet 2) (vGet 2)) (cst (.int 998244353))) (cst (.int 30011))) (cst (.int 998244353))))
noncomputable def S_l_take_16 : SM :=
  (sRt (m2 dMod (m2 dAdd (m2 dMul (vGet 3) (cst (.int 1000000007))) (vGet 2)) (vGet 1)))
noncomputable def S_l_take_15 : SM :=
  (sIf (tst (m2 dGt (vGet 1) (cst (.int 1000000))))
  S_l_take_16
  sNx)
noncomputable def S_l_take_17 : SM :=
  (sRt (m2 dMod (m2 dDiv (vGet 3) (cst (.int 7))) (vGet 1)))
noncomputable def B_l_take : SM :=
  (sSeq S_l_take_1
  (sSeq S_l_take_9
  (sSeq S_l_take_13
  (sSeq S_l_take_14
  (sSeq S_l_take_15
  S_l_take_17)))))
noncomputable def m_l_take : List D → M D := runB 6 B_l_take
noncomputable def S_l_alike_1 : SM :=
  (sRt (vAnd (m2 dEq (vGet 0) (vGet 1)) (m2 dEq (mC cRepr (aCons (vGet 0) aNil)) (mC cRepr (aCons (vGet 1) aNil)))))
noncomputable def B_l_alike : SM :=
  S_l_alike_1
noncomputable def m_l_alike : List D → M D := runB 2 B_l_alike
noncomputable def S_l_is_plan_2 : SM :=
  (sRt (cst (.bl false)))
noncomputable def S_l_is_plan_1 : SM :=
  (sIf (mOr (mNot (tst (mC cIsi (aCons (vGet 0) (aCons (cst (.ty "list")) aNil))))) (mOr (tst (m2 dLt (mC cLen (aCons (vGet 0) aNil)) (cst (.int 2)))) (tst (m2 dGt (mC cLen (aCons (vGet 0) aNil)) (cst (.int 5))))))
  S_l_is_plan_2
  sNx)
noncomputable def T_l_is_plan_3_7 : EV → M Bool :=
  (mOr (mNot (tst (mC cIsi (aCons (vGet 2) (aCons (cst (.ty "tuple")) aNil))))) (tst (m2 dEq (vGet 2) (fun σ => bnd (aNil σ) kTup))))
noncomputable def E_l_is_plan_3_7 : EV → M D :=
  (vGet 2)
noncomputable def S_l_is_plan_4 : SM :=
  (sRt (cst (.bl false)))
noncomputable def S_l_is_plan_3 : SM :=
  (sIf (mOr (tst (m2 dNe (mLc [2] (mSrc (vGet 0)) (tNm 2) T_l_is_plan_3_7 E_l_is_plan_3_7 kF) (fun σ => bnd (aNil σ) kLst))) (tst (m2 dNe (m2 dIx (vGet 0) (cst (.int 0))) (fun σ => bnd ((aCons (cst (.str "take")) aNil) σ) kTup))))
  S_l_is_plan_4
  sNx)
noncomputable def S_l_is_plan_5 : SM :=
  (sSet 1 (fun σ => bnd (aNil σ) kLstS))
noncomputable def S_l_is_plan_7 : SM :=
  (sEx (mM "list" mExtend (vGet 1) (aCons (vGet 2) aNil)))
noncomputable def S_l_is_plan_6 : SM :=
  (sFor (mSrc (mSl dSlT (vGet 0) (oSo (cst (.int 1))) oNo)) (tNm 2)
  S_l_is_plan_7)
noncomputable def T_l_is_plan_8_7 : EV → M Bool :=
  (tst (m2 dNotInD (vGet 3) (fun σ => bnd ((aCons (cst (.str "check")) (aCons (cst (.str "effect")) (aCons (cst (.str "finish")) (aCons (cst (.str "follow")) aNil)))) σ) kLst)))
noncomputable def E_l_is_plan_8_7 : EV → M D :=
  (vGet 3)
noncomputable def S_l_is_plan_9 : SM :=
  (sRt (cst (.bl false)))
noncomputable def S_l_is_plan_8 : SM :=
  (sIf (tst (m2 dNe (mLc [3] (mSrc (vGet 1)) (tNm 3) T_l_is_plan_8_7 E_l_is_plan_8_7 kF) (fun σ => bnd (aNil σ) kLst)))
  S_l_is_plan_9
  sNx)
noncomputable def S_l_is_plan_11 : SM :=
  (sRt (cst (.bl false)))
noncomputable def S_l_is_plan_10 : SM :=
  (sIf (mOr (tst (m2 dNe (mM "list" mCount (vGet 1) (aCons (cst (.str "effect")) aNil)) (cst (.int 1)))) (tst (m2 dNe (mM "list" mCount (vGet 1) (aCons (cst (.str "finish")) aNil)) (cst (.int 1)))))
  S_l_is_plan_11
  sNx)
noncomputable def S_l_is_plan_12 : SM :=
  (sRt (vAnd (m2 dLt (mM "list" mCount (vGet 1) (aCons (cst (.str "check")) aNil)) (cst (.int 2))) (m2 dLt (mM "list" mCount (vGet 1) (aCons (cst (.str "follow")) aNil)) (cst (.int 2)))))
noncomputable def B_l_is_plan : SM :=
  (sSeq S_l_is_plan_1
  (sSeq S_l_is_plan_3
  (sSeq S_l_is_plan_5
  (sSeq S_l_is_plan_6
  (sSeq S_l_is_plan_8
  (sSeq S_l_is_plan_10
  S_l_is_plan_12))))))
noncomputable def m_l_is_plan : List D → M D := fzF (runB 4 B_l_is_plan)
noncomputable def S_is_plan_2 : SM :=
  (sRt (cst (.bl false)))
noncomputable def S_is_plan_1 : SM :=
  (sIf (mOr (mNot (tst (mC cIsi (aCons (vGet 0) (aCons (cst (.ty "list")) aNil))))) (mOr (mNot (tst (chn dLe dLe (cst (.int 2)) (mC cLen (aCons (vGet 0) aNil)) (cst (.int 5))))) (tst (m2 dNe (m2 dIx (vGet 0) (cst (.int 0))) (cst (.tup [(.str "take")]))))))
  S_is_plan_2
  sNx)
noncomputable def E_is_plan_3_15 : EV → M D :=
  (mCall 1 m_is_part (aCons (vGet 2) aNil))
noncomputable def S_is_plan_4 : SM :=
  (sRt (cst (.bl false)))
noncomputable def S_is_plan_3 : SM :=
  (sIf (mNot (tst (mC cAll (aCons (mLc [2] (mSrc (mSl dSlT (vGet 0) (oSo (cst (.int 1))) oNo)) (tNm 2) yes E_is_plan_3_15 kF) aNil))))
  S_is_plan_4
  sNx)
noncomputable def E_is_plan_5_12 : EV → M D :=
  (vGet 3)
noncomputable def S_is_plan_5 : SM :=
  (sSet 1 (mLc2 [2, 3] [3] (mSrc (mSl dSlT (vGet 0) (oSo (cst (.int 1))) oNo)) (tNm 2) yes (mSrc (vGet 2)) (tNm 3) yes E_is_plan_5_12 kF))
noncomputable def S_is_plan_7 : SM :=
  (sRt (cst (.bl false)))
noncomputable def S_is_plan_6 : SM :=
  (sIf (mOr (tst (m2 dNe (mM "list" mCount (vGet 1) (aCons (cst (.str "effect")) aNil)) (cst (.int 1)))) (tst (m2 dNe (mM "list" mCount (vGet 1) (aCons (cst (.str "finish")) aNil)) (cst (.int 1)))))
  S_is_plan_7
  sNx)
noncomputable def S_is_plan_8 : SM :=
  (sRt (vAnd (m2 dLt (mM "list" mCount (vGet 1) (aCons (cst (.str "check")) aNil)) (cst (.int 2))) (m2 dLt (mM "list" mCount (vGet 1) (aCons (cst (.str "follow")) aNil)) (cst (.int 2)))))
noncomputable def B_is_plan : SM :=
  (sSeq S_is_plan_1
  (sSeq S_is_plan_3
  (sSeq S_is_plan_5
  (sSeq S_is_plan_6
  S_is_plan_8))))
noncomputable def m_is_plan : List D → M D := runB 4 B_is_plan
noncomputable def S_l_plan_1 : SM :=
  (sSet 1 (m2 dAddT (fun σ => bnd ((aCons (cst (.str "effect")) (aCons (cst (.str "finish")) aNil)) σ) kLst) (m2 dMul (fun σ => bnd ((aCons (cst (.str "check")) aNil) σ) kLst) (mC cInt (aCons (m2 dEq (mCall 2 m_l_take (aCons (vGet 0) (aCons (cst (.int 2)) aNil))) (cst (.int 0))) aNil)))))
noncomputable def S_l_plan_2 : SM :=
  (sSet 1 (m2 dAddT (vGet 1) (m2 dMul (fun σ => bnd ((aCons (cst (.str "follow")) aNil) σ) kLst) (mC cInt (aCons (m2 dEq (mCall 2 m_l_take (aCons (vGet 0) (aCons (cst (.int 4)) aNil))) (cst (.int 0))) aNil)))))
noncomputable def S_l_plan_3 : SM :=
  (sPar 3 4 (fun σ => bnd (aNil σ) kLstS) (fun σ => bnd (aNil σ) kLstS))
noncomputable def S_l_plan_5 : SM :=
  (sEx (mM "list" mInsert (vGet 3) (aCons (mCall 2 m_l_take (aCons (vGet 0) (aCons (m2 dAddT (mC cLen (aCons (vGet 3) aNil)) (cst (.int 1))) aNil))) (aCons (vGet 2) aNil))))
noncomputable def S_l_plan_4 : SM :=
  (sFor (mSrc (vGet 1)) (tNm 2)
  S_l_plan_5)
noncomputable def S_l_plan_8 : SM :=
  (sEx (mM "list" mAppend (vGet 4) (aCons (fun σ => bnd (aNil σ) kLstS) aNil)))
noncomputable def S_l_plan_7 : SM :=
  (sIf (mOr (tst (m2 dEq (vGet 4) (fun σ => bnd (aNil σ) kLst))) (tst (m2 dGt (mCall 2 m_l_take (aCons (vGet 0) (aCons (cst (.int 3)) aNil))) (cst (.int 0)))))
  S_l_plan_8
  sNx)
noncomputable def S_l_plan_9 : SM :=
  (sEx (mM "list" mAppend (m2 dIx (vGet 4) (m1 dNeg (cst (.int 1)))) (aCons (vGet 2) aNil)))
noncomputable def S_l_plan_6 : SM :=
  (sFor (mSrc (vGet 3)) (tNm 2)
  (sSeq S_l_plan_7
  S_l_plan_9))
noncomputable def S_l_plan_10 : SM :=
  (sRt (m2 dAddT (fun σ => bnd ((aCons (fun σ => bnd ((aCons (cst (.str "take")) aNil) σ) kLst) aNil) σ) kLst) (vGet 4)))
noncomputable def B_l_plan : SM :=
  (sSeq S_l_plan_1
  (sSeq S_l_plan_2
  (sSeq S_l_plan_3
  (sSeq S_l_plan_4
  (sSeq S_l_plan_6
  S_l_plan_10)))))
noncomputable def m_l_plan : List D → M D := fzF (runB 5 B_l_plan)
noncomputable def S_l_spoilt_part_1 : SM :=
  (sSet 2 (mCall 2 m_l_take (aCons (vGet 0) (aCons (m2 dAddT (mC cLen (aCons (vGet 1) aNil)) (cst (.int 1))) aNil))))
noncomputable def S_l_spoilt_part_2 : SM :=
  (sSet 3 (fun σ => bnd ((aCons (cst (.str "take")) (aCons (cst (.str "check")) (aCons (cst (.str "follow")) (aCons (cst (.str "effect")) (aCons (cst (.str "Finish")) (aCons (cst (.str "")) (aCons (cst .non) (aCons (cst (.int 1)) (aCons (cst (.bl true)) (aCons (fun σ => bnd ((aCons (cst (.str "effect")) aNil) σ) kTup) (aCons (fun σ => bnd ((aCons (cst (.str "check")) aNil) σ) kLst) (aCons (cst (.str "effect+follow")) aNil)))))))))))) σ) kLst))
noncomputable def S_l_spoilt_part_3 : SM :=
  (sSet 3 (m2 dIx (vGet 3) (mCall 2 m_l_take (aCons (vGet 0) (aCons (cst (.int 12)) aNil)))))
noncomputable def S_l_spoilt_part_4 : SM :=
  (sSet 4 (fun σ => bnd ((aCons (m2 dAddT (m2 dAddT (mSl dSlT (vGet 1) oNo (oSo (vGet 2))) (fun σ => bnd ((aCons (vGet 3) aNil) σ) kTup)) (mSl dSlT (vGet 1) (oSo (vGet 2)) oNo)) (aCons (m2 dAddT (m2 dAddT (mSl dSlT (vGet 1) oNo (oSo (vGet 2))) (fun σ => bnd ((aCons (vGet 3) aNil) σ) kTup)) (mSl dSlT (vGet 1) (oSo (m2 dAddT (vGet 2) (cst (.int 1)))) oNo)) (aCons (m2 dAddT (mSl dSlT (vGet 1) oNo (oSo (vGet 2))) (mSl dSlT (vGet 1) (oSo (m2 dAddT (vGet 2) (cst (.int 1)))) oNo)) aNil))) σ) kLst))
noncomputable def S_l_spoilt_part_5 : SM :=
  (sRt (m2 dIx (m2 dAddT (vGet 4) (fun σ => bnd ((aCons (mRev (vGet 1)) (aCons (m2 dAddT (vGet 1) (mSl dSlT (vGet 1) oNo (oSo (cst (.int 1))))) (aCons (mC (cList kF) (aCons (vGet 1) aNil)) (aCons (fun σ => bnd (aNil σ) kTup) (aCons (mM "str" mJoin (cst (.str "+")) (aCons (vGet 1) aNil)) (aCons (vGet 3) aNil)))))) σ) kLst)) (mCall 2 m_l_take (aCons (vGet 0) (aCons (cst (.int 9)) aNil)))))
noncomputable def B_l_spoilt_part : SM :=
  (sSeq S_l_spoilt_part_1
  (sSeq S_l_spoilt_part_2
  (sSeq S_l_spoilt_part_3
  (sSeq S_l_spoilt_part_4
  S_l_spoilt_part_5))))
noncomputable def m_l_spoilt_part : List D → M D := runB 5 B_l_spoilt_part
noncomputable def S_l_spoilt_1 : SM :=
  (sPar 3 4 (mCall 2 m_l_take (aCons (vGet 0) (aCons (mC cLen (aCons (vGet 1) aNil)) aNil))) (mCall 2 m_l_take (aCons (vGet 0) (aCons (mC cLen (aCons (vGet 1) aNil)) aNil))))
noncomputable def S_l_spoilt_2 : SM :=
  (sSet 2 (mCall 2 m_l_take (aCons (vGet 0) (aCons (cst (.int 9)) aNil))))
noncomputable def S_l_spoilt_4 : SM :=
  (sRt (m2 dIx (fun σ => bnd ((aCons (cst .non) (aCons (mC cTuple (aCons (vGet 1) aNil)) (aCons (cst (.dic [])) (aCons (cst (.str "take effect finish")) (aCons (cst (.int 5)) (aCons (fun σ => bnd (aNil σ) kLst) (aCons (fun σ => bnd ((aCons (vGet 1) aNil) σ) kLst) (aCons (fun σ => bnd ((aCons (fun σ => bnd ((aCons (cst (.str "take")) aNil) σ) kTup) aNil) σ) kLst) aNil)))))))) σ) kLst) (mCall 2 m_l_take (aCons (vGet 0) (aCons (cst (.int 8)) aNil)))))
noncomputable def S_l_spoilt_3 : SM :=
  (sIf (tst (m2 dEq (vGet 2) (cst (.int 0))))
  S_l_spoilt_4
  sNx)
noncomputable def S_l_spoilt_6 : SM :=
  (sRt (m2 dAddT (mSl dSlT (vGet 1) oNo (oSo (vGet 3))) (mSl dSlT (vGet 1) (oSo (m2 dAddT (vGet 3) (cst (.int 1)))) oNo)))
noncomputable def S_l_spoilt_5 : SM :=
  (sIf (tst (m2 dEq (vGet 2) (cst (.int 1))))
  S_l_spoilt_6
  sNx)
noncomputable def S_l_spoilt_8 : SM :=
  (sRt (m2 dAddT (m2 dAddT (mSl dSlT (vGet 1) oNo (oSo (vGet 3))) (mSl dSlT (vGet 1) (oSo (vGet 3)) (oSo (m2 dAddT (vGet 3) (cst (.int 1)))))) (mSl dSlT (vGet 1) (oSo (vGet 3)) oNo)))
noncomputable def S_l_spoilt_7 : SM :=
  (sIf (tst (m2 dEq (vGet 2) (cst (.int 2))))
  S_l_spoilt_8
  sNx)
noncomputable def S_l_spoilt_10 : SM :=
  (sSet 5 (mC (cList kS) (aCons (vGet 1) aNil)))
noncomputable def S_l_spoilt_11 : SM :=
  (sAsgH (hTup 2 (hsCns (hIx (vGet 5) (vGet 3)) (hsCns (hIx (vGet 5) (vGet 4)) hsNil))) (fun σ => bnd ((aCons (m2 dIx (vGet 5) (vGet 4)) (aCons (m2 dIx (vGet 5) (vGet 3)) aNil)) σ) kTup))
noncomputable def S_l_spoilt_12 : SM :=
  (sRt (vGet 5))
noncomputable def S_l_spoilt_9 : SM :=
  (sIf (tst (m2 dEq (vGet 2) (cst (.int 3))))
  (sSeq S_l_spoilt_10
  (sSeq S_l_spoilt_11
  S_l_spoilt_12))
  sNx)
noncomputable def S_l_spoilt_14 : SM :=
  (sRt (m2 dAddT (vGet 1) (mSl dSlT (mSl dSlT (fun σ => bnd ((aCons (fun σ => bnd ((aCons (cst (.str "check")) aNil) σ) kTup) (aCons (fun σ => bnd ((aCons (cst (.str "follow")) aNil) σ) kTup) (aCons (fun σ => bnd ((aCons (cst (.str "take")) aNil) σ) kTup) (aCons (fun σ => bnd (aNil σ) kTup) aNil)))) σ) kLst) (oSo (mCall 2 m_l_take (aCons (vGet 0) (aCons (cst (.int 4)) aNil)))) oNo) oNo (oSo (cst (.int 1))))))
noncomputable def S_l_spoilt_13 : SM :=
  (sIf (tst (m2 dEq (vGet 2) (cst (.int 4))))
  S_l_spoilt_14
  sNx)
noncomputable def T_l_spoilt_15_57 : EV → M Bool :=
  (mNot (tst (mC cIsi (aCons (vGet 6) (aCons (cst (.ty "str")) aNil)))))
noncomputable def E_l_spoilt_15_57 : EV → M D :=
  (vGet 6)
noncomputable def S_l_spoilt_16 : SM :=
  (sRt (mSl dSlT (vGet 1) (oSo (cst (.int 1))) oNo))
noncomputable def S_l_spoilt_15 : SM :=
  (sIf (mOr (mNot (tst (mC cIsi (aCons (m2 dIx (vGet 1) (vGet 3)) (aCons (cst (.ty "tuple")) aNil))))) (tst (m2 dNe (mLc [6] (mSrc (m2 dIx (vGet 1) (vGet 3))) (tNm 6) T_l_spoilt_15_57 E_l_spoilt_15_57 kF) (fun σ => bnd (aNil σ) kLst))))
  S_l_spoilt_16
  sNx)
noncomputable def S_l_spoilt_17 : SM :=
  (sRt (m2 dAddT (m2 dAddT (mSl dSlT (vGet 1) oNo (oSo (vGet 3))) (fun σ => bnd ((aCons (mCall 2 m_l_spoilt_part (aCons (vGet 0) (aCons (m2 dIx (vGet 1) (vGet 3)) aNil))) aNil) σ) kLst)) (mSl dSlT (vGet 1) (oSo (m2 dAddT (vGet 3) (cst (.int 1)))) oNo)))
noncomputable def B_l_spoilt : SM :=
  (sSeq S_l_spoilt_1
  (sSeq S_l_spoilt_2
  (sSeq S_l_spoilt_3
  (sSeq S_l_spoilt_5
  (sSeq S_l_spoilt_7
  (sSeq S_l_spoilt_9
  (sSeq S_l_spoilt_13
  (sSeq S_l_spoilt_15
  S_l_spoilt_17))))))))
noncomputable def m_l_spoilt : List D → M D := fzF (runB 7 B_l_spoilt)
noncomputable def S_l_right_1 : SM :=
  (sSet 1 (mC cRepr (aCons (vGet 0) aNil)))
noncomputable def S_l_right_4 : SM :=
  (sRt (cst (.bl false)))
noncomputable def S_l_right_3 : SM :=
  (sIf (mOr (mNot (tst (mCall 2 m_l_alike (aCons (mCall 1 m_is_plan (aCons (vGet 0) aNil)) (aCons (mCall 1 m_l_is_plan (aCons (vGet 0) aNil)) aNil))))) (tst (m2 dNe (mC cRepr (aCons (vGet 0) aNil)) (vGet 1))))
  S_l_right_4
  sNx)
noncomputable def S_l_right_2 : SM :=
  (sFor (mRng1 (cst (.int 2))) (tNm 2)
  S_l_right_3)
noncomputable def S_l_right_5 : SM :=
  (sRt (cst (.bl true)))
noncomputable def B_l_right : SM :=
  (sSeq S_l_right_1
  (sSeq S_l_right_2
  S_l_right_5))
noncomputable def m_l_right : List D → M D := runB 3 B_l_right
noncomputable def S_law_1 : SM :=
  (sSet 1 (mCall 1 m_l_bag (aCons (vGet 0) aNil)))
noncomputable def E_law_3_25 : EV → M D :=
  (mC cTuple (aCons (vGet 9) aNil))
noncomputable def S_law_3 : SM :=
  (sSet 3 (mLc [9] (mSrc (mCall 1 m_l_plan (aCons (vGet 1) aNil))) (tNm 9) yes E_law_3_25 kF))
noncomputable def S_law_4 : SM :=
  (sSet 4 (mC (cList kF) (aCons (vGet 3) aNil)))
noncomputable def T_law_6_23 : EV → M Bool :=
  (tst (m2 dInD (vGet 5) (m2 dIx (vGet 3) (vGet 10))))
noncomputable def E_law_6_23 : EV → M D :=
  (vGet 10)
noncomputable def S_law_6 : SM :=
  (sSet 7 (m2 dAddT (mLc [10] (mRng1 (mC cLen (aCons (vGet 3) aNil))) (tNm 10) T_law_6_23 E_law_6_23 kF) (fun σ => bnd ((aCons (cst .non) aNil) σ) kLst)))
noncomputable def S_law_8 : SM :=
  (sRt (cst (.bl false)))
noncomputable def S_law_7 : SM :=
  (sIf (mOr (mNot (tst (mCall 2 m_l_alike (aCons (mCall 2 m_place_of (aCons (vGet 4) (aCons (vGet 5) aNil))) (aCons (m2 dIx (vGet 7) (cst (.int 0))) aNil))))) (tst (m2 dNe (vGet 4) (vGet 3))))
  S_law_8
  sNx)
noncomputable def S_law_5 : SM :=
  (sFor (mSrc (fun σ => bnd ((aCons (cst (.str "take")) (aCons (cst (.str "check")) (aCons (cst (.str "effect")) (aCons (cst (.str "finish")) (aCons (cst (.str "follow")) (aCons (cst (.str "sell")) aNil)))))) σ) kLst)) (tNm 5)
  (sSeq S_law_6
  S_law_7))
noncomputable def S_law_10 : SM :=
  (sRt (cst (.bl false)))
noncomputable def S_law_9 : SM :=
  (sIf (mNot (tst (mCall 1 m_l_right (aCons (vGet 3) aNil))))
  S_law_10
  sNx)
noncomputable def S_law_12 : SM :=
  (sSet 8 (mCall 2 m_l_spoilt (aCons (vGet 1) (aCons (vGet 3) aNil))))
noncomputable def S_law_14 : SM :=
  (sSet 8 (mCall 2 m_l_spoilt (aCons (vGet 1) (aCons (vGet 8) aNil))))
noncomputable def S_law_13 : SM :=
  (sIf (mAnd (tst (mC cIsi (aCons (vGet 8) (aCons (cst (.ty "list")) aNil)))) (mAnd (tst (m2 dNe (vGet 8) (fun σ => bnd (aNil σ) kLst))) (tst (m2 dEq (mCall 2 m_l_take (aCons (vGet 1) (aCons (cst (.int 3)) aNil))) (cst (.int 0))))))
  S_law_14
  sNx)
noncomputable def S_law_16 : SM :=
  (sRt (cst (.bl false)))
noncomputable def S_law_15 : SM :=
  (sIf (mNot (tst (mCall 1 m_l_right (aCons (vGet 8) aNil))))
  S_law_16
  sNx)
noncomputable def S_law_11 : SM :=
  (sFor (mRng1 (cst (.int 4))) (tNm 6)
  (sSeq S_law_12
  (sSeq S_law_13
  S_law_15)))
noncomputable def S_law_2 : SM :=
  (sFor (mRng1 (cst (.int 6))) (tNm 2)
  (sSeq S_law_3
  (sSeq S_law_4
  (sSeq S_law_5
  (sSeq S_law_9
  S_law_11)))))
noncomputable def S_law_17 : SM :=
  (sRt (cst (.bl true)))
noncomputable def B_law : SM :=
  (sSeq S_law_1
  (sSeq S_law_2
  S_law_17))
noncomputable def m_law : List D → M D := runB 11 B_law
/-! instances that stay, read -/
/-! what the top has left -/
structure Txt (K : PySem.W.Frag) (mg : Str → Option Value) where
  a_is_part : Addr
  d_is_part : FuncData
  F_is_part : Fn K "is_part" "is_part" st_is_part a_is_part d_is_part
  g_is_part : mg "is_part" = some (.ref a_is_part)
  b_is_part : Binds K d_is_part ["thing"] []
  a_place_of : Addr
  d_place_of : FuncData
  F_place_of : Fn K "place_of" "place_of" st_place_of a_place_of d_place_of
  g_place_of : mg "place_of" = some (.ref a_place_of)
  b_place_of : Binds K d_place_of ["plan", "word"] []
  a_l_bag : Addr
  d_l_bag : FuncData
  F_l_bag : Fn K "_law_bag" "_law_bag" st_l_bag a_l_bag d_l_bag
  g_l_bag : mg "_law_bag" = some (.ref a_l_bag)
  b_l_bag : Binds K d_l_bag ["_law_script"] []
  a_l_take : Addr
  d_l_take : FuncData
  F_l_take : Fn K "_law_take" "_law_take" st_l_take a_l_take d_l_take
  g_l_take : mg "_law_take" = some (.ref a_l_take)
  b_l_take : Binds K d_l_take ["_law_bag_here", "_law_many"] []
  a_l_alike : Addr
  d_l_alike : FuncData
  F_l_alike : Fn K "_law_alike" "_law_alike" st_l_alike a_l_alike d_l_alike
  g_l_alike : mg "_law_alike" = some (.ref a_l_alike)
  b_l_alike : Binds K d_l_alike ["_law_found", "_law_due"] []
  a_l_is_plan : Addr
  d_l_is_plan : FuncData
  F_l_is_plan : Fn K "_law_is_plan" "_law_is_plan" st_l_is_plan a_l_is_plan d_l_is_plan
  g_l_is_plan : mg "_law_is_plan" = some (.ref a_l_is_plan)
  b_l_is_plan : Binds K d_l_is_plan ["_law_thing"] []
  a_is_plan : Addr
  d_is_plan : FuncData
  F_is_plan : Fn K "is_plan" "is_plan" st_is_plan a_is_plan d_is_plan
  g_is_plan : mg "is_plan" = some (.ref a_is_plan)
  b_is_plan : Binds K d_is_plan ["thing"] []
  a_l_plan : Addr
  d_l_plan : FuncData
  F_l_plan : Fn K "_law_plan" "_law_plan" st_l_plan a_l_plan d_l_plan
  g_l_plan : mg "_law_plan" = some (.ref a_l_plan)
  b_l_plan : Binds K d_l_plan ["_law_bag_here"] []
  a_l_spoilt_part : Addr
  d_l_spoilt_part : FuncData
  F_l_spoilt_part : Fn K "_law_spoilt_part" "_law_spoilt_part" st_l_spoilt_part a_l_spoilt_part d_l_spoilt_part
  g_l_spoilt_part : mg "_law_spoilt_part" = some (.ref a_l_spoilt_part)
  b_l_spoilt_part : Binds K d_l_spoilt_part ["_law_bag_here", "_law_part"] []
  a_l_spoilt : Addr
  d_l_spoilt : FuncData
  F_l_spoilt : Fn K "_law_spoilt" "_law_spoilt" st_l_spoilt a_l_spoilt d_l_spoilt
  g_l_spoilt : mg "_law_spoilt" = some (.ref a_l_spoilt)
  b_l_spoilt : Binds K d_l_spoilt ["_law_bag_here", "_law_plan_here"] []
  a_l_right : Addr
  d_l_right : FuncData
  F_l_right : Fn K "_law_right" "_law_right" st_l_right a_l_right d_l_right
  g_l_right : mg "_law_right" = some (.ref a_l_right)
  b_l_right : Binds K d_l_right ["_law_thing"] []
  a_law : Addr
  d_law : FuncData
  F_law : Fn K "law" "law" st_law a_law d_law
  g_law : mg "law" = some (.ref a_law)
  b_law : Binds K d_law ["_law_script"] []
  z_tuple : mg "tuple" = none
  z_isinstance : mg "isinstance" = none
  z_str : mg "str" = none
  z_all : mg "all" = none
  z_list : mg "list" = none
  z_len : mg "len" = none
  z_enumerate : mg "enumerate" = none
  z_abs : mg "abs" = none
  z_repr : mg "repr" = none
  z_int : mg "int" = none
  z_range : mg "range" = none
  c_TAKE : CT K mg "TAKE" (.tup [(.str "take")])
  c_WORDS : CT K mg "WORDS" (.tup [(.str "check"), (.str "effect"), (.str "finish"), (.str "follow")])
  t_MOST_PARTS : Tok
  c_MOST_PARTS : mg "MOST_PARTS" = some (.int 5 t_MOST_PARTS)
section
variable {P : Program} {w : World} {K : PySem.W.Frag} {mg : Str → Option Value} {base : Heap}
theorem fn_is_part (T : Txt K mg) : FnI P w K mg base 1 T.a_is_part T.d_is_part ["thing"] m_is_part := by
  refine fn_i (k := 0) (n := 2) (B := B_is_part) rfl T.F_is_part sc_is_part fun cdv A outer s H E hr hgd => ?_
  exact ISs.cast (iss_one (is_ret (ie_and (ie_callB ci_isi (by rfl) T.z_isinstance bt_isinstance (ia_cons (iv 0) (ia_cons (ie_ty (by rfl) T.z_tuple bt_tuple) ia_nil))) (ie_and (ie_cmp (oi_ne hr.units) (iv 0) (ie_tup ia_nil)) (ie_one (ie_callB (ci_all rfl) (by rfl) T.z_all bt_all (ia_cons (ie_lc lck_F rfl sc_is_part.nd (ii_seq (iv 0)) (blkOk_by (N := ["thing", "word"]) (sc := (defScope st_is_part)) (own := [("word", 1)]) (by decide +kernel)) (fun _ _ _ _ _ => (ig_name (vs := _) (i := 1) sc_is_part.nd rfl (.inl rfl))) (fun _ _ _ _ _ => its_nil) (fun _ _ _ _ _ => (ie_and (ie_callB ci_isi (by rfl) T.z_isinstance bt_isinstance (ia_cons (iv 1) (ia_cons (ie_ty (by rfl) T.z_str bt_str) ia_nil))) (ie_one (ie_cmp (oi_inD (units65 hr)) (iv 1) (ie_const T.c_WORDS) (by rfl)))))) ia_nil))))))) rfl
theorem fn_place_of (T : Txt K mg) : FnI P w K mg base 1 T.a_place_of T.d_place_of ["plan", "word"] m_place_of := by
  refine fn_i (k := 0) (n := 4) (B := B_place_of) rfl T.F_place_of sc_place_of fun cdv A outer s H E hr hgd => ?_
  exact ISs.cast (iss_cons (is_for (vs := [2, 3]) (passes_of rfl) rfl (ii_enum (by rfl) T.z_enumerate (iv 0)) (ig_tup rfl (igs_cons (ig_name (vs := [2, 3]) (i := 2) sc_place_of.nd rfl (.inl rfl)) (igs_cons (ig_name (vs := [2, 3]) (i := 3) sc_place_of.nd rfl (.inl rfl)) igs_nil)))
    (iss_one (is_if (it_cmp (oi_inD (units65 hr)) (iv 1) (iv 3) (by rfl))
    (iss_one (is_ret (iv 2)))
    iss_nil)))
    (iss_one (is_ret ie_non))) rfl
theorem fn_l_bag (T : Txt K mg) : FnI P w K mg base 1 T.a_l_bag T.d_l_bag ["_law_script"] m_l_bag := by
  refine fn_i (k := 0) (n := 2) (B := B_l_bag) rfl T.F_l_bag sc_l_bag fun cdv A outer s H E hr hgd => ?_
  exact ISs.cast (iss_one (is_ret (ie_lstS (ia_cons ie_int (ia_cons ie_int (ia_cons ie_int (ia_cons (ie_lc lck_F rfl sc_l_bag.nd (ii_seq (ie_slice si_sl (iv 0) io_none (io_some ie_int))) (blkOk_by (N := ["_law_script", "_law_cell"]) (sc := (defScope st_l_bag)) (own := [("_law_cell", 1)]) (by decide +kernel)) (fun _ _ _ _ _ => (ig_name (vs := _) (i := 1) sc_l_bag.nd rfl (.inl rfl))) (fun _ _ _ _ _ => its_nil) (fun _ _ _ _ _ => (ie_callB ci_abs (by rfl) T.z_abs bt_abs (ia_cons (iv 1) ia_nil)))) ia_nil))))))) rfl
theorem fn_l_take (T : Txt K mg) : FnI P w K mg base 1 T.a_l_take T.d_l_take ["_law_bag_here", "_law_many"] m_l_take := by
  refine fn_i (k := 0) (n := 6) (B := B_l_take) rfl T.F_l_take sc_l_take fun cdv A outer s H E hr hgd => ?_
  exact ISs.cast (iss_cons (is_if (it_cmp (oi_eq hr.units) (ie_ix xi_ix (iv 0) ie_int) ie_int)
    (iss_cons (is_set (i := 4) sc_l_take.nd rfl (.inl rfl) ie_int)
    (iss_cons (is_if (it_cmp oi_lt (ie_ix xi_ix (iv 0) ie_int) (ie_callB ci_len (by rfl) T.z_len bt_len (ia_cons (ie_ix xi_ix (iv 0) ie_int) ia_nil)))
    (iss_one (is_set (i := 4) sc_l_take.nd rfl (.inl rfl) (ie_ix xi_ix (ie_ix xi_ix (iv 0) ie_int) (ie_ix xi_ix (iv 0) ie_int))))
    iss_nil)
    (iss_cons (is_augix (iv 0) ie_int pi_add ie_int)
    (iss_cons (is_if (it_cmp oi_ge (iv 4) ie_int)
    (iss_one (is_setix (iv 4) (iv 0) ie_int))
    iss_nil)
    (iss_one (is_setix (ie_op oi_mod (ie_op oi_add (ie_op oi_add (ie_op oi_mul (ie_ix xi_ix (iv 0) ie_int) ie_int) (ie_op oi_mod (iv 4) ie_int)) (ie_op oi_mul ie_int (ie_ix xi_ix (iv 0) ie_int))) ie_int) (iv 0) ie_int))))))
    iss_nil)
    (iss_cons (is_if (it_cmp oi_gt (ie_ix xi_ix (iv 0) ie_int) ie_int)
    (iss_cons (is_set (i := 5) sc_l_take.nd rfl (.inl rfl) (ie_op oi_mod (ie_ix xi_ix (iv 0) ie_int) (iv 1)))
    (iss_cons (is_setix (ie_op oi_div (ie_ix xi_ix (iv 0) ie_int) (iv 1)) (iv 0) ie_int)
    (iss_one (is_ret (iv 5)))))
    iss_nil)
    (iss_cons (is_set (i := 2) sc_l_take.nd rfl (.inl rfl) (ie_op oi_mod (ie_op oi_mul (ie_op oi_add (ie_ix xi_ix (iv 0) ie_int) ie_int) ie_int) ie_int))
    (iss_cons (is_set (i := 3) sc_l_take.nd rfl (.inl rfl) (ie_op oi_mod (ie_op oi_mul (ie_op oi_mod (ie_op oi_mul (iv 2) (iv 2)) ie_int) ie_int) ie_int))
    (iss_cons (is_if (it_cmp oi_gt (iv 1) ie_int)
    (iss_one (is_ret (ie_op oi_mod (ie_op oi_add (ie_op oi_mul (iv 3) ie_int) (iv 2)) (iv 1))))
    iss_nil)
    (iss_one (is_ret (ie_op oi_mod (ie_op oi_div (iv 3) ie_int) (iv 1))))))))) rfl
theorem fn_l_alike (T : Txt K mg) : FnI P w K mg base 1 T.a_l_alike T.d_l_alike ["_law_found", "_law_due"] m_l_alike := by
  refine fn_i (k := 0) (n := 2) (B := B_l_alike) rfl T.F_l_alike sc_l_alike fun cdv A outer s H E hr hgd => ?_
  exact ISs.cast (iss_one (is_ret (ie_and (ie_cmp (oi_eq hr.units) (iv 0) (iv 1)) (ie_one (ie_cmp (oi_eq hr.units) (ie_callB (ci_repr hgd hr.units) (by rfl) T.z_repr bt_repr (ia_cons (iv 0) ia_nil)) (ie_callB (ci_repr hgd hr.units) (by rfl) T.z_repr bt_repr (ia_cons (iv 1) ia_nil))))))) rfl
theorem fn_l_is_plan (T : Txt K mg) : FnI P w K mg base 1 T.a_l_is_plan T.d_l_is_plan ["_law_thing"] m_l_is_plan := by
  refine FnI.fz (fn_i (k := 0) (n := 4) (B := B_l_is_plan) rfl T.F_l_is_plan sc_l_is_plan fun cdv A outer s H E hr hgd => ?_)
  exact ISs.cast (iss_cons (is_if (IW.it (iw_or (it_not (it_val (ie_callB ci_isi (by rfl) T.z_isinstance bt_isinstance (ia_cons (iv 0) (ia_cons (ie_ty (by rfl) T.z_list bt_list) ia_nil))))) (iw_or (it_cmp oi_lt (ie_callB ci_len (by rfl) T.z_len bt_len (ia_cons (iv 0) ia_nil)) ie_int) (iw_or1 (it_cmp oi_gt (ie_callB ci_len (by rfl) T.z_len bt_len (ia_cons (iv 0) ia_nil)) ie_int)))))
    (iss_one (is_ret ie_bl))
    iss_nil)
    (iss_cons (is_if (IW.it (iw_or (it_cmp (oi_ne hr.units) (ie_lc lck_F rfl sc_l_is_plan.nd (ii_seq (iv 0)) (blkOk_by (N := ["_law_thing", "_law_words", "_law_part", "_law_word"]) (sc := (defScope st_l_is_plan)) (own := [("_law_part", 2)]) (by decide +kernel)) (fun _ _ _ _ _ => (ig_name (vs := _) (i := 2) sc_l_is_plan.nd rfl (.inl rfl))) (fun _ _ _ _ _ => (its_one (IW.it (iw_or (it_not (it_val (ie_callB ci_isi (by rfl) T.z_isinstance bt_isinstance (ia_cons (iv 2) (ia_cons (ie_ty (by rfl) T.z_tuple bt_tuple) ia_nil))))) (iw_or1 (it_cmp (oi_eq hr.units) (iv 2) (ie_tup ia_nil))))))) (fun _ _ _ _ _ => (iv 2))) (ie_lst ia_nil)) (iw_or1 (it_cmp (oi_ne hr.units) (ie_ix xi_ix (iv 0) ie_int) (ie_tup (ia_cons ie_str ia_nil))))))
    (iss_one (is_ret ie_bl))
    iss_nil)
    (iss_cons (is_set (i := 1) sc_l_is_plan.nd rfl (.inl rfl) (ie_lstS ia_nil))
    (iss_cons (is_for (vs := [2]) (passes_of rfl) rfl (ii_seq (ie_slice si_slT (iv 0) (io_some ie_int) io_none)) (ig_name (vs := [2]) (i := 2) sc_l_is_plan.nd rfl (.inl rfl))
    (iss_one (is_expr (ie_bm PySem.F.plainAttrs_list PySem.F.slot_list_extend PySem.F.type_list_extend mi_extend (iv 1) (ia_cons (iv 2) ia_nil)))))
    (iss_cons (is_if (it_cmp (oi_ne hr.units) (ie_lc lck_F rfl sc_l_is_plan.nd (ii_seq (iv 1)) (blkOk_by (N := ["_law_thing", "_law_words", "_law_part", "_law_word"]) (sc := (defScope st_l_is_plan)) (own := [("_law_word", 3)]) (by decide +kernel)) (fun _ _ _ _ _ => (ig_name (vs := _) (i := 3) sc_l_is_plan.nd rfl (.inl rfl))) (fun _ _ _ _ _ => (its_one (it_cmp (oi_notInD (units65 hr)) (iv 3) (ie_lst (ia_cons ie_str (ia_cons ie_str (ia_cons ie_str (ia_cons ie_str ia_nil))))) (by rfl)))) (fun _ _ _ _ _ => (iv 3))) (ie_lst ia_nil))
    (iss_one (is_ret ie_bl))
    iss_nil)
    (iss_cons (is_if (IW.it (iw_or (it_cmp (oi_ne hr.units) (ie_bm PySem.F.plainAttrs_list PySem.F.slot_list_count PySem.F.type_list_count (mi_count (units65 hr)) (iv 1) (ia_cons ie_str ia_nil)) ie_int) (iw_or1 (it_cmp (oi_ne hr.units) (ie_bm PySem.F.plainAttrs_list PySem.F.slot_list_count PySem.F.type_list_count (mi_count (units65 hr)) (iv 1) (ia_cons ie_str ia_nil)) ie_int))))
    (iss_one (is_ret ie_bl))
    iss_nil)
    (iss_one (is_ret (ie_and (ie_cmp oi_lt (ie_bm PySem.F.plainAttrs_list PySem.F.slot_list_count PySem.F.type_list_count (mi_count (units65 hr)) (iv 1) (ia_cons ie_str ia_nil)) ie_int) (ie_one (ie_cmp oi_lt (ie_bm PySem.F.plainAttrs_list PySem.F.slot_list_count PySem.F.type_list_count (mi_count (units65 hr)) (iv 1) (ia_cons ie_str ia_nil)) ie_int))))))))))) rfl
theorem fn_is_plan (T : Txt K mg) : FnI P w K mg base 2 T.a_is_plan T.d_is_plan ["thing"] m_is_plan := by
  refine fn_i (k := 1) (n := 4) (B := B_is_plan) rfl T.F_is_plan sc_is_plan fun cdv A outer s H E hr hgd => ?_
  exact ISs.cast (iss_cons (is_if (IW.it (iw_or (it_not (it_val (ie_callB ci_isi (by rfl) T.z_isinstance bt_isinstance (ia_cons (iv 0) (ia_cons (ie_ty (by rfl) T.z_list bt_list) ia_nil))))) (iw_or (it_not (it_chain oi_le oi_le ie_int (ie_callB ci_len (by rfl) T.z_len bt_len (ia_cons (iv 0) ia_nil)) (ie_glob (v := .int 5) (by rfl) T.c_MOST_PARTS ⟨_, rfl⟩ (fun _ _ => RV.int _)))) (iw_or1 (it_cmp (oi_ne hr.units) (ie_ix xi_ix (iv 0) ie_int) (ie_const T.c_TAKE))))))
    (iss_one (is_ret ie_bl))
    iss_nil)
    (iss_cons (is_if (it_not (it_val (ie_callB (ci_all rfl) (by rfl) T.z_all bt_all (ia_cons (ie_lc lck_F rfl sc_is_plan.nd (ii_seq (ie_slice si_slT (iv 0) (io_some ie_int) io_none)) (blkOk_by (N := ["thing", "words", "part", "word"]) (sc := (defScope st_is_plan)) (own := [("part", 2)]) (by decide +kernel)) (fun _ _ _ _ _ => (ig_name (vs := _) (i := 2) sc_is_plan.nd rfl (.inl rfl))) (fun _ _ _ _ _ => its_nil) (fun _ _ _ _ _ => (ie_callN (n := 1) (fn_is_part T) (hr.mono (by decide)) hgd takes0 (by rfl) T.g_is_part T.F_is_part.kp T.b_is_part (ia_cons (iv 2) ia_nil)))) ia_nil))))
    (iss_one (is_ret ie_bl))
    iss_nil)
    (iss_cons (is_setLc2 (i := 1) lck_F rfl sc_is_plan.nd rfl rfl (sw_true rfl rfl rfl (by decide +kernel)) (ii_seq (ie_slice si_slT (iv 0) (io_some ie_int) io_none)) (blkOk_by (N := ["thing", "words", "part", "word"]) (sc := (defScope st_is_plan)) (own := [("part", 2), ("word", 3)]) (by decide +kernel)) (by decide) (fun _ _ _ _ _ => (ig_name (vs := _) (i := 2) sc_is_plan.nd rfl (.inl rfl))) (fun _ _ _ _ _ => its_nil) (fun _ _ _ _ _ => (ii_seq (iv 2))) (fun _ _ _ _ _ => (ig_name (vs := [3]) (i := 3) sc_is_plan.nd rfl (.inl rfl))) (fun _ _ _ _ _ => its_nil) (fun _ _ _ _ _ => (iv 3)))
    (iss_cons (is_if (IW.it (iw_or (it_cmp (oi_ne hr.units) (ie_bm PySem.F.plainAttrs_list PySem.F.slot_list_count PySem.F.type_list_count (mi_count (units65 hr)) (iv 1) (ia_cons ie_str ia_nil)) ie_int) (iw_or1 (it_cmp (oi_ne hr.units) (ie_bm PySem.F.plainAttrs_list PySem.F.slot_list_count PySem.F.type_list_count (mi_count (units65 hr)) (iv 1) (ia_cons ie_str ia_nil)) ie_int))))
    (iss_one (is_ret ie_bl))
    iss_nil)
    (iss_one (is_ret (ie_and (ie_cmp oi_lt (ie_bm PySem.F.plainAttrs_list PySem.F.slot_list_count PySem.F.type_list_count (mi_count (units65 hr)) (iv 1) (ia_cons ie_str ia_nil)) ie_int) (ie_one (ie_cmp oi_lt (ie_bm PySem.F.plainAttrs_list PySem.F.slot_list_count PySem.F.type_list_count (mi_count (units65 hr)) (iv 1) (ia_cons ie_str ia_nil)) ie_int))))))))) rfl
theorem fn_l_plan (T : Txt K mg) : FnI P w K mg base 2 T.a_l_plan T.d_l_plan ["_law_bag_here"] m_l_plan := by
  refine FnI.fz (fn_i (k := 1) (n := 5) (B := B_l_plan) rfl T.F_l_plan sc_l_plan fun cdv A outer s H E hr hgd => ?_)
  exact ISs.cast (iss_cons (is_set (i := 1) sc_l_plan.nd rfl (.inl rfl) (ie_op oi_addT (ie_lst (ia_cons ie_str (ia_cons ie_str ia_nil))) (ie_op oi_mul (ie_lst (ia_cons ie_str ia_nil)) (ie_callTy ci_int (by rfl) T.z_int bt_int (ia_cons (ie_cmp (oi_eq hr.units) (ie_callN (n := 2) (fn_l_take T) (hr.mono (by decide)) hgd (takes_of rfl rfl rfl rfl) (by rfl) T.g_l_take T.F_l_take.kp T.b_l_take (ia_cons (iv 0) (ia_cons ie_int ia_nil))) ie_int) ia_nil)))))
    (iss_cons (is_set (i := 1) sc_l_plan.nd rfl (.inl rfl) (ie_op oi_addT (iv 1) (ie_op oi_mul (ie_lst (ia_cons ie_str ia_nil)) (ie_callTy ci_int (by rfl) T.z_int bt_int (ia_cons (ie_cmp (oi_eq hr.units) (ie_callN (n := 2) (fn_l_take T) (hr.mono (by decide)) hgd (takes_of rfl rfl rfl rfl) (by rfl) T.g_l_take T.F_l_take.kp T.b_l_take (ia_cons (iv 0) (ia_cons ie_int ia_nil))) ie_int) ia_nil)))))
    (iss_cons (is_par (i := 3) (j := 4) rfl sc_l_plan.nd rfl rfl (by decide) rfl rfl (ie_lstS ia_nil) (ie_lstS ia_nil))
    (iss_cons (is_for (vs := [2]) (passes_of rfl) rfl (ii_seq (iv 1)) (ig_name (vs := [2]) (i := 2) sc_l_plan.nd rfl (.inl rfl))
    (iss_one (is_expr (ie_bm PySem.F.plainAttrs_list PySem.F.slot_list_insert PySem.F.type_list_insert mi_insert (iv 3) (ia_cons (ie_callN (n := 2) (fn_l_take T) (hr.mono (by decide)) hgd (takes_of rfl rfl rfl rfl) (by rfl) T.g_l_take T.F_l_take.kp T.b_l_take (ia_cons (iv 0) (ia_cons (ie_op oi_addT (ie_callB ci_len (by rfl) T.z_len bt_len (ia_cons (iv 3) ia_nil)) ie_int) ia_nil))) (ia_cons (iv 2) ia_nil))))))
    (iss_cons (is_for (vs := [2]) (passes_of rfl) rfl (ii_seq (iv 3)) (ig_name (vs := [2]) (i := 2) sc_l_plan.nd rfl (.inl rfl))
    (iss_cons (is_if (IW.it (iw_or (it_cmp (oi_eq hr.units) (iv 4) (ie_lst ia_nil)) (iw_or1 (it_cmp oi_gt (ie_callN (n := 2) (fn_l_take T) (hr.mono (by decide)) hgd (takes_of rfl rfl rfl rfl) (by rfl) T.g_l_take T.F_l_take.kp T.b_l_take (ia_cons (iv 0) (ia_cons ie_int ia_nil))) ie_int))))
    (iss_one (is_expr (ie_bm PySem.F.plainAttrs_list PySem.F.slot_list_append PySem.F.type_list_append mi_append (iv 4) (ia_cons (ie_lstS ia_nil) ia_nil))))
    iss_nil)
    (iss_one (is_expr (ie_bm PySem.F.plainAttrs_list PySem.F.slot_list_append PySem.F.type_list_append mi_append (ie_ix xi_ix (iv 4) (ie_un ui_neg ie_int)) (ia_cons (iv 2) ia_nil))))))
    (iss_one (is_ret (ie_op oi_addT (ie_lst (ia_cons (ie_lst (ia_cons ie_str ia_nil)) ia_nil)) (iv 4))))))))) rfl
theorem fn_l_spoilt_part (T : Txt K mg) : FnI P w K mg base 2 T.a_l_spoilt_part T.d_l_spoilt_part ["_law_bag_here", "_law_part"] m_l_spoilt_part := by
  refine fn_i (k := 1) (n := 5) (B := B_l_spoilt_part) rfl T.F_l_spoilt_part sc_l_spoilt_part fun cdv A outer s H E hr hgd => ?_
  exact ISs.cast (iss_cons (is_set (i := 2) sc_l_spoilt_part.nd rfl (.inl rfl) (ie_callN (n := 2) (fn_l_take T) (hr.mono (by decide)) hgd (takes_of rfl rfl rfl rfl) (by rfl) T.g_l_take T.F_l_take.kp T.b_l_take (ia_cons (iv 0) (ia_cons (ie_op oi_addT (ie_callB ci_len (by rfl) T.z_len bt_len (ia_cons (iv 1) ia_nil)) ie_int) ia_nil))))
    (iss_cons (is_set (i := 3) sc_l_spoilt_part.nd rfl (.inl rfl) (ie_lst (ia_cons ie_str (ia_cons ie_str (ia_cons ie_str (ia_cons ie_str (ia_cons ie_str (ia_cons ie_str (ia_cons ie_non (ia_cons ie_int (ia_cons ie_bl (ia_cons (ie_tup (ia_cons ie_str ia_nil)) (ia_cons (ie_lst (ia_cons ie_str ia_nil)) (ia_cons ie_str ia_nil))))))))))))))
    (iss_cons (is_set (i := 3) sc_l_spoilt_part.nd rfl (.inl rfl) (ie_ix xi_ix (iv 3) (ie_callN (n := 2) (fn_l_take T) (hr.mono (by decide)) hgd (takes_of rfl rfl rfl rfl) (by rfl) T.g_l_take T.F_l_take.kp T.b_l_take (ia_cons (iv 0) (ia_cons ie_int ia_nil)))))
    (iss_cons (is_set (i := 4) sc_l_spoilt_part.nd rfl (.inl rfl) (ie_lst (ia_cons (ie_op oi_addT (ie_op oi_addT (ie_slice si_slT (iv 1) io_none (io_some (iv 2))) (ie_tup (ia_cons (iv 3) ia_nil))) (ie_slice si_slT (iv 1) (io_some (iv 2)) io_none)) (ia_cons (ie_op oi_addT (ie_op oi_addT (ie_slice si_slT (iv 1) io_none (io_some (iv 2))) (ie_tup (ia_cons (iv 3) ia_nil))) (ie_slice si_slT (iv 1) (io_some (ie_op oi_addT (iv 2) ie_int)) io_none)) (ia_cons (ie_op oi_addT (ie_slice si_slT (iv 1) io_none (io_some (iv 2))) (ie_slice si_slT (iv 1) (io_some (ie_op oi_addT (iv 2) ie_int)) io_none)) ia_nil)))))
    (iss_one (is_ret (ie_ix xi_ix (ie_op oi_addT (iv 4) (ie_lst (ia_cons (ie_rev (iv 1)) (ia_cons (ie_op oi_addT (iv 1) (ie_slice si_slT (iv 1) io_none (io_some ie_int))) (ia_cons (ie_callTy ci_listF (by rfl) T.z_list bt_list (ia_cons (iv 1) ia_nil)) (ia_cons (ie_tup ia_nil) (ia_cons (ie_bm PySem.F.plainAttrs_str PySem.F.slot_str_join PySem.F.type_str_join mi_join ie_str (ia_cons (iv 1) ia_nil)) (ia_cons (iv 3) ia_nil)))))))) (ie_callN (n := 2) (fn_l_take T) (hr.mono (by decide)) hgd (takes_of rfl rfl rfl rfl) (by rfl) T.g_l_take T.F_l_take.kp T.b_l_take (ia_cons (iv 0) (ia_cons ie_int ia_nil)))))))))) rfl
theorem fn_l_spoilt (T : Txt K mg) : FnI P w K mg base 3 T.a_l_spoilt T.d_l_spoilt ["_law_bag_here", "_law_plan_here"] m_l_spoilt := by
  refine FnI.fz (fn_i (k := 2) (n := 7) (B := B_l_spoilt) rfl T.F_l_spoilt sc_l_spoilt fun cdv A outer s H E hr hgd => ?_)
  exact ISs.cast (iss_cons (is_par (i := 3) (j := 4) rfl sc_l_spoilt.nd rfl rfl (by decide) rfl rfl (ie_callN (n := 2) (fn_l_take T) (hr.mono (by decide)) hgd (takes_of rfl rfl rfl rfl) (by rfl) T.g_l_take T.F_l_take.kp T.b_l_take (ia_cons (iv 0) (ia_cons (ie_callB ci_len (by rfl) T.z_len bt_len (ia_cons (iv 1) ia_nil)) ia_nil))) (ie_callN (n := 2) (fn_l_take T) (hr.mono (by decide)) hgd (takes_of rfl rfl rfl rfl) (by rfl) T.g_l_take T.F_l_take.kp T.b_l_take (ia_cons (iv 0) (ia_cons (ie_callB ci_len (by rfl) T.z_len bt_len (ia_cons (iv 1) ia_nil)) ia_nil))))
    (iss_cons (is_set (i := 2) sc_l_spoilt.nd rfl (.inl rfl) (ie_callN (n := 2) (fn_l_take T) (hr.mono (by decide)) hgd (takes_of rfl rfl rfl rfl) (by rfl) T.g_l_take T.F_l_take.kp T.b_l_take (ia_cons (iv 0) (ia_cons ie_int ia_nil))))
    (iss_cons (is_if (it_cmp (oi_eq hr.units) (iv 2) ie_int)
    (iss_one (is_ret (ie_ix xi_ix (ie_lst (ia_cons ie_non (ia_cons (ie_callTy ci_tuple (by rfl) T.z_tuple bt_tuple (ia_cons (iv 1) ia_nil)) (ia_cons ie_dic0 (ia_cons ie_str (ia_cons ie_int (ia_cons (ie_lst ia_nil) (ia_cons (ie_lst (ia_cons (iv 1) ia_nil)) (ia_cons (ie_lst (ia_cons (ie_tup (ia_cons ie_str ia_nil)) ia_nil)) ia_nil))))))))) (ie_callN (n := 2) (fn_l_take T) (hr.mono (by decide)) hgd (takes_of rfl rfl rfl rfl) (by rfl) T.g_l_take T.F_l_take.kp T.b_l_take (ia_cons (iv 0) (ia_cons ie_int ia_nil))))))
    iss_nil)
    (iss_cons (is_if (it_cmp (oi_eq hr.units) (iv 2) ie_int)
    (iss_one (is_ret (ie_op oi_addT (ie_slice si_slT (iv 1) io_none (io_some (iv 3))) (ie_slice si_slT (iv 1) (io_some (ie_op oi_addT (iv 3) ie_int)) io_none))))
    iss_nil)
    (iss_cons (is_if (it_cmp (oi_eq hr.units) (iv 2) ie_int)
    (iss_one (is_ret (ie_op oi_addT (ie_op oi_addT (ie_slice si_slT (iv 1) io_none (io_some (iv 3))) (ie_slice si_slT (iv 1) (io_some (iv 3)) (io_some (ie_op oi_addT (iv 3) ie_int)))) (ie_slice si_slT (iv 1) (io_some (iv 3)) io_none))))
    iss_nil)
    (iss_cons (is_if (it_cmp (oi_eq hr.units) (iv 2) ie_int)
    (iss_cons (is_set (i := 5) sc_l_spoilt.nd rfl (.inl rfl) (ie_callTy ci_listS (by rfl) T.z_list bt_list (ia_cons (iv 1) ia_nil)))
    (iss_cons (is_asgH (ie_tup (ia_cons (ie_ix xi_ix (iv 5) (iv 4)) (ia_cons (ie_ix xi_ix (iv 5) (iv 3)) ia_nil))) (ih_tup rfl (ihs_cons (ih_ix (iv 5) (iv 3)) (ihs_cons (ih_ix (iv 5) (iv 4)) ihs_nil))))
    (iss_one (is_ret (iv 5)))))
    iss_nil)
    (iss_cons (is_if (it_cmp (oi_eq hr.units) (iv 2) ie_int)
    (iss_one (is_ret (ie_op oi_addT (iv 1) (ie_slice si_slT (ie_slice si_slT (ie_lst (ia_cons (ie_tup (ia_cons ie_str ia_nil)) (ia_cons (ie_tup (ia_cons ie_str ia_nil)) (ia_cons (ie_tup (ia_cons ie_str ia_nil)) (ia_cons (ie_tup ia_nil) ia_nil))))) (io_some (ie_callN (n := 2) (fn_l_take T) (hr.mono (by decide)) hgd (takes_of rfl rfl rfl rfl) (by rfl) T.g_l_take T.F_l_take.kp T.b_l_take (ia_cons (iv 0) (ia_cons ie_int ia_nil)))) io_none) io_none (io_some ie_int)))))
    iss_nil)
    (iss_cons (is_if (IW.it (iw_or (it_not (it_val (ie_callB ci_isi (by rfl) T.z_isinstance bt_isinstance (ia_cons (ie_ix xi_ix (iv 1) (iv 3)) (ia_cons (ie_ty (by rfl) T.z_tuple bt_tuple) ia_nil))))) (iw_or1 (it_cmp (oi_ne hr.units) (ie_lc lck_F rfl sc_l_spoilt.nd (ii_seq (ie_ix xi_ix (iv 1) (iv 3))) (blkOk_by (N := ["_law_bag_here", "_law_plan_here", "_law_way", "_law_at", "_law_to", "_law_found", "_law_word"]) (sc := (defScope st_l_spoilt)) (own := [("_law_word", 6)]) (by decide +kernel)) (fun _ _ _ _ _ => (ig_name (vs := _) (i := 6) sc_l_spoilt.nd rfl (.inl rfl))) (fun _ _ _ _ _ => (its_one (it_not (it_val (ie_callB ci_isi (by rfl) T.z_isinstance bt_isinstance (ia_cons (iv 6) (ia_cons (ie_ty (by rfl) T.z_str bt_str) ia_nil))))))) (fun _ _ _ _ _ => (iv 6))) (ie_lst ia_nil)))))
    (iss_one (is_ret (ie_slice si_slT (iv 1) (io_some ie_int) io_none)))
    iss_nil)
    (iss_one (is_ret (ie_op oi_addT (ie_op oi_addT (ie_slice si_slT (iv 1) io_none (io_some (iv 3))) (ie_lst (ia_cons (ie_callN (n := 2) (fn_l_spoilt_part T) (hr.mono (by decide)) hgd (takes_of rfl rfl rfl rfl) (by rfl) T.g_l_spoilt_part T.F_l_spoilt_part.kp T.b_l_spoilt_part (ia_cons (iv 0) (ia_cons (ie_ix xi_ix (iv 1) (iv 3)) ia_nil))) ia_nil))) (ie_slice si_slT (iv 1) (io_some (ie_op oi_addT (iv 3) ie_int)) io_none)))))))))))) rfl
theorem fn_l_right (T : Txt K mg) : FnI P w K mg base 3 T.a_l_right T.d_l_right ["_law_thing"] m_l_right := by
  refine fn_i (k := 2) (n := 3) (B := B_l_right) rfl T.F_l_right sc_l_right fun cdv A outer s H E hr hgd => ?_
  exact ISs.cast (iss_cons (is_set (i := 1) sc_l_right.nd rfl (.inl rfl) (ie_callB (ci_repr hgd hr.units) (by rfl) T.z_repr bt_repr (ia_cons (iv 0) ia_nil)))
    (iss_cons (is_for (vs := [2]) (passes_of rfl) rfl (ii_range1 (by rfl) T.z_range ie_int) (ig_name (vs := [2]) (i := 2) sc_l_right.nd rfl (.inl rfl))
    (iss_one (is_if (IW.it (iw_or (it_not (it_val (ie_callN (n := 2) (fn_l_alike T) (hr.mono (by decide)) hgd (takes_of rfl rfl rfl rfl) (by rfl) T.g_l_alike T.F_l_alike.kp T.b_l_alike (ia_cons (ie_callN (n := 1) (fn_is_plan T) (hr.mono (by decide)) hgd (takes_of rfl rfl rfl rfl) (by rfl) T.g_is_plan T.F_is_plan.kp T.b_is_plan (ia_cons (iv 0) ia_nil)) (ia_cons (ie_callN (n := 1) (fn_l_is_plan T) (hr.mono (by decide)) hgd (takes_of rfl rfl rfl rfl) (by rfl) T.g_l_is_plan T.F_l_is_plan.kp T.b_l_is_plan (ia_cons (iv 0) ia_nil)) ia_nil))))) (iw_or1 (it_cmp (oi_ne hr.units) (ie_callB (ci_repr hgd hr.units) (by rfl) T.z_repr bt_repr (ia_cons (iv 0) ia_nil)) (iv 1)))))
    (iss_one (is_ret ie_bl))
    iss_nil)))
    (iss_one (is_ret ie_bl)))) rfl
theorem fn_law (T : Txt K mg) : FnI P w K mg base 4 T.a_law T.d_law ["_law_script"] m_law := by
  refine fn_i (k := 3) (n := 11) (B := B_law) rfl T.F_law sc_law fun cdv A outer s H E hr hgd => ?_
  exact ISs.cast (iss_cons (is_set (i := 1) sc_law.nd rfl (.inl rfl) (ie_callN (n := 1) (fn_l_bag T) (hr.mono (by decide)) hgd (takes_of rfl rfl rfl rfl) (by rfl) T.g_l_bag T.F_l_bag.kp T.b_l_bag (ia_cons (iv 0) ia_nil)))
    (iss_cons (is_for (vs := [2]) (passes_of rfl) rfl (ii_range1 (by rfl) T.z_range ie_int) (ig_name (vs := [2]) (i := 2) sc_law.nd rfl (.inl rfl))
    (iss_cons (is_set (i := 3) sc_law.nd rfl (.inr rfl) (ie_lc lck_F rfl sc_law.nd (ii_seq (ie_callN (n := 1) (fn_l_plan T) (hr.mono (by decide)) hgd (takes_of rfl rfl rfl rfl) (by rfl) T.g_l_plan T.F_l_plan.kp T.b_l_plan (ia_cons (iv 1) ia_nil))) (blkOk_by (N := ["_law_script", "_law_bag_here", "_law_turn", "_law_plan_here", "_law_handed", "_law_word", "_law_k", "_law_due", "_law_thing", "_law_part", "_law_at"]) (sc := (defScope st_law)) (own := [("_law_part", 9)]) (by decide +kernel)) (fun _ _ _ _ _ => (ig_name (vs := _) (i := 9) sc_law.nd rfl (.inl rfl))) (fun _ _ _ _ _ => its_nil) (fun _ _ _ _ _ => (ie_callTy ci_tuple (by rfl) T.z_tuple bt_tuple (ia_cons (iv 9) ia_nil)))))
    (iss_cons (is_set (i := 4) sc_law.nd rfl (.inl rfl) (ie_callTy ci_listF (by rfl) T.z_list bt_list (ia_cons (iv 3) ia_nil)))
    (iss_cons (is_for (vs := [5]) (passes_of rfl) rfl (ii_seq (ie_lst (ia_cons ie_str (ia_cons ie_str (ia_cons ie_str (ia_cons ie_str (ia_cons ie_str (ia_cons ie_str ia_nil)))))))) (ig_name (vs := [5]) (i := 5) sc_law.nd rfl (.inr rfl))
    (iss_cons (is_set (i := 7) sc_law.nd rfl (.inl rfl) (ie_op oi_addT (ie_lc lck_F rfl sc_law.nd (ii_range1 (by rfl) T.z_range (ie_callB ci_len (by rfl) T.z_len bt_len (ia_cons (iv 3) ia_nil))) (blkOk_by (N := ["_law_script", "_law_bag_here", "_law_turn", "_law_plan_here", "_law_handed", "_law_word", "_law_k", "_law_due", "_law_thing", "_law_part", "_law_at"]) (sc := (defScope st_law)) (own := [("_law_at", 10)]) (by decide +kernel)) (fun _ _ _ _ _ => (ig_name (vs := _) (i := 10) sc_law.nd rfl (.inl rfl))) (fun _ _ _ _ _ => (its_one (it_cmp (oi_inD (units65 hr)) (iv 5) (ie_ix xi_ix (iv 3) (iv 10)) (by rfl)))) (fun _ _ _ _ _ => (iv 10))) (ie_lst (ia_cons ie_non ia_nil))))
    (iss_one (is_if (IW.it (iw_or (it_not (it_val (ie_callN (n := 2) (fn_l_alike T) (hr.mono (by decide)) hgd (takes_of rfl rfl rfl rfl) (by rfl) T.g_l_alike T.F_l_alike.kp T.b_l_alike (ia_cons (ie_callN (n := 2) (fn_place_of T) (hr.mono (by decide)) hgd (takes_of rfl rfl rfl rfl) (by rfl) T.g_place_of T.F_place_of.kp T.b_place_of (ia_cons (iv 4) (ia_cons (iv 5) ia_nil))) (ia_cons (ie_ix xi_ix (iv 7) ie_int) ia_nil))))) (iw_or1 (it_cmp (oi_ne hr.units) (iv 4) (iv 3)))))
    (iss_one (is_ret ie_bl))
    iss_nil))))
    (iss_cons (is_if (it_not (it_val (ie_callN (n := 1) (fn_l_right T) (hr.mono (by decide)) hgd (takes_of rfl rfl rfl rfl) (by rfl) T.g_l_right T.F_l_right.kp T.b_l_right (ia_cons (iv 3) ia_nil))))
    (iss_one (is_ret ie_bl))
    iss_nil)
    (iss_one (is_for (vs := [6]) (passes_of rfl) rfl (ii_range1 (by rfl) T.z_range ie_int) (ig_name (vs := [6]) (i := 6) sc_law.nd rfl (.inl rfl))
    (iss_cons (is_set (i := 8) sc_law.nd rfl (.inl rfl) (ie_callN (n := 2) (fn_l_spoilt T) (hr.mono (by decide)) hgd (takes_of rfl rfl rfl rfl) (by rfl) T.g_l_spoilt T.F_l_spoilt.kp T.b_l_spoilt (ia_cons (iv 1) (ia_cons (iv 3) ia_nil))))
    (iss_cons (is_if (IW.it (iw_and (it_val (ie_callB ci_isi (by rfl) T.z_isinstance bt_isinstance (ia_cons (iv 8) (ia_cons (ie_ty (by rfl) T.z_list bt_list) ia_nil)))) (iw_and (it_cmp (oi_ne hr.units) (iv 8) (ie_lst ia_nil)) (iw_and1 (it_cmp (oi_eq hr.units) (ie_callN (n := 2) (fn_l_take T) (hr.mono (by decide)) hgd (takes_of rfl rfl rfl rfl) (by rfl) T.g_l_take T.F_l_take.kp T.b_l_take (ia_cons (iv 1) (ia_cons ie_int ia_nil))) ie_int)))))
    (iss_one (is_set (i := 8) sc_law.nd rfl (.inl rfl) (ie_callN (n := 2) (fn_l_spoilt T) (hr.mono (by decide)) hgd (takes_of rfl rfl rfl rfl) (by rfl) T.g_l_spoilt T.F_l_spoilt.kp T.b_l_spoilt (ia_cons (iv 1) (ia_cons (iv 8) ia_nil)))))
    iss_nil)
    (iss_one (is_if (it_not (it_val (ie_callN (n := 1) (fn_l_right T) (hr.mono (by decide)) hgd (takes_of rfl rfl rfl rfl) (by rfl) T.g_l_right T.F_l_right.kp T.b_l_right (ia_cons (iv 8) ia_nil))))
    (iss_one (is_ret ie_bl))
    iss_nil)))))))))))
    (iss_one (is_ret ie_bl)))) rfl
end
/-! from what the head tells -/
def txt_mk {K : PySem.W.Frag} {h : Heap} {mg : Str → Option Value} (X : K.In h) (G : h.Ns mainGlobals mg)
    {od0 an0 : Option Addr} {sl0 : Array (Option Value)} {oc0 kV0 dc0 pm0 cd0 ct0 : Value} {f0 : Addr} 
    (a0 : PySem.W.nsIn K mainGlobals "is_part" = some (some (.ref f0))) (l0 : K.lookup f0 = some ⟨oc0, od0, .func (PySem.W.fnOf "is_part" "is_part" (defArgs st_is_part) (defBody st_is_part) (defScope st_is_part) .none kV0 dc0 pm0 an0 cd0 ct0), sl0⟩) (c0 : PySem.W.codeIn K cd0 "is_part" = true) (k0 : PySem.W.keepIn K (.ref f0) = true)
    {od1 an1 : Option Addr} {sl1 : Array (Option Value)} {oc1 kV1 dc1 pm1 cd1 ct1 : Value} {f1 : Addr} 
    (a1 : PySem.W.nsIn K mainGlobals "place_of" = some (some (.ref f1))) (l1 : K.lookup f1 = some ⟨oc1, od1, .func (PySem.W.fnOf "place_of" "place_of" (defArgs st_place_of) (defBody st_place_of) (defScope st_place_of) .none kV1 dc1 pm1 an1 cd1 ct1), sl1⟩) (c1 : PySem.W.codeIn K cd1 "place_of" = true) (k1 : PySem.W.keepIn K (.ref f1) = true)
    {od2 an2 : Option Addr} {sl2 : Array (Option Value)} {oc2 kV2 dc2 pm2 cd2 ct2 : Value} {f2 : Addr} 
    (a2 : PySem.W.nsIn K mainGlobals "_law_bag" = some (some (.ref f2))) (l2 : K.lookup f2 = some ⟨oc2, od2, .func (PySem.W.fnOf "_law_bag" "_law_bag" (defArgs st_l_bag) (defBody st_l_bag) (defScope st_l_bag) .none kV2 dc2 pm2 an2 cd2 ct2), sl2⟩) (c2 : PySem.W.codeIn K cd2 "_law_bag" = true) (k2 : PySem.W.keepIn K (.ref f2) = true)
    {od3 an3 : Option Addr} {sl3 : Array (Option Value)} {oc3 kV3 dc3 pm3 cd3 ct3 : Value} {f3 : Addr} 
    (a3 : PySem.W.nsIn K mainGlobals "_law_take" = some (some (.ref f3))) (l3 : K.lookup f3 = some ⟨oc3, od3, .func (PySem.W.fnOf "_law_take" "_law_take" (defArgs st_l_take) (defBody st_l_take) (defScope st_l_take) .none kV3 dc3 pm3 an3 cd3 ct3), sl3⟩) (c3 : PySem.W.codeIn K cd3 "_law_take" = true) (k3 : PySem.W.keepIn K (.ref f3) = true)
    {od4 an4 : Option Addr} {sl4 : Array (Option Value)} {oc4 kV4 dc4 pm4 cd4 ct4 : Value} {f4 : Addr} 
    (a4 : PySem.W.nsIn K mainGlobals "_law_alike" = some (some (.ref f4))) (l4 : K.lookup f4 = some ⟨oc4, od4, .func (PySem.W.fnOf "_law_alike" "_law_alike" (defArgs st_l_alike) (defBody st_l_alike) (defScope st_l_alike) .none kV4 dc4 pm4 an4 cd4 ct4), sl4⟩) (c4 : PySem.W.codeIn K cd4 "_law_alike" = true) (k4 : PySem.W.keepIn K (.ref f4) = true)
    {od5 an5 : Option Addr} {sl5 : Array (Option Value)} {oc5 kV5 dc5 pm5 cd5 ct5 : Value} {f5 : Addr} 
    (a5 : PySem.W.nsIn K mainGlobals "_law_is_plan" = some (some (.ref f5))) (l5 : K.lookup f5 = some ⟨oc5, od5, .func (PySem.W.fnOf "_law_is_plan" "_law_is_plan" (defArgs st_l_is_plan) (defBody st_l_is_plan) (defScope st_l_is_plan) .none kV5 dc5 pm5 an5 cd5 ct5), sl5⟩) (c5 : PySem.W.codeIn K cd5 "_law_is_plan" = true) (k5 : PySem.W.keepIn K (.ref f5) = true)
    {od6 an6 : Option Addr} {sl6 : Array (Option Value)} {oc6 kV6 dc6 pm6 cd6 ct6 : Value} {f6 : Addr} 
    (a6 : PySem.W.nsIn K mainGlobals "is_plan" = some (some (.ref f6))) (l6 : K.lookup f6 = some ⟨oc6, od6, .func (PySem.W.fnOf "is_plan" "is_plan" (defArgs st_is_plan) (defBody st_is_plan) (defScope st_is_plan) .none kV6 dc6 pm6 an6 cd6 ct6), sl6⟩) (c6 : PySem.W.codeIn K cd6 "is_plan" = true) (k6 : PySem.W.keepIn K (.ref f6) = true)
    {od7 an7 : Option Addr} {sl7 : Array (Option Value)} {oc7 kV7 dc7 pm7 cd7 ct7 : Value} {f7 : Addr} 
    (a7 : PySem.W.nsIn K mainGlobals "_law_plan" = some (some (.ref f7))) (l7 : K.lookup f7 = some ⟨oc7, od7, .func (PySem.W.fnOf "_law_plan" "_law_plan" (defArgs st_l_plan) (defBody st_l_plan) (defScope st_l_plan) .none kV7 dc7 pm7 an7 cd7 ct7), sl7⟩) (c7 : PySem.W.codeIn K cd7 "_law_plan" = true) (k7 : PySem.W.keepIn K (.ref f7) = true)
    {od8 an8 : Option Addr} {sl8 : Array (Option Value)} {oc8 kV8 dc8 pm8 cd8 ct8 : Value} {f8 : Addr} 
    (a8 : PySem.W.nsIn K mainGlobals "_law_spoilt_part" = some (some (.ref f8))) (l8 : K.lookup f8 = some ⟨oc8, od8, .func (PySem.W.fnOf "_law_spoilt_part" "_law_spoilt_part" (defArgs st_l_spoilt_part) (defBody st_l_spoilt_part) (defScope st_l_spoilt_part) .none kV8 dc8 pm8 an8 cd8 ct8), sl8⟩) (c8 : PySem.W.codeIn K cd8 "_law_spoilt_part" = true) (k8 : PySem.W.keepIn K (.ref f8) = true)
    {od9 an9 : Option Addr} {sl9 : Array (Option Value)} {oc9 kV9 dc9 pm9 cd9 ct9 : Value} {f9 : Addr} 
    (a9 : PySem.W.nsIn K mainGlobals "_law_spoilt" = some (some (.ref f9))) (l9 : K.lookup f9 = some ⟨oc9, od9, .func (PySem.W.fnOf "_law_spoilt" "_law_spoilt" (defArgs st_l_spoilt) (defBody st_l_spoilt) (defScope st_l_spoilt) .none kV9 dc9 pm9 an9 cd9 ct9), sl9⟩) (c9 : PySem.W.codeIn K cd9 "_law_spoilt" = true) (k9 : PySem.W.keepIn K (.ref f9) = true)
    {od10 an10 : Option Addr} {sl10 : Array (Option Value)} {oc10 kV10 dc10 pm10 cd10 ct10 : Value} {f10 : Addr} 
    (a10 : PySem.W.nsIn K mainGlobals "_law_right" = some (some (.ref f10))) (l10 : K.lookup f10 = some ⟨oc10, od10, .func (PySem.W.fnOf "_law_right" "_law_right" (defArgs st_l_right) (defBody st_l_right) (defScope st_l_right) .none kV10 dc10 pm10 an10 cd10 ct10), sl10⟩) (c10 : PySem.W.codeIn K cd10 "_law_right" = true) (k10 : PySem.W.keepIn K (.ref f10) = true)
    {od11 an11 : Option Addr} {sl11 : Array (Option Value)} {oc11 kV11 dc11 pm11 cd11 ct11 : Value} {f11 : Addr} 
    (a11 : PySem.W.nsIn K mainGlobals "law" = some (some (.ref f11))) (l11 : K.lookup f11 = some ⟨oc11, od11, .func (PySem.W.fnOf "law" "law" (defArgs st_law) (defBody st_law) (defScope st_law) .none kV11 dc11 pm11 an11 cd11 ct11), sl11⟩) (c11 : PySem.W.codeIn K cd11 "law" = true) (k11 : PySem.W.keepIn K (.ref f11) = true)
    (z0 : PySem.W.nsIn K mainGlobals "tuple" = some none)
    (z1 : PySem.W.nsIn K mainGlobals "isinstance" = some none)
    (z2 : PySem.W.nsIn K mainGlobals "str" = some none)
    (z3 : PySem.W.nsIn K mainGlobals "all" = some none)
    (z4 : PySem.W.nsIn K mainGlobals "list" = some none)
    (z5 : PySem.W.nsIn K mainGlobals "len" = some none)
    (z6 : PySem.W.nsIn K mainGlobals "enumerate" = some none)
    (z7 : PySem.W.nsIn K mainGlobals "abs" = some none)
    (z8 : PySem.W.nsIn K mainGlobals "repr" = some none)
    (z9 : PySem.W.nsIn K mainGlobals "int" = some none)
    (z10 : PySem.W.nsIn K mainGlobals "range" = some none)
    {aq0_0 : Addr} {odq0_0 : Option Addr} {nq0_0 : Nat} {slq0_0 : Array (Option Value)} {tq0_1 : Tok} (q0 : PySem.W.nsIn K mainGlobals "TAKE" = some (some (.ref aq0_0))) (lkq0_0 : K.lookup aq0_0 = some ⟨.type "tuple", odq0_0, .seq #[(.str "take" tq0_1)] nq0_0, slq0_0⟩)
    {aq1_0 : Addr} {odq1_0 : Option Addr} {nq1_0 : Nat} {slq1_0 : Array (Option Value)} {tq1_1 : Tok} {tq1_2 : Tok} {tq1_3 : Tok} {tq1_4 : Tok} (q1 : PySem.W.nsIn K mainGlobals "WORDS" = some (some (.ref aq1_0))) (lkq1_0 : K.lookup aq1_0 = some ⟨.type "tuple", odq1_0, .seq #[(.str "check" tq1_1), (.str "effect" tq1_2), (.str "finish" tq1_3), (.str "follow" tq1_4)] nq1_0, slq1_0⟩)
    {tc2 : Tok} (q2 : PySem.W.nsIn K mainGlobals "MOST_PARTS" = some (some (.int 5 tc2))) : Txt K mg where

  a_is_part := f0
  d_is_part := _
  F_is_part := ⟨⟨_, _, .none, _, _, _, _, _, _, _, rfl, l0, c0⟩, k0⟩
  g_is_part := PySem.W.mg_of X G a0
  b_is_part := (Binds.all fun us hl => match us, hl with | [_], _ => rfl)
  a_place_of := f1
  d_place_of := _
  F_place_of := ⟨⟨_, _, .none, _, _, _, _, _, _, _, rfl, l1, c1⟩, k1⟩
  g_place_of := PySem.W.mg_of X G a1
  b_place_of := (Binds.all fun us hl => match us, hl with | [_, _], _ => rfl)
  a_l_bag := f2
  d_l_bag := _
  F_l_bag := ⟨⟨_, _, .none, _, _, _, _, _, _, _, rfl, l2, c2⟩, k2⟩
  g_l_bag := PySem.W.mg_of X G a2
  b_l_bag := (Binds.all fun us hl => match us, hl with | [_], _ => rfl)
  a_l_take := f3
  d_l_take := _
  F_l_take := ⟨⟨_, _, .none, _, _, _, _, _, _, _, rfl, l3, c3⟩, k3⟩
  g_l_take := PySem.W.mg_of X G a3
  b_l_take := (Binds.all fun us hl => match us, hl with | [_, _], _ => rfl)
  a_l_alike := f4
  d_l_alike := _
  F_l_alike := ⟨⟨_, _, .none, _, _, _, _, _, _, _, rfl, l4, c4⟩, k4⟩
  g_l_alike := PySem.W.mg_of X G a4
  b_l_alike := (Binds.all fun us hl => match us, hl with | [_, _], _ => rfl)
  a_l_is_plan := f5
  d_l_is_plan := _
  F_l_is_plan := ⟨⟨_, _, .none, _, _, _, _, _, _, _, rfl, l5, c5⟩, k5⟩
  g_l_is_plan := PySem.W.mg_of X G a5
  b_l_is_plan := (Binds.all fun us hl => match us, hl with | [_], _ => rfl)
  a_is_plan := f6
  d_is_plan := _
  F_is_plan := ⟨⟨_, _, .none, _, _, _, _, _, _, _, rfl, l6, c6⟩, k6⟩
  g_is_plan := PySem.W.mg_of X G a6
  b_is_plan := (Binds.all fun us hl => match us, hl with | [_], _ => rfl)
  a_l_plan := f7
  d_l_plan := _
  F_l_plan := ⟨⟨_, _, .none, _, _, _, _, _, _, _, rfl, l7, c7⟩, k7⟩
  g_l_plan := PySem.W.mg_of X G a7
  b_l_plan := (Binds.all fun us hl => match us, hl with | [_], _ => rfl)
  a_l_spoilt_part := f8
  d_l_spoilt_part := _
  F_l_spoilt_part := ⟨⟨_, _, .none, _, _, _, _, _, _, _, rfl, l8, c8⟩, k8⟩
  g_l_spoilt_part := PySem.W.mg_of X G a8
  b_l_spoilt_part := (Binds.all fun us hl => match us, hl with | [_, _], _ => rfl)
  a_l_spoilt := f9
  d_l_spoilt := _
  F_l_spoilt := ⟨⟨_, _, .none, _, _, _, _, _, _, _, rfl, l9, c9⟩, k9⟩
  g_l_spoilt := PySem.W.mg_of X G a9
  b_l_spoilt := (Binds.all fun us hl => match us, hl with | [_, _], _ => rfl)
  a_l_right := f10
  d_l_right := _
  F_l_right := ⟨⟨_, _, .none, _, _, _, _, _, _, _, rfl, l10, c10⟩, k10⟩
  g_l_right := PySem.W.mg_of X G a10
  b_l_right := (Binds.all fun us hl => match us, hl with | [_], _ => rfl)
  a_law := f11
  d_law := _
  F_law := ⟨⟨_, _, .none, _, _, _, _, _, _, _, rfl, l11, c11⟩, k11⟩
  g_law := PySem.W.mg_of X G a11
  b_law := (Binds.all fun us hl => match us, hl with | [_], _ => rfl)
  z_tuple := PySem.W.mg_none_of X G z0
  z_isinstance := PySem.W.mg_none_of X G z1
  z_str := PySem.W.mg_none_of X G z2
  z_all := PySem.W.mg_none_of X G z3
  z_list := PySem.W.mg_none_of X G z4
  z_len := PySem.W.mg_none_of X G z5
  z_enumerate := PySem.W.mg_none_of X G z6
  z_abs := PySem.W.mg_none_of X G z7
  z_repr := PySem.W.mg_none_of X G z8
  z_int := PySem.W.mg_none_of X G z9
  z_range := PySem.W.mg_none_of X G z10
  c_TAKE := ⟨(.ref aq0_0), (.ref aq0_0), PySem.W.mg_of X G q0, rfl, fun m G => (rv_tupK (vs := [(.str "take")]) lkq0_0 (show 1 ≤ sizeLine by decide) (.cons ⟨_, rfl⟩ .nil) (.cons (.str _) .nil))⟩
  c_WORDS := ⟨(.ref aq1_0), (.ref aq1_0), PySem.W.mg_of X G q1, rfl, fun m G => (rv_tupK (vs := [(.str "check"), (.str "effect"), (.str "finish"), (.str "follow")]) lkq1_0 (show 4 ≤ sizeLine by decide) (.cons ⟨_, rfl⟩ (.cons ⟨_, rfl⟩ (.cons ⟨_, rfl⟩ (.cons ⟨_, rfl⟩ .nil)))) (.cons (.str _) (.cons (.str _) (.cons (.str _) (.cons (.str _) .nil)))))⟩
  t_MOST_PARTS := tc2
  c_MOST_PARTS := PySem.W.mg_of X G q2
theorem all_mk {l : PySem.W.OpenLaw} {w : World} {K : PySem.W.Frag} {h : Heap} {mg : Str → Option Value} {fa : Addr} (X : K.In h) (G : h.Ns mainGlobals mg) (hfa : mg "law" = some (.ref fa))
    {od0 an0 : Option Addr} {sl0 : Array (Option Value)} {oc0 kV0 dc0 pm0 cd0 ct0 : Value} {f0 : Addr} 
    (a0 : PySem.W.nsIn K mainGlobals "is_part" = some (some (.ref f0))) (l0 : K.lookup f0 = some ⟨oc0, od0, .func (PySem.W.fnOf "is_part" "is_part" (defArgs st_is_part) (defBody st_is_part) (defScope st_is_part) .none kV0 dc0 pm0 an0 cd0 ct0), sl0⟩) (c0 : PySem.W.codeIn K cd0 "is_part" = true) (k0 : PySem.W.keepIn K (.ref f0) = true)
    {od1 an1 : Option Addr} {sl1 : Array (Option Value)} {oc1 kV1 dc1 pm1 cd1 ct1 : Value} {f1 : Addr} 
    (a1 : PySem.W.nsIn K mainGlobals "place_of" = some (some (.ref f1))) (l1 : K.lookup f1 = some ⟨oc1, od1, .func (PySem.W.fnOf "place_of" "place_of" (defArgs st_place_of) (defBody st_place_of) (defScope st_place_of) .none kV1 dc1 pm1 an1 cd1 ct1), sl1⟩) (c1 : PySem.W.codeIn K cd1 "place_of" = true) (k1 : PySem.W.keepIn K (.ref f1) = true)
    {od2 an2 : Option Addr} {sl2 : Array (Option Value)} {oc2 kV2 dc2 pm2 cd2 ct2 : Value} {f2 : Addr} 
    (a2 : PySem.W.nsIn K mainGlobals "_law_bag" = some (some (.ref f2))) (l2 : K.lookup f2 = some ⟨oc2, od2, .func (PySem.W.fnOf "_law_bag" "_law_bag" (defArgs st_l_bag) (defBody st_l_bag) (defScope st_l_bag) .none kV2 dc2 pm2 an2 cd2 ct2), sl2⟩) (c2 : PySem.W.codeIn K cd2 "_law_bag" = true) (k2 : PySem.W.keepIn K (.ref f2) = true)
    {od3 an3 : Option Addr} {sl3 : Array (Option Value)} {oc3 kV3 dc3 pm3 cd3 ct3 : Value} {f3 : Addr} 
    (a3 : PySem.W.nsIn K mainGlobals "_law_take" = some (some (.ref f3))) (l3 : K.lookup f3 = some ⟨oc3, od3, .func (PySem.W.fnOf "_law_take" "_law_take" (defArgs st_l_take) (defBody st_l_take) (defScope st_l_take) .none kV3 dc3 pm3 an3 cd3 ct3), sl3⟩) (c3 : PySem.W.codeIn K cd3 "_law_take" = true) (k3 : PySem.W.keepIn K (.ref f3) = true)
    {od4 an4 : Option Addr} {sl4 : Array (Option Value)} {oc4 kV4 dc4 pm4 cd4 ct4 : Value} {f4 : Addr} 
    (a4 : PySem.W.nsIn K mainGlobals "_law_alike" = some (some (.ref f4))) (l4 : K.lookup f4 = some ⟨oc4, od4, .func (PySem.W.fnOf "_law_alike" "_law_alike" (defArgs st_l_alike) (defBody st_l_alike) (defScope st_l_alike) .none kV4 dc4 pm4 an4 cd4 ct4), sl4⟩) (c4 : PySem.W.codeIn K cd4 "_law_alike" = true) (k4 : PySem.W.keepIn K (.ref f4) = true)
    {od5 an5 : Option Addr} {sl5 : Array (Option Value)} {oc5 kV5 dc5 pm5 cd5 ct5 : Value} {f5 : Addr} 
    (a5 : PySem.W.nsIn K mainGlobals "_law_is_plan" = some (some (.ref f5))) (l5 : K.lookup f5 = some ⟨oc5, od5, .func (PySem.W.fnOf "_law_is_plan" "_law_is_plan" (defArgs st_l_is_plan) (defBody st_l_is_plan) (defScope st_l_is_plan) .none kV5 dc5 pm5 an5 cd5 ct5), sl5⟩) (c5 : PySem.W.codeIn K cd5 "_law_is_plan" = true) (k5 : PySem.W.keepIn K (.ref f5) = true)
    {od6 an6 : Option Addr} {sl6 : Array (Option Value)} {oc6 kV6 dc6 pm6 cd6 ct6 : Value} {f6 : Addr} 
    (a6 : PySem.W.nsIn K mainGlobals "is_plan" = some (some (.ref f6))) (l6 : K.lookup f6 = some ⟨oc6, od6, .func (PySem.W.fnOf "is_plan" "is_plan" (defArgs st_is_plan) (defBody st_is_plan) (defScope st_is_plan) .none kV6 dc6 pm6 an6 cd6 ct6), sl6⟩) (c6 : PySem.W.codeIn K cd6 "is_plan" = true) (k6 : PySem.W.keepIn K (.ref f6) = true)
    {od7 an7 : Option Addr} {sl7 : Array (Option Value)} {oc7 kV7 dc7 pm7 cd7 ct7 : Value} {f7 : Addr} 
    (a7 : PySem.W.nsIn K mainGlobals "_law_plan" = some (some (.ref f7))) (l7 : K.lookup f7 = some ⟨oc7, od7, .func (PySem.W.fnOf "_law_plan" "_law_plan" (defArgs st_l_plan) (defBody st_l_plan) (defScope st_l_plan) .none kV7 dc7 pm7 an7 cd7 ct7), sl7⟩) (c7 : PySem.W.codeIn K cd7 "_law_plan" = true) (k7 : PySem.W.keepIn K (.ref f7) = true)
    {od8 an8 : Option Addr} {sl8 : Array (Option Value)} {oc8 kV8 dc8 pm8 cd8 ct8 : Value} {f8 : Addr} 
    (a8 : PySem.W.nsIn K mainGlobals "_law_spoilt_part" = some (some (.ref f8))) (l8 : K.lookup f8 = some ⟨oc8, od8, .func (PySem.W.fnOf "_law_spoilt_part" "_law_spoilt_part" (defArgs st_l_spoilt_part) (defBody st_l_spoilt_part) (defScope st_l_spoilt_part) .none kV8 dc8 pm8 an8 cd8 ct8), sl8⟩) (c8 : PySem.W.codeIn K cd8 "_law_spoilt_part" = true) (k8 : PySem.W.keepIn K (.ref f8) = true)
    {od9 an9 : Option Addr} {sl9 : Array (Option Value)} {oc9 kV9 dc9 pm9 cd9 ct9 : Value} {f9 : Addr} 
    (a9 : PySem.W.nsIn K mainGlobals "_law_spoilt" = some (some (.ref f9))) (l9 : K.lookup f9 = some ⟨oc9, od9, .func (PySem.W.fnOf "_law_spoilt" "_law_spoilt" (defArgs st_l_spoilt) (defBody st_l_spoilt) (defScope st_l_spoilt) .none kV9 dc9 pm9 an9 cd9 ct9), sl9⟩) (c9 : PySem.W.codeIn K cd9 "_law_spoilt" = true) (k9 : PySem.W.keepIn K (.ref f9) = true)
    {od10 an10 : Option Addr} {sl10 : Array (Option Value)} {oc10 kV10 dc10 pm10 cd10 ct10 : Value} {f10 : Addr} 
    (a10 : PySem.W.nsIn K mainGlobals "_law_right" = some (some (.ref f10))) (l10 : K.lookup f10 = some ⟨oc10, od10, .func (PySem.W.fnOf "_law_right" "_law_right" (defArgs st_l_right) (defBody st_l_right) (defScope st_l_right) .none kV10 dc10 pm10 an10 cd10 ct10), sl10⟩) (c10 : PySem.W.codeIn K cd10 "_law_right" = true) (k10 : PySem.W.keepIn K (.ref f10) = true)
    {od11 an11 : Option Addr} {sl11 : Array (Option Value)} {oc11 kV11 dc11 pm11 cd11 ct11 : Value} {f11 : Addr} 
    (a11 : PySem.W.nsIn K mainGlobals "law" = some (some (.ref f11))) (l11 : K.lookup f11 = some ⟨oc11, od11, .func (PySem.W.fnOf "law" "law" (defArgs st_law) (defBody st_law) (defScope st_law) .none kV11 dc11 pm11 an11 cd11 ct11), sl11⟩) (c11 : PySem.W.codeIn K cd11 "law" = true) (k11 : PySem.W.keepIn K (.ref f11) = true)
    (z0 : PySem.W.nsIn K mainGlobals "tuple" = some none)
    (z1 : PySem.W.nsIn K mainGlobals "isinstance" = some none)
    (z2 : PySem.W.nsIn K mainGlobals "str" = some none)
    (z3 : PySem.W.nsIn K mainGlobals "all" = some none)
    (z4 : PySem.W.nsIn K mainGlobals "list" = some none)
    (z5 : PySem.W.nsIn K mainGlobals "len" = some none)
    (z6 : PySem.W.nsIn K mainGlobals "enumerate" = some none)
    (z7 : PySem.W.nsIn K mainGlobals "abs" = some none)
    (z8 : PySem.W.nsIn K mainGlobals "repr" = some none)
    (z9 : PySem.W.nsIn K mainGlobals "int" = some none)
    (z10 : PySem.W.nsIn K mainGlobals "range" = some none)
    {aq0_0 : Addr} {odq0_0 : Option Addr} {nq0_0 : Nat} {slq0_0 : Array (Option Value)} {tq0_1 : Tok} (q0 : PySem.W.nsIn K mainGlobals "TAKE" = some (some (.ref aq0_0))) (lkq0_0 : K.lookup aq0_0 = some ⟨.type "tuple", odq0_0, .seq #[(.str "take" tq0_1)] nq0_0, slq0_0⟩)
    {aq1_0 : Addr} {odq1_0 : Option Addr} {nq1_0 : Nat} {slq1_0 : Array (Option Value)} {tq1_1 : Tok} {tq1_2 : Tok} {tq1_3 : Tok} {tq1_4 : Tok} (q1 : PySem.W.nsIn K mainGlobals "WORDS" = some (some (.ref aq1_0))) (lkq1_0 : K.lookup aq1_0 = some ⟨.type "tuple", odq1_0, .seq #[(.str "check" tq1_1), (.str "effect" tq1_2), (.str "finish" tq1_3), (.str "follow" tq1_4)] nq1_0, slq1_0⟩)
    {tc2 : Tok} (q2 : PySem.W.nsIn K mainGlobals "MOST_PARTS" = some (some (.int 5 tc2))) :
    ∃ fd : FuncData, (∀ (s : Shared) (v : Value), BindsTo s fd ⟨[v], []⟩ [("_law_script", v)]) ∧ ∀ base : Heap, FnI l.prog w K mg base 4 fa fd ["_law_script"] m_law := by
  have e := hfa.symm.trans (PySem.W.mg_of X G a11)
  cases e
  exact ⟨PySem.W.fnOf "law" "law" (defArgs st_law) (defBody st_law) (defScope st_law) .none kV11 dc11 pm11 an11 cd11 ct11, fun s v => .of_eq rfl, fun base => fn_law (txt_mk X G a0 l0 c0 k0 a1 l1 c1 k1 a2 l2 c2 k2 a3 l3 c3 k3 a4 l4 c4 k4 a5 l5 c5 k5 a6 l6 c6 k6 a7 l7 c7 k7 a8 l8 c8 k8 a9 l9 c9 k9 a10 l10 c10 k10 a11 l11 c11 k11 z0 z1 z2 z3 z4 z5 z6 z7 z8 z9 z10 q0 lkq0_0 q1 lkq1_0 q2)⟩
end RQ.Lw

namespace RQ.Lw
open PySem L2 TL
theorem li_0 : (0 ≤ lim) = True := eq_true (by decide)
theorem li_1 : (1 ≤ lim) = True := eq_true (by decide)
theorem li_2 : (2 ≤ lim) = True := eq_true (by decide)
theorem li_3 : (3 ≤ lim) = True := eq_true (by decide)
theorem li_4 : (4 ≤ lim) = True := eq_true (by decide)
theorem li_5 : (5 ≤ lim) = True := eq_true (by decide)
theorem li_6 : (6 ≤ lim) = True := eq_true (by decide)
theorem li_7 : (7 ≤ lim) = True := eq_true (by decide)
theorem li_8 : (8 ≤ lim) = True := eq_true (by decide)
theorem li_9 : (9 ≤ lim) = True := eq_true (by decide)
theorem li_10 : (10 ≤ lim) = True := eq_true (by decide)
theorem li_11 : (11 ≤ lim) = True := eq_true (by decide)
theorem li_12 : (12 ≤ lim) = True := eq_true (by decide)
theorem li_13 : (13 ≤ lim) = True := eq_true (by decide)
theorem y_str_NoneType (s : Sto) : isiO (tyN s .non) "str" s = .ok (.bl false) s := rfl
theorem y_str_bool (b : Bool) (s : Sto) : isiO (tyN s (.bl b)) "str" s = .ok (.bl false) s := rfl
theorem y_str_int (i : Int) (s : Sto) : isiO (tyN s (.int i)) "str" s = .ok (.bl false) s := rfl
theorem y_str_str (z : Str) (s : Sto) : isiO (tyN s (.str z)) "str" s = .ok (.bl true) s := rfl
theorem y_str_tuple (xs : List D) (s : Sto) : isiO (tyN s (.tup xs)) "str" s = .ok (.bl false) s := rfl
theorem y_str_list (xs : List D) (s : Sto) : isiO (tyN s (.lst xs)) "str" s = .ok (.bl false) s := rfl
theorem y_str_dict (xs : List (Key × D)) (s : Sto) : isiO (tyN s (.dic xs)) "str" s = .ok (.bl false) s := rfl
theorem y_tuple_NoneType (s : Sto) : isiO (tyN s .non) "tuple" s = .ok (.bl false) s := rfl
theorem y_tuple_bool (b : Bool) (s : Sto) : isiO (tyN s (.bl b)) "tuple" s = .ok (.bl false) s := rfl
theorem y_tuple_int (i : Int) (s : Sto) : isiO (tyN s (.int i)) "tuple" s = .ok (.bl false) s := rfl
theorem y_tuple_str (z : Str) (s : Sto) : isiO (tyN s (.str z)) "tuple" s = .ok (.bl false) s := rfl
theorem y_tuple_tuple (xs : List D) (s : Sto) : isiO (tyN s (.tup xs)) "tuple" s = .ok (.bl true) s := rfl
theorem y_tuple_list (xs : List D) (s : Sto) : isiO (tyN s (.lst xs)) "tuple" s = .ok (.bl false) s := rfl
theorem y_tuple_dict (xs : List (Key × D)) (s : Sto) : isiO (tyN s (.dic xs)) "tuple" s = .ok (.bl false) s := rfl
theorem y_list_NoneType (s : Sto) : isiO (tyN s .non) "list" s = .ok (.bl false) s := rfl
theorem y_list_bool (b : Bool) (s : Sto) : isiO (tyN s (.bl b)) "list" s = .ok (.bl false) s := rfl
theorem y_list_int (i : Int) (s : Sto) : isiO (tyN s (.int i)) "list" s = .ok (.bl false) s := rfl
theorem y_list_str (z : Str) (s : Sto) : isiO (tyN s (.str z)) "list" s = .ok (.bl false) s := rfl
theorem y_list_tuple (xs : List D) (s : Sto) : isiO (tyN s (.tup xs)) "list" s = .ok (.bl false) s := rfl
theorem y_list_list (xs : List D) (s : Sto) : isiO (tyN s (.lst xs)) "list" s = .ok (.bl true) s := rfl
theorem y_list_dict (xs : List (Key × D)) (s : Sto) : isiO (tyN s (.dic xs)) "list" s = .ok (.bl false) s := rfl
/-! ### what a part and a plan are -/
def wd4 : List Str := ["check", "effect", "finish", "follow"]
def isW : PyData → Bool
  | .str z => decide (z ∈ wd4)
  | _ => false
def isPart : PyData → Bool
  | .tuple xs => !xs.isEmpty && xs.all isW
  | _ => false
theorem isInW (s : Sto) (z : Str) : dInD (.str z) (.tup [.str "check", .str "effect", .str "finish", .str "follow"]) s = .ok (.bl (decide (z ∈ wd4))) s := by
  rfl
theorem emp_ne {k : Nat} {xs : List PyData} (h : Gd k (.tuple xs)) (s : Sto) : dNe (.tup (ofPs xs)) (.tup []) s = .ok (.bl (!xs.isEmpty)) s := by
  have := h.eq (q := .tuple []) (l := 4) ⟨rfl, rfl, by decide, by decide⟩ s
  unfold dNe
  rw [show dEqB s (.tup (ofPs xs)) (.tup []) = _ from this]
  cases xs <;> rfl
theorem part_F {k : Nat} {p : PyData} {s : Sto} (h : Gd k p) (hk : k ≤ lim) : m_is_part [ofP p] s = .ok (.bl (isPart p)) s := by
  cases p with
  | tuple xs =>
    have hne := emp_ne h s
    have hl : xs.length ≤ lim := by
      have := wts_len xs
      have h2 : 4 + wts xs ≤ k := h.wt
      omega
    have hc : cmpL (tNm 1) yes E_is_part_1_60 [some (.tup (ofPs xs)), none] (ofPs xs) [] s = .ok (xs.map fun x => D.bl (isW x)) s := by
      rw [ofPs_map]
      refine cmpL_of s xs [] (by simpa using hl) fun a ha => ⟨_, rfl, ?_⟩
      unfold E_is_part_1_60
      cases a <;> simp only [ofP, e_bnd, ↓e_bok, e_bexc, e_ret, e_nox, ↓e_nok, e_cst, e_yes, e_m2, e_m1, e_tst, e_chn, e_and, e_or, e_not, e_vand, e_vor, e_vnot, e_mif, e_anil, e_acons, e_mC, e_call, e_mM, e_sl, e_ono, e_oso, e_dic1, ↓k_tst, ↓k_chnT, ↓k_chnF, ↓k_andT, ↓k_andF, ↓k_orT, ↓k_orF, ↓k_not, ↓k_oso, ↓k_asg, e_seq, ↓e_snx, ↓e_srt, ↓e_sbk, ↓e_sct, ↓e_lok, e_nxs, e_bks, e_cts, e_ex, e_rt, e_set, e_if, e_par, e_asg, f_setix, f_augix, e_sFor, e_forfix, e_src, e_rng1, e_enum, e_lc, e_cmpfix, f_get, ↓f_oo, ↓f_o1, f_ixR, f_ixO, f_ixL, f_ixSl, f_ixT, f_lenR, f_lenO, f_augR, f_setR, f_setO, f_goO, f_run, ↓f_rt, ↓f_nx, v_lenL, v_lenT, v_lenSl, v_addI, v_addII, v_sub, v_neg, v_eqI, v_eqS, v_eqB, v_neI, v_neS, v_lt, v_le, v_gt, v_ge, at_lit, ix_lit', Option.map_some, List.map_cons, List.map_nil, List.length_cons, List.length_nil, List.length_map, List.cons_append, List.nil_append, List.replicate, List.getElem?_cons_zero, List.getElem?_cons_succ, List.set_cons_zero, List.set_cons_succ, List.set_set, f_isi, f_isiO, f_isiB, v_slL, v_slSl, v_abs, v_max, v_min, v_kF, v_srcL, v_srcS, decide_true, decide_false, ↓reduceIte, Bool.false_eq_true, Bool.true_eq_false, Bool.not_true, Bool.not_false, Nat.reduceAdd, Nat.reduceSub, Nat.reduceLT, ↓u_oS, u_mul, u_mulS, u_div, u_mod, u_addS, u_addL, u_slS, u_ixS, u_lenS, u_str, u_kLst, u_kTup, u_kLstS, u_rng, u_upper, u_tNm, u_tTup, u_tNil, u_tCns, ↓u_tcR, f_isTS, wipeD, beq_self_eq_true, and_self, true_and, and_true, Int.reduceLT, Nat.reduceLeDiff, Int.reduceLE, Int.reduceNeg, Int.reduceToNat, Int.reduceAdd, g_src, ↓g_srcO, g_enu, ↓g_enuO, g_isT, ↓g_isTO, g_app, ↓g_appO, g_rev, ↓g_revO, g_lis, ↓g_lisO, g_kS, g_LR, g_kLR, h_fld, h_prop, h_meth, h_callO, h_mk, h_isi, h_gfld, h_gprop, h_gisi, h_isC, h_kMeth, ↓h_methR, h_kCallO, ↓h_notR, h_arN, h_tLst, h_asgH, h_srcT, h_max, h_min, e_fz, e_fzF, f_aug, ↓f_augK, h_mkS, k_mkS, k_mkST, e_fmt, e_js, k_js, e_js0, q_callK, q_strO, q_reprO, q_isCint, q_isCbl, q_isCstr, q_isCtup, q_isClst, q_isCnon, q_intB, q_intI, y_str_NoneType, y_str_bool, y_str_int, y_str_str, y_str_tuple, y_str_list, y_str_dict, y_tuple_NoneType, y_tuple_bool, y_tuple_int, y_tuple_str, y_tuple_tuple, y_tuple_list, y_tuple_dict, y_list_NoneType, y_list_bool, y_list_int, y_list_str, y_list_tuple, y_list_list, y_list_dict, li_0, li_1, li_2, li_3, li_4, li_5, li_6, li_7, li_8, li_9, li_10, li_11, li_12, li_13, isInW, isW]
    unfold m_is_part B_is_part S_is_part_1
    cases he : xs.isEmpty with
    | true =>
      have e0 : xs = [] := List.isEmpty_iff.mp he
      subst e0
      simp only [ofP, ofPs, e_bnd, ↓e_bok, e_bexc, e_ret, e_nox, ↓e_nok, e_cst, e_yes, e_m2, e_m1, e_tst, e_chn, e_and, e_or, e_not, e_vand, e_vor, e_vnot, e_mif, e_anil, e_acons, e_mC, e_call, e_mM, e_sl, e_ono, e_oso, e_dic1, ↓k_tst, ↓k_chnT, ↓k_chnF, ↓k_andT, ↓k_andF, ↓k_orT, ↓k_orF, ↓k_not, ↓k_oso, ↓k_asg, e_seq, ↓e_snx, ↓e_srt, ↓e_sbk, ↓e_sct, ↓e_lok, e_nxs, e_bks, e_cts, e_ex, e_rt, e_set, e_if, e_par, e_asg, f_setix, f_augix, e_sFor, e_forfix, e_src, e_rng1, e_enum, e_lc, e_cmpfix, f_get, ↓f_oo, ↓f_o1, f_ixR, f_ixO, f_ixL, f_ixSl, f_ixT, f_lenR, f_lenO, f_augR, f_setR, f_setO, f_goO, f_run, ↓f_rt, ↓f_nx, v_lenL, v_lenT, v_lenSl, v_addI, v_addII, v_sub, v_neg, v_eqI, v_eqS, v_eqB, v_neI, v_neS, v_lt, v_le, v_gt, v_ge, at_lit, ix_lit', Option.map_some, List.map_cons, List.map_nil, List.length_cons, List.length_nil, List.length_map, List.cons_append, List.nil_append, List.replicate, List.getElem?_cons_zero, List.getElem?_cons_succ, List.set_cons_zero, List.set_cons_succ, List.set_set, f_isi, f_isiO, f_isiB, v_slL, v_slSl, v_abs, v_max, v_min, v_kF, v_srcL, v_srcS, decide_true, decide_false, ↓reduceIte, Bool.false_eq_true, Bool.true_eq_false, Bool.not_true, Bool.not_false, Nat.reduceAdd, Nat.reduceSub, Nat.reduceLT, ↓u_oS, u_mul, u_mulS, u_div, u_mod, u_addS, u_addL, u_slS, u_ixS, u_lenS, u_str, u_kLst, u_kTup, u_kLstS, u_rng, u_upper, u_tNm, u_tTup, u_tNil, u_tCns, ↓u_tcR, f_isTS, wipeD, beq_self_eq_true, and_self, true_and, and_true, Int.reduceLT, Nat.reduceLeDiff, Int.reduceLE, Int.reduceNeg, Int.reduceToNat, Int.reduceAdd, g_src, ↓g_srcO, g_enu, ↓g_enuO, g_isT, ↓g_isTO, g_app, ↓g_appO, g_rev, ↓g_revO, g_lis, ↓g_lisO, g_kS, g_LR, g_kLR, h_fld, h_prop, h_meth, h_callO, h_mk, h_isi, h_gfld, h_gprop, h_gisi, h_isC, h_kMeth, ↓h_methR, h_kCallO, ↓h_notR, h_arN, h_tLst, h_asgH, h_srcT, h_max, h_min, e_fz, e_fzF, f_aug, ↓f_augK, h_mkS, k_mkS, k_mkST, e_fmt, e_js, k_js, e_js0, q_callK, q_strO, q_reprO, q_isCint, q_isCbl, q_isCstr, q_isCtup, q_isClst, q_isCnon, q_intB, q_intI, y_str_NoneType, y_str_bool, y_str_int, y_str_str, y_str_tuple, y_str_list, y_str_dict, y_tuple_NoneType, y_tuple_bool, y_tuple_int, y_tuple_str, y_tuple_tuple, y_tuple_list, y_tuple_dict, y_list_NoneType, y_list_bool, y_list_int, y_list_str, y_list_tuple, y_list_list, y_list_dict, li_0, li_1, li_2, li_3, li_4, li_5, li_6, li_7, li_8, li_9, li_10, li_11, li_12, li_13]; rfl
    | false =>
      rw [he] at hne
      simp only [ofP, e_bnd, ↓e_bok, e_bexc, e_ret, e_nox, ↓e_nok, e_cst, e_yes, e_m2, e_m1, e_tst, e_chn, e_and, e_or, e_not, e_vand, e_vor, e_vnot, e_mif, e_anil, e_acons, e_mC, e_call, e_mM, e_sl, e_ono, e_oso, e_dic1, ↓k_tst, ↓k_chnT, ↓k_chnF, ↓k_andT, ↓k_andF, ↓k_orT, ↓k_orF, ↓k_not, ↓k_oso, ↓k_asg, e_seq, ↓e_snx, ↓e_srt, ↓e_sbk, ↓e_sct, ↓e_lok, e_nxs, e_bks, e_cts, e_ex, e_rt, e_set, e_if, e_par, e_asg, f_setix, f_augix, e_sFor, e_forfix, e_src, e_rng1, e_enum, e_lc, e_cmpfix, f_get, ↓f_oo, ↓f_o1, f_ixR, f_ixO, f_ixL, f_ixSl, f_ixT, f_lenR, f_lenO, f_augR, f_setR, f_setO, f_goO, f_run, ↓f_rt, ↓f_nx, v_lenL, v_lenT, v_lenSl, v_addI, v_addII, v_sub, v_neg, v_eqI, v_eqS, v_eqB, v_neI, v_neS, v_lt, v_le, v_gt, v_ge, at_lit, ix_lit', Option.map_some, List.map_cons, List.map_nil, List.length_cons, List.length_nil, List.length_map, List.cons_append, List.nil_append, List.replicate, List.getElem?_cons_zero, List.getElem?_cons_succ, List.set_cons_zero, List.set_cons_succ, List.set_set, f_isi, f_isiO, f_isiB, v_slL, v_slSl, v_abs, v_max, v_min, v_kF, v_srcL, v_srcS, decide_true, decide_false, ↓reduceIte, Bool.false_eq_true, Bool.true_eq_false, Bool.not_true, Bool.not_false, Nat.reduceAdd, Nat.reduceSub, Nat.reduceLT, ↓u_oS, u_mul, u_mulS, u_div, u_mod, u_addS, u_addL, u_slS, u_ixS, u_lenS, u_str, u_kLst, u_kTup, u_kLstS, u_rng, u_upper, u_tNm, u_tTup, u_tNil, u_tCns, ↓u_tcR, f_isTS, wipeD, beq_self_eq_true, and_self, true_and, and_true, Int.reduceLT, Nat.reduceLeDiff, Int.reduceLE, Int.reduceNeg, Int.reduceToNat, Int.reduceAdd, g_src, ↓g_srcO, g_enu, ↓g_enuO, g_isT, ↓g_isTO, g_app, ↓g_appO, g_rev, ↓g_revO, g_lis, ↓g_lisO, g_kS, g_LR, g_kLR, h_fld, h_prop, h_meth, h_callO, h_mk, h_isi, h_gfld, h_gprop, h_gisi, h_isC, h_kMeth, ↓h_methR, h_kCallO, ↓h_notR, h_arN, h_tLst, h_asgH, h_srcT, h_max, h_min, e_fz, e_fzF, f_aug, ↓f_augK, h_mkS, k_mkS, k_mkST, e_fmt, e_js, k_js, e_js0, q_callK, q_strO, q_reprO, q_isCint, q_isCbl, q_isCstr, q_isCtup, q_isClst, q_isCnon, q_intB, q_intI, y_str_NoneType, y_str_bool, y_str_int, y_str_str, y_str_tuple, y_str_list, y_str_dict, y_tuple_NoneType, y_tuple_bool, y_tuple_int, y_tuple_str, y_tuple_tuple, y_tuple_list, y_tuple_dict, y_list_NoneType, y_list_bool, y_list_int, y_list_str, y_list_tuple, y_list_list, y_list_dict, li_0, li_1, li_2, li_3, li_4, li_5, li_6, li_7, li_8, li_9, li_10, li_11, li_12, li_13, hne, hc, call_all, isPart, he, Bool.true_and]
  | _ => unfold m_is_part B_is_part S_is_part_1; simp only [ofP, e_bnd, ↓e_bok, e_bexc, e_ret, e_nox, ↓e_nok, e_cst, e_yes, e_m2, e_m1, e_tst, e_chn, e_and, e_or, e_not, e_vand, e_vor, e_vnot, e_mif, e_anil, e_acons, e_mC, e_call, e_mM, e_sl, e_ono, e_oso, e_dic1, ↓k_tst, ↓k_chnT, ↓k_chnF, ↓k_andT, ↓k_andF, ↓k_orT, ↓k_orF, ↓k_not, ↓k_oso, ↓k_asg, e_seq, ↓e_snx, ↓e_srt, ↓e_sbk, ↓e_sct, ↓e_lok, e_nxs, e_bks, e_cts, e_ex, e_rt, e_set, e_if, e_par, e_asg, f_setix, f_augix, e_sFor, e_forfix, e_src, e_rng1, e_enum, e_lc, e_cmpfix, f_get, ↓f_oo, ↓f_o1, f_ixR, f_ixO, f_ixL, f_ixSl, f_ixT, f_lenR, f_lenO, f_augR, f_setR, f_setO, f_goO, f_run, ↓f_rt, ↓f_nx, v_lenL, v_lenT, v_lenSl, v_addI, v_addII, v_sub, v_neg, v_eqI, v_eqS, v_eqB, v_neI, v_neS, v_lt, v_le, v_gt, v_ge, at_lit, ix_lit', Option.map_some, List.map_cons, List.map_nil, List.length_cons, List.length_nil, List.length_map, List.cons_append, List.nil_append, List.replicate, List.getElem?_cons_zero, List.getElem?_cons_succ, List.set_cons_zero, List.set_cons_succ, List.set_set, f_isi, f_isiO, f_isiB, v_slL, v_slSl, v_abs, v_max, v_min, v_kF, v_srcL, v_srcS, decide_true, decide_false, ↓reduceIte, Bool.false_eq_true, Bool.true_eq_false, Bool.not_true, Bool.not_false, Nat.reduceAdd, Nat.reduceSub, Nat.reduceLT, ↓u_oS, u_mul, u_mulS, u_div, u_mod, u_addS, u_addL, u_slS, u_ixS, u_lenS, u_str, u_kLst, u_kTup, u_kLstS, u_rng, u_upper, u_tNm, u_tTup, u_tNil, u_tCns, ↓u_tcR, f_isTS, wipeD, beq_self_eq_true, and_self, true_and, and_true, Int.reduceLT, Nat.reduceLeDiff, Int.reduceLE, Int.reduceNeg, Int.reduceToNat, Int.reduceAdd, g_src, ↓g_srcO, g_enu, ↓g_enuO, g_isT, ↓g_isTO, g_app, ↓g_appO, g_rev, ↓g_revO, g_lis, ↓g_lisO, g_kS, g_LR, g_kLR, h_fld, h_prop, h_meth, h_callO, h_mk, h_isi, h_gfld, h_gprop, h_gisi, h_isC, h_kMeth, ↓h_methR, h_kCallO, ↓h_notR, h_arN, h_tLst, h_asgH, h_srcT, h_max, h_min, e_fz, e_fzF, f_aug, ↓f_augK, h_mkS, k_mkS, k_mkST, e_fmt, e_js, k_js, e_js0, q_callK, q_strO, q_reprO, q_isCint, q_isCbl, q_isCstr, q_isCtup, q_isClst, q_isCnon, q_intB, q_intI, y_str_NoneType, y_str_bool, y_str_int, y_str_str, y_str_tuple, y_str_list, y_str_dict, y_tuple_NoneType, y_tuple_bool, y_tuple_int, y_tuple_str, y_tuple_tuple, y_tuple_list, y_tuple_dict, y_list_NoneType, y_list_bool, y_list_int, y_list_str, y_list_tuple, y_list_list, y_list_dict, li_0, li_1, li_2, li_3, li_4, li_5, li_6, li_7, li_8, li_9, li_10, li_11, li_12, li_13]; rfl

/-! ### is_plan -/
def pStr : PyData → List Str
  | .tuple xs => xs.filterMap fun x => match x with | .str z => some z | _ => none
  | _ => []
def wordsOf (ps : List PyData) : List Str := ps.flatMap pStr
def okW (ws : List Str) : Bool := decide (ws.count (Str.ofString "effect") = 1) && decide (ws.count (Str.ofString "finish") = 1) && decide (ws.count (Str.ofString "check") < 2) && decide (ws.count (Str.ofString "follow") < 2)
def pTake : PyData := .tuple [.str "take"]
def restOk (r : List PyData) : Bool := r.all isPart && okW (wordsOf r)
def isPlanB : PyData → Bool
  | .list (p0 :: r) => decide (2 ≤ r.length + 1) && decide (r.length + 1 ≤ 5) && PyData.eqv p0 pTake && restOk r
  | _ => false
theorem part_strs {p : PyData} (h : isPart p = true) : ∃ zs : List Str, p = .tuple (zs.map PyData.str) ∧ pStr p = zs := by
  cases p with
  | tuple xs =>
    have hx : xs.all isW = true := by
      unfold isPart at h
      rw [Bool.and_eq_true] at h
      exact h.2
    refine ⟨pStr (.tuple xs), ?_, rfl⟩
    congr 1
    show xs = (xs.filterMap _).map PyData.str
    clear h
    induction xs with
    | nil => rfl
    | cons x xs ih =>
      rw [List.all_cons, Bool.and_eq_true] at hx
      cases x with
      | str z =>
        rw [List.filterMap_cons]
        show PyData.str z :: xs = PyData.str z :: _
        rw [← ih hx.2]
      | _ => exact absurd hx.1 Bool.false_ne_true
  | _ => exact absurd h Bool.false_ne_true

theorem gTake : Gd 60 pTake := ⟨by decide +kernel, rfl, by decide, by decide +kernel⟩
theorem ne_F {k l : Nat} {p q : PyData} (h : Gd k p) (g : Gd l q) (s : Sto) : dNe (ofP p) (ofP q) s = .ok (.bl (!PyData.eqv p q)) s := by
  unfold dNe
  rw [h.eq g s]
theorem eq_F {k l : Nat} {p q : PyData} (h : Gd k p) (g : Gd l q) (s : Sto) : dEq (ofP p) (ofP q) s = .ok (.bl (PyData.eqv p q)) s := by
  unfold dEq
  rw [h.eq g s]
theorem ne_take {k : Nat} {p : PyData} (h : Gd k p) (s : Sto) : dNe (ofP p) (.tup [.str "take"]) s = .ok (.bl (!PyData.eqv p pTake)) s := ne_F h gTake s
theorem words_len : ∀ (r : List PyData), (wordsOf r).length ≤ wts r
  | [] => by decide
  | p :: r => by
    have ih := words_len r
    have h1 : (pStr p).length ≤ wt p := by
      cases p with
      | tuple xs =>
        have h2 := wts_len xs
        have h3 : xs.length ≤ 4 + wts xs := by omega
        exact Nat.le_trans (List.length_filterMap_le _ _) h3
      | _ => exact Nat.zero_le _
    show ((p :: r).flatMap pStr).length ≤ wt p + 2 + wts r
    rw [List.flatMap_cons, List.length_append]
    have : (wordsOf r).length = (r.flatMap pStr).length := rfl
    omega
theorem int_le (n : Nat) : (5 < (n : Int)) = (5 < n) := propext (by omega)
theorem plan_lst {k : Nat} {p0 : PyData} {r : List PyData} {s : Sto} (h : Gd k (.list (p0 :: r))) (hk : k ≤ lim) : m_is_plan [ofP (.list (p0 :: r))] s = .ok (.bl (isPlanB (.list (p0 :: r)))) s := by
  have g0 := h.cons.1
  have gr := h.cons.2
  have hl : r.length ≤ lim := by have := gr.len; omega
  have hlen : (ofPs r).length = r.length := by rw [ofPs_map, List.length_map]
  have ht := ne_take g0 s
  have hp : cmpL (tNm 2) yes E_is_plan_3_15 [some (.lst (ofP p0 :: ofPs r)), none, none, none] (ofPs r) [] s = .ok (r.map fun x => D.bl (isPart x)) s := by
    rw [ofPs_map]
    refine cmpL_of s r [] (by simpa using hl) fun a ha => ⟨_, rfl, ?_⟩
    unfold E_is_plan_3_15
    simp only [e_bnd, ↓e_bok, e_bexc, e_ret, e_nox, ↓e_nok, e_cst, e_yes, e_m2, e_m1, e_tst, e_chn, e_and, e_or, e_not, e_vand, e_vor, e_vnot, e_mif, e_anil, e_acons, e_mC, e_call, e_mM, e_sl, e_ono, e_oso, e_dic1, ↓k_tst, ↓k_chnT, ↓k_chnF, ↓k_andT, ↓k_andF, ↓k_orT, ↓k_orF, ↓k_not, ↓k_oso, ↓k_asg, e_seq, ↓e_snx, ↓e_srt, ↓e_sbk, ↓e_sct, ↓e_lok, e_nxs, e_bks, e_cts, e_ex, e_rt, e_set, e_if, e_par, e_asg, f_setix, f_augix, e_sFor, e_forfix, e_src, e_rng1, e_enum, e_lc, e_cmpfix, f_get, ↓f_oo, ↓f_o1, f_ixR, f_ixO, f_ixL, f_ixSl, f_ixT, f_lenR, f_lenO, f_augR, f_setR, f_setO, f_goO, f_run, ↓f_rt, ↓f_nx, v_lenL, v_lenT, v_lenSl, v_addI, v_addII, v_sub, v_neg, v_eqI, v_eqS, v_eqB, v_neI, v_neS, v_lt, v_le, v_gt, v_ge, at_lit, ix_lit', Option.map_some, List.map_cons, List.map_nil, List.length_cons, List.length_nil, List.length_map, List.cons_append, List.nil_append, List.replicate, List.getElem?_cons_zero, List.getElem?_cons_succ, List.set_cons_zero, List.set_cons_succ, List.set_set, f_isi, f_isiO, f_isiB, v_slL, v_slSl, v_abs, v_max, v_min, v_kF, v_srcL, v_srcS, decide_true, decide_false, ↓reduceIte, Bool.false_eq_true, Bool.true_eq_false, Bool.not_true, Bool.not_false, Nat.reduceAdd, Nat.reduceSub, Nat.reduceLT, ↓u_oS, u_mul, u_mulS, u_div, u_mod, u_addS, u_addL, u_slS, u_ixS, u_lenS, u_str, u_kLst, u_kTup, u_kLstS, u_rng, u_upper, u_tNm, u_tTup, u_tNil, u_tCns, ↓u_tcR, f_isTS, wipeD, beq_self_eq_true, and_self, true_and, and_true, Int.reduceLT, Nat.reduceLeDiff, Int.reduceLE, Int.reduceNeg, Int.reduceToNat, Int.reduceAdd, g_src, ↓g_srcO, g_enu, ↓g_enuO, g_isT, ↓g_isTO, g_app, ↓g_appO, g_rev, ↓g_revO, g_lis, ↓g_lisO, g_kS, g_LR, g_kLR, h_fld, h_prop, h_meth, h_callO, h_mk, h_isi, h_gfld, h_gprop, h_gisi, h_isC, h_kMeth, ↓h_methR, h_kCallO, ↓h_notR, h_arN, h_tLst, h_asgH, h_srcT, h_max, h_min, e_fz, e_fzF, f_aug, ↓f_augK, h_mkS, k_mkS, k_mkST, e_fmt, e_js, k_js, e_js0, q_callK, q_strO, q_reprO, q_isCint, q_isCbl, q_isCstr, q_isCtup, q_isClst, q_isCnon, q_intB, q_intI, part_F (gr.mem ha) hk]
  unfold m_is_plan B_is_plan S_is_plan_1
  by_cases h1 : 2 ≤ r.length + 1
  · by_cases h2 : r.length + 1 ≤ 5
    · have i1 : decide ((2 : Int) ≤ (((ofPs r).length + 1 : Nat) : Int)) = true := decide_eq_true (by rw [hlen]; omega)
      have i2 : decide ((((ofPs r).length + 1 : Nat) : Int) ≤ (5 : Int)) = true := decide_eq_true (by rw [hlen]; omega)
      cases h3 : PyData.eqv p0 pTake with
      | false =>
        rw [h3] at ht
        simp only [ofP, ofPs, e_bnd, ↓e_bok, e_bexc, e_ret, e_nox, ↓e_nok, e_cst, e_yes, e_m2, e_m1, e_tst, e_chn, e_and, e_or, e_not, e_vand, e_vor, e_vnot, e_mif, e_anil, e_acons, e_mC, e_call, e_mM, e_sl, e_ono, e_oso, e_dic1, ↓k_tst, ↓k_chnT, ↓k_chnF, ↓k_andT, ↓k_andF, ↓k_orT, ↓k_orF, ↓k_not, ↓k_oso, ↓k_asg, e_seq, ↓e_snx, ↓e_srt, ↓e_sbk, ↓e_sct, ↓e_lok, e_nxs, e_bks, e_cts, e_ex, e_rt, e_set, e_if, e_par, e_asg, f_setix, f_augix, e_sFor, e_forfix, e_src, e_rng1, e_enum, e_lc, e_cmpfix, f_get, ↓f_oo, ↓f_o1, f_ixR, f_ixO, f_ixL, f_ixSl, f_ixT, f_lenR, f_lenO, f_augR, f_setR, f_setO, f_goO, f_run, ↓f_rt, ↓f_nx, v_lenL, v_lenT, v_lenSl, v_addI, v_addII, v_sub, v_neg, v_eqI, v_eqS, v_eqB, v_neI, v_neS, v_lt, v_le, v_gt, v_ge, at_lit, ix_lit', Option.map_some, List.map_cons, List.map_nil, List.length_cons, List.length_nil, List.length_map, List.cons_append, List.nil_append, List.replicate, List.getElem?_cons_zero, List.getElem?_cons_succ, List.set_cons_zero, List.set_cons_succ, List.set_set, f_isi, f_isiO, f_isiB, v_slL, v_slSl, v_abs, v_max, v_min, v_kF, v_srcL, v_srcS, decide_true, decide_false, ↓reduceIte, Bool.false_eq_true, Bool.true_eq_false, Bool.not_true, Bool.not_false, Nat.reduceAdd, Nat.reduceSub, Nat.reduceLT, ↓u_oS, u_mul, u_mulS, u_div, u_mod, u_addS, u_addL, u_slS, u_ixS, u_lenS, u_str, u_kLst, u_kTup, u_kLstS, u_rng, u_upper, u_tNm, u_tTup, u_tNil, u_tCns, ↓u_tcR, f_isTS, wipeD, beq_self_eq_true, and_self, true_and, and_true, Int.reduceLT, Nat.reduceLeDiff, Int.reduceLE, Int.reduceNeg, Int.reduceToNat, Int.reduceAdd, g_src, ↓g_srcO, g_enu, ↓g_enuO, g_isT, ↓g_isTO, g_app, ↓g_appO, g_rev, ↓g_revO, g_lis, ↓g_lisO, g_kS, g_LR, g_kLR, h_fld, h_prop, h_meth, h_callO, h_mk, h_isi, h_gfld, h_gprop, h_gisi, h_isC, h_kMeth, ↓h_methR, h_kCallO, ↓h_notR, h_arN, h_tLst, h_asgH, h_srcT, h_max, h_min, e_fz, e_fzF, f_aug, ↓f_augK, h_mkS, k_mkS, k_mkST, e_fmt, e_js, k_js, e_js0, q_callK, q_strO, q_reprO, q_isCint, q_isCbl, q_isCstr, q_isCtup, q_isClst, q_isCnon, q_intB, q_intI, y_str_NoneType, y_str_bool, y_str_int, y_str_str, y_str_tuple, y_str_list, y_str_dict, y_tuple_NoneType, y_tuple_bool, y_tuple_int, y_tuple_str, y_tuple_tuple, y_tuple_list, y_tuple_dict, y_list_NoneType, y_list_bool, y_list_int, y_list_str, y_list_tuple, y_list_list, y_list_dict, li_0, li_1, li_2, li_3, li_4, li_5, li_6, li_7, li_8, li_9, li_10, li_11, li_12, li_13, i1, i2, ht, S_is_plan_2, S_is_plan_3, S_is_plan_5, S_is_plan_6, S_is_plan_8, isPlanB, h1, h2, h3, Bool.and_false, Bool.false_and]
      | true =>
        rw [h3] at ht
        cases h4 : r.all isPart with
        | false =>
          simp only [ofP, ofPs, e_bnd, ↓e_bok, e_bexc, e_ret, e_nox, ↓e_nok, e_cst, e_yes, e_m2, e_m1, e_tst, e_chn, e_and, e_or, e_not, e_vand, e_vor, e_vnot, e_mif, e_anil, e_acons, e_mC, e_call, e_mM, e_sl, e_ono, e_oso, e_dic1, ↓k_tst, ↓k_chnT, ↓k_chnF, ↓k_andT, ↓k_andF, ↓k_orT, ↓k_orF, ↓k_not, ↓k_oso, ↓k_asg, e_seq, ↓e_snx, ↓e_srt, ↓e_sbk, ↓e_sct, ↓e_lok, e_nxs, e_bks, e_cts, e_ex, e_rt, e_set, e_if, e_par, e_asg, f_setix, f_augix, e_sFor, e_forfix, e_src, e_rng1, e_enum, e_lc, e_cmpfix, f_get, ↓f_oo, ↓f_o1, f_ixR, f_ixO, f_ixL, f_ixSl, f_ixT, f_lenR, f_lenO, f_augR, f_setR, f_setO, f_goO, f_run, ↓f_rt, ↓f_nx, v_lenL, v_lenT, v_lenSl, v_addI, v_addII, v_sub, v_neg, v_eqI, v_eqS, v_eqB, v_neI, v_neS, v_lt, v_le, v_gt, v_ge, at_lit, ix_lit', Option.map_some, List.map_cons, List.map_nil, List.length_cons, List.length_nil, List.length_map, List.cons_append, List.nil_append, List.replicate, List.getElem?_cons_zero, List.getElem?_cons_succ, List.set_cons_zero, List.set_cons_succ, List.set_set, f_isi, f_isiO, f_isiB, v_slL, v_slSl, v_abs, v_max, v_min, v_kF, v_srcL, v_srcS, decide_true, decide_false, ↓reduceIte, Bool.false_eq_true, Bool.true_eq_false, Bool.not_true, Bool.not_false, Nat.reduceAdd, Nat.reduceSub, Nat.reduceLT, ↓u_oS, u_mul, u_mulS, u_div, u_mod, u_addS, u_addL, u_slS, u_ixS, u_lenS, u_str, u_kLst, u_kTup, u_kLstS, u_rng, u_upper, u_tNm, u_tTup, u_tNil, u_tCns, ↓u_tcR, f_isTS, wipeD, beq_self_eq_true, and_self, true_and, and_true, Int.reduceLT, Nat.reduceLeDiff, Int.reduceLE, Int.reduceNeg, Int.reduceToNat, Int.reduceAdd, g_src, ↓g_srcO, g_enu, ↓g_enuO, g_isT, ↓g_isTO, g_app, ↓g_appO, g_rev, ↓g_revO, g_lis, ↓g_lisO, g_kS, g_LR, g_kLR, h_fld, h_prop, h_meth, h_callO, h_mk, h_isi, h_gfld, h_gprop, h_gisi, h_isC, h_kMeth, ↓h_methR, h_kCallO, ↓h_notR, h_arN, h_tLst, h_asgH, h_srcT, h_max, h_min, e_fz, e_fzF, f_aug, ↓f_augK, h_mkS, k_mkS, k_mkST, e_fmt, e_js, k_js, e_js0, q_callK, q_strO, q_reprO, q_isCint, q_isCbl, q_isCstr, q_isCtup, q_isClst, q_isCnon, q_intB, q_intI, y_str_NoneType, y_str_bool, y_str_int, y_str_str, y_str_tuple, y_str_list, y_str_dict, y_tuple_NoneType, y_tuple_bool, y_tuple_int, y_tuple_str, y_tuple_tuple, y_tuple_list, y_tuple_dict, y_list_NoneType, y_list_bool, y_list_int, y_list_str, y_list_tuple, y_list_list, y_list_dict, li_0, li_1, li_2, li_3, li_4, li_5, li_6, li_7, li_8, li_9, li_10, li_11, li_12, li_13, i1, i2, ht, S_is_plan_2, S_is_plan_3, S_is_plan_4, S_is_plan_5, S_is_plan_6, S_is_plan_8, isPlanB, restOk, h1, h2, h3, h4, sl_tl, hp, call_all, Bool.and_false, Bool.false_and]
        | true =>
          have hw : mLc2 [2, 3] [3] (mSrc (mSl dSlT (vGet 0) (oSo (cst (.int 1))) oNo)) (tNm 2) yes (mSrc (vGet 2)) (tNm 3) yes E_is_plan_5_12 kF [some (.lst (ofP p0 :: ofPs r)), none, none, none] s = .ok (.lst ((wordsOf r).map D.str)) s := by
            have hc : cmp2 (fix (r.map ofP)) (tNm 2) yes (mSrc (vGet 2)) (tNm 3) yes E_is_plan_5_12 [3] [some (.lst (ofP p0 :: ofPs r)), none, none, none] ((fix (r.map ofP)).n + 1) 0 [] s = .ok (r.flatMap fun p => (pStr p).map D.str) s := by
              refine cmp2_of s r ?_ fun a ha => ?_
              · have : (r.flatMap fun p => (pStr p).map D.str) = (wordsOf r).map D.str := by unfold wordsOf; rw [List.map_flatMap]
                rw [this, List.length_map]
                have := words_len r
                have h5 : 4 + wts r ≤ k := gr.wt
                omega
              · obtain ⟨zs, e1, e2⟩ := part_strs (List.all_eq_true.mp h4 a ha)
                refine ⟨_, zs.map D.str, rfl, ?_, fun acc hacc => ?_⟩
                · rw [e1]
                  simp only [ofP, ofPs_map, List.map_map, e_bnd, ↓e_bok, e_bexc, e_ret, e_nox, ↓e_nok, e_cst, e_yes, e_m2, e_m1, e_tst, e_chn, e_and, e_or, e_not, e_vand, e_vor, e_vnot, e_mif, e_anil, e_acons, e_mC, e_call, e_mM, e_sl, e_ono, e_oso, e_dic1, ↓k_tst, ↓k_chnT, ↓k_chnF, ↓k_andT, ↓k_andF, ↓k_orT, ↓k_orF, ↓k_not, ↓k_oso, ↓k_asg, e_seq, ↓e_snx, ↓e_srt, ↓e_sbk, ↓e_sct, ↓e_lok, e_nxs, e_bks, e_cts, e_ex, e_rt, e_set, e_if, e_par, e_asg, f_setix, f_augix, e_sFor, e_forfix, e_src, e_rng1, e_enum, e_lc, e_cmpfix, f_get, ↓f_oo, ↓f_o1, f_ixR, f_ixO, f_ixL, f_ixSl, f_ixT, f_lenR, f_lenO, f_augR, f_setR, f_setO, f_goO, f_run, ↓f_rt, ↓f_nx, v_lenL, v_lenT, v_lenSl, v_addI, v_addII, v_sub, v_neg, v_eqI, v_eqS, v_eqB, v_neI, v_neS, v_lt, v_le, v_gt, v_ge, at_lit, ix_lit', Option.map_some, List.map_cons, List.map_nil, List.length_cons, List.length_nil, List.length_map, List.cons_append, List.nil_append, List.replicate, List.getElem?_cons_zero, List.getElem?_cons_succ, List.set_cons_zero, List.set_cons_succ, List.set_set, f_isi, f_isiO, f_isiB, v_slL, v_slSl, v_abs, v_max, v_min, v_kF, v_srcL, v_srcS, decide_true, decide_false, ↓reduceIte, Bool.false_eq_true, Bool.true_eq_false, Bool.not_true, Bool.not_false, Nat.reduceAdd, Nat.reduceSub, Nat.reduceLT, ↓u_oS, u_mul, u_mulS, u_div, u_mod, u_addS, u_addL, u_slS, u_ixS, u_lenS, u_str, u_kLst, u_kTup, u_kLstS, u_rng, u_upper, u_tNm, u_tTup, u_tNil, u_tCns, ↓u_tcR, f_isTS, wipeD, beq_self_eq_true, and_self, true_and, and_true, Int.reduceLT, Nat.reduceLeDiff, Int.reduceLE, Int.reduceNeg, Int.reduceToNat, Int.reduceAdd, g_src, ↓g_srcO, g_enu, ↓g_enuO, g_isT, ↓g_isTO, g_app, ↓g_appO, g_rev, ↓g_revO, g_lis, ↓g_lisO, g_kS, g_LR, g_kLR, h_fld, h_prop, h_meth, h_callO, h_mk, h_isi, h_gfld, h_gprop, h_gisi, h_isC, h_kMeth, ↓h_methR, h_kCallO, ↓h_notR, h_arN, h_tLst, h_asgH, h_srcT, h_max, h_min, e_fz, e_fzF, f_aug, ↓f_augK, h_mkS, k_mkS, k_mkST, e_fmt, e_js, k_js, e_js0, q_callK, q_strO, q_reprO, q_isCint, q_isCbl, q_isCstr, q_isCtup, q_isClst, q_isCnon, q_intB, q_intI, List.set]
                  rfl
                · rw [e2] at hacc ⊢
                  rw [List.length_map] at hacc
                  refine cmpL_of s zs acc hacc fun z hz => ⟨_, rfl, ?_⟩
                  unfold E_is_plan_5_12
                  simp only [e_bnd, ↓e_bok, e_bexc, e_ret, e_nox, ↓e_nok, e_cst, e_yes, e_m2, e_m1, e_tst, e_chn, e_and, e_or, e_not, e_vand, e_vor, e_vnot, e_mif, e_anil, e_acons, e_mC, e_call, e_mM, e_sl, e_ono, e_oso, e_dic1, ↓k_tst, ↓k_chnT, ↓k_chnF, ↓k_andT, ↓k_andF, ↓k_orT, ↓k_orF, ↓k_not, ↓k_oso, ↓k_asg, e_seq, ↓e_snx, ↓e_srt, ↓e_sbk, ↓e_sct, ↓e_lok, e_nxs, e_bks, e_cts, e_ex, e_rt, e_set, e_if, e_par, e_asg, f_setix, f_augix, e_sFor, e_forfix, e_src, e_rng1, e_enum, e_lc, e_cmpfix, f_get, ↓f_oo, ↓f_o1, f_ixR, f_ixO, f_ixL, f_ixSl, f_ixT, f_lenR, f_lenO, f_augR, f_setR, f_setO, f_goO, f_run, ↓f_rt, ↓f_nx, v_lenL, v_lenT, v_lenSl, v_addI, v_addII, v_sub, v_neg, v_eqI, v_eqS, v_eqB, v_neI, v_neS, v_lt, v_le, v_gt, v_ge, at_lit, ix_lit', Option.map_some, List.map_cons, List.map_nil, List.length_cons, List.length_nil, List.length_map, List.cons_append, List.nil_append, List.replicate, List.getElem?_cons_zero, List.getElem?_cons_succ, List.set_cons_zero, List.set_cons_succ, List.set_set, f_isi, f_isiO, f_isiB, v_slL, v_slSl, v_abs, v_max, v_min, v_kF, v_srcL, v_srcS, decide_true, decide_false, ↓reduceIte, Bool.false_eq_true, Bool.true_eq_false, Bool.not_true, Bool.not_false, Nat.reduceAdd, Nat.reduceSub, Nat.reduceLT, ↓u_oS, u_mul, u_mulS, u_div, u_mod, u_addS, u_addL, u_slS, u_ixS, u_lenS, u_str, u_kLst, u_kTup, u_kLstS, u_rng, u_upper, u_tNm, u_tTup, u_tNil, u_tCns, ↓u_tcR, f_isTS, wipeD, beq_self_eq_true, and_self, true_and, and_true, Int.reduceLT, Nat.reduceLeDiff, Int.reduceLE, Int.reduceNeg, Int.reduceToNat, Int.reduceAdd, g_src, ↓g_srcO, g_enu, ↓g_enuO, g_isT, ↓g_isTO, g_app, ↓g_appO, g_rev, ↓g_revO, g_lis, ↓g_lisO, g_kS, g_LR, g_kLR, h_fld, h_prop, h_meth, h_callO, h_mk, h_isi, h_gfld, h_gprop, h_gisi, h_isC, h_kMeth, ↓h_methR, h_kCallO, ↓h_notR, h_arN, h_tLst, h_asgH, h_srcT, h_max, h_min, e_fz, e_fzF, f_aug, ↓f_augK, h_mkS, k_mkS, k_mkST, e_fmt, e_js, k_js, e_js0, q_callK, q_strO, q_reprO, q_isCint, q_isCbl, q_isCstr, q_isCtup, q_isClst, q_isCnon, q_intB, q_intI, List.set, wipeD]
            have e3 : (r.flatMap fun p => (pStr p).map D.str) = (wordsOf r).map D.str := by unfold wordsOf; rw [List.map_flatMap]
            rw [e3] at hc
            unfold mLc2
            simp only [e_bnd, ↓e_bok, e_bexc, e_ret, e_nox, ↓e_nok, e_cst, e_yes, e_m2, e_m1, e_tst, e_chn, e_and, e_or, e_not, e_vand, e_vor, e_vnot, e_mif, e_anil, e_acons, e_mC, e_call, e_mM, e_sl, e_ono, e_oso, e_dic1, ↓k_tst, ↓k_chnT, ↓k_chnF, ↓k_andT, ↓k_andF, ↓k_orT, ↓k_orF, ↓k_not, ↓k_oso, ↓k_asg, e_seq, ↓e_snx, ↓e_srt, ↓e_sbk, ↓e_sct, ↓e_lok, e_nxs, e_bks, e_cts, e_ex, e_rt, e_set, e_if, e_par, e_asg, f_setix, f_augix, e_sFor, e_forfix, e_src, e_rng1, e_enum, e_lc, e_cmpfix, f_get, ↓f_oo, ↓f_o1, f_ixR, f_ixO, f_ixL, f_ixSl, f_ixT, f_lenR, f_lenO, f_augR, f_setR, f_setO, f_goO, f_run, ↓f_rt, ↓f_nx, v_lenL, v_lenT, v_lenSl, v_addI, v_addII, v_sub, v_neg, v_eqI, v_eqS, v_eqB, v_neI, v_neS, v_lt, v_le, v_gt, v_ge, at_lit, ix_lit', Option.map_some, List.map_cons, List.map_nil, List.length_cons, List.length_nil, List.length_map, List.cons_append, List.nil_append, List.replicate, List.getElem?_cons_zero, List.getElem?_cons_succ, List.set_cons_zero, List.set_cons_succ, List.set_set, f_isi, f_isiO, f_isiB, v_slL, v_slSl, v_abs, v_max, v_min, v_kF, v_srcL, v_srcS, decide_true, decide_false, ↓reduceIte, Bool.false_eq_true, Bool.true_eq_false, Bool.not_true, Bool.not_false, Nat.reduceAdd, Nat.reduceSub, Nat.reduceLT, ↓u_oS, u_mul, u_mulS, u_div, u_mod, u_addS, u_addL, u_slS, u_ixS, u_lenS, u_str, u_kLst, u_kTup, u_kLstS, u_rng, u_upper, u_tNm, u_tTup, u_tNil, u_tCns, ↓u_tcR, f_isTS, wipeD, beq_self_eq_true, and_self, true_and, and_true, Int.reduceLT, Nat.reduceLeDiff, Int.reduceLE, Int.reduceNeg, Int.reduceToNat, Int.reduceAdd, g_src, ↓g_srcO, g_enu, ↓g_enuO, g_isT, ↓g_isTO, g_app, ↓g_appO, g_rev, ↓g_revO, g_lis, ↓g_lisO, g_kS, g_LR, g_kLR, h_fld, h_prop, h_meth, h_callO, h_mk, h_isi, h_gfld, h_gprop, h_gisi, h_isC, h_kMeth, ↓h_methR, h_kCallO, ↓h_notR, h_arN, h_tLst, h_asgH, h_srcT, h_max, h_min, e_fz, e_fzF, f_aug, ↓f_augK, h_mkS, k_mkS, k_mkST, e_fmt, e_js, k_js, e_js0, q_callK, q_strO, q_reprO, q_isCint, q_isCbl, q_isCstr, q_isCtup, q_isClst, q_isCnon, q_intB, q_intI, sl_tl, List.set, wipeD, ofPs_map] at hc ⊢
            rw [hc]
            simp only [e_bnd, ↓e_bok, e_bexc, e_ret, e_nox, ↓e_nok, e_cst, e_yes, e_m2, e_m1, e_tst, e_chn, e_and, e_or, e_not, e_vand, e_vor, e_vnot, e_mif, e_anil, e_acons, e_mC, e_call, e_mM, e_sl, e_ono, e_oso, e_dic1, ↓k_tst, ↓k_chnT, ↓k_chnF, ↓k_andT, ↓k_andF, ↓k_orT, ↓k_orF, ↓k_not, ↓k_oso, ↓k_asg, e_seq, ↓e_snx, ↓e_srt, ↓e_sbk, ↓e_sct, ↓e_lok, e_nxs, e_bks, e_cts, e_ex, e_rt, e_set, e_if, e_par, e_asg, f_setix, f_augix, e_sFor, e_forfix, e_src, e_rng1, e_enum, e_lc, e_cmpfix, f_get, ↓f_oo, ↓f_o1, f_ixR, f_ixO, f_ixL, f_ixSl, f_ixT, f_lenR, f_lenO, f_augR, f_setR, f_setO, f_goO, f_run, ↓f_rt, ↓f_nx, v_lenL, v_lenT, v_lenSl, v_addI, v_addII, v_sub, v_neg, v_eqI, v_eqS, v_eqB, v_neI, v_neS, v_lt, v_le, v_gt, v_ge, at_lit, ix_lit', Option.map_some, List.map_cons, List.map_nil, List.length_cons, List.length_nil, List.length_map, List.cons_append, List.nil_append, List.replicate, List.getElem?_cons_zero, List.getElem?_cons_succ, List.set_cons_zero, List.set_cons_succ, List.set_set, f_isi, f_isiO, f_isiB, v_slL, v_slSl, v_abs, v_max, v_min, v_kF, v_srcL, v_srcS, decide_true, decide_false, ↓reduceIte, Bool.false_eq_true, Bool.true_eq_false, Bool.not_true, Bool.not_false, Nat.reduceAdd, Nat.reduceSub, Nat.reduceLT, ↓u_oS, u_mul, u_mulS, u_div, u_mod, u_addS, u_addL, u_slS, u_ixS, u_lenS, u_str, u_kLst, u_kTup, u_kLstS, u_rng, u_upper, u_tNm, u_tTup, u_tNil, u_tCns, ↓u_tcR, f_isTS, wipeD, beq_self_eq_true, and_self, true_and, and_true, Int.reduceLT, Nat.reduceLeDiff, Int.reduceLE, Int.reduceNeg, Int.reduceToNat, Int.reduceAdd, g_src, ↓g_srcO, g_enu, ↓g_enuO, g_isT, ↓g_isTO, g_app, ↓g_appO, g_rev, ↓g_revO, g_lis, ↓g_lisO, g_kS, g_LR, g_kLR, h_fld, h_prop, h_meth, h_callO, h_mk, h_isi, h_gfld, h_gprop, h_gisi, h_isC, h_kMeth, ↓h_methR, h_kCallO, ↓h_notR, h_arN, h_tLst, h_asgH, h_srcT, h_max, h_min, e_fz, e_fzF, f_aug, ↓f_augK, h_mkS, k_mkS, k_mkST, e_fmt, e_js, k_js, e_js0, q_callK, q_strO, q_reprO, q_isCint, q_isCbl, q_isCstr, q_isCtup, q_isClst, q_isCnon, q_intB, q_intI]
          simp only [ofP, ofPs, e_bnd, ↓e_bok, e_bexc, e_ret, e_nox, ↓e_nok, e_cst, e_yes, e_m2, e_m1, e_tst, e_chn, e_and, e_or, e_not, e_vand, e_vor, e_vnot, e_mif, e_anil, e_acons, e_mC, e_call, e_mM, e_sl, e_ono, e_oso, e_dic1, ↓k_tst, ↓k_chnT, ↓k_chnF, ↓k_andT, ↓k_andF, ↓k_orT, ↓k_orF, ↓k_not, ↓k_oso, ↓k_asg, e_seq, ↓e_snx, ↓e_srt, ↓e_sbk, ↓e_sct, ↓e_lok, e_nxs, e_bks, e_cts, e_ex, e_rt, e_set, e_if, e_par, e_asg, f_setix, f_augix, e_sFor, e_forfix, e_src, e_rng1, e_enum, e_lc, e_cmpfix, f_get, ↓f_oo, ↓f_o1, f_ixR, f_ixO, f_ixL, f_ixSl, f_ixT, f_lenR, f_lenO, f_augR, f_setR, f_setO, f_goO, f_run, ↓f_rt, ↓f_nx, v_lenL, v_lenT, v_lenSl, v_addI, v_addII, v_sub, v_neg, v_eqI, v_eqS, v_eqB, v_neI, v_neS, v_lt, v_le, v_gt, v_ge, at_lit, ix_lit', Option.map_some, List.map_cons, List.map_nil, List.length_cons, List.length_nil, List.length_map, List.cons_append, List.nil_append, List.replicate, List.getElem?_cons_zero, List.getElem?_cons_succ, List.set_cons_zero, List.set_cons_succ, List.set_set, f_isi, f_isiO, f_isiB, v_slL, v_slSl, v_abs, v_max, v_min, v_kF, v_srcL, v_srcS, decide_true, decide_false, ↓reduceIte, Bool.false_eq_true, Bool.true_eq_false, Bool.not_true, Bool.not_false, Nat.reduceAdd, Nat.reduceSub, Nat.reduceLT, ↓u_oS, u_mul, u_mulS, u_div, u_mod, u_addS, u_addL, u_slS, u_ixS, u_lenS, u_str, u_kLst, u_kTup, u_kLstS, u_rng, u_upper, u_tNm, u_tTup, u_tNil, u_tCns, ↓u_tcR, f_isTS, wipeD, beq_self_eq_true, and_self, true_and, and_true, Int.reduceLT, Nat.reduceLeDiff, Int.reduceLE, Int.reduceNeg, Int.reduceToNat, Int.reduceAdd, g_src, ↓g_srcO, g_enu, ↓g_enuO, g_isT, ↓g_isTO, g_app, ↓g_appO, g_rev, ↓g_revO, g_lis, ↓g_lisO, g_kS, g_LR, g_kLR, h_fld, h_prop, h_meth, h_callO, h_mk, h_isi, h_gfld, h_gprop, h_gisi, h_isC, h_kMeth, ↓h_methR, h_kCallO, ↓h_notR, h_arN, h_tLst, h_asgH, h_srcT, h_max, h_min, e_fz, e_fzF, f_aug, ↓f_augK, h_mkS, k_mkS, k_mkST, e_fmt, e_js, k_js, e_js0, q_callK, q_strO, q_reprO, q_isCint, q_isCbl, q_isCstr, q_isCtup, q_isClst, q_isCnon, q_intB, q_intI, y_str_NoneType, y_str_bool, y_str_int, y_str_str, y_str_tuple, y_str_list, y_str_dict, y_tuple_NoneType, y_tuple_bool, y_tuple_int, y_tuple_str, y_tuple_tuple, y_tuple_list, y_tuple_dict, y_list_NoneType, y_list_bool, y_list_int, y_list_str, y_list_tuple, y_list_list, y_list_dict, li_0, li_1, li_2, li_3, li_4, li_5, li_6, li_7, li_8, li_9, li_10, li_11, li_12, li_13, i1, i2, ht, S_is_plan_2, S_is_plan_3, S_is_plan_4, S_is_plan_5, sl_tl, hp, call_all, h4, hw]
          unfold S_is_plan_6 S_is_plan_8
          have il : ∀ xs : List D, isT "list" (.lst xs) s = true := fun _ => rfl
          have e1 : ∀ n : Nat, (((n : Nat) : Int) == 1) = decide (n = 1) := fun n => by
            by_cases hn : n = 1
            · subst hn; rfl
            · rw [decide_eq_false hn]; exact beq_eq_false_iff_ne.mpr (by omega)
          have e2 : ∀ n : Nat, decide (((n : Nat) : Int) < 2) = decide (n < 2) := fun n => by
            by_cases hn : n < 2
            · rw [decide_eq_true hn]; exact decide_eq_true (by omega)
            · rw [decide_eq_false hn]; exact decide_eq_false (by omega)
          have d1 : decide (2 ≤ r.length + 1) = true := decide_eq_true h1
          have d2 : decide (r.length + 1 ≤ 5) = true := decide_eq_true h2
          simp only [isPlanB, restOk, okW, d1, d2, h3, h4, Bool.true_and]
          cases b1 : decide (List.count (Str.ofString "effect") (wordsOf r) = 1) <;> cases b2 : decide (List.count (Str.ofString "finish") (wordsOf r) = 1) <;> cases b3 : decide (List.count (Str.ofString "check") (wordsOf r) < 2) <;>
            simp only [e_bnd, ↓e_bok, e_bexc, e_ret, e_nox, ↓e_nok, e_cst, e_yes, e_m2, e_m1, e_tst, e_chn, e_and, e_or, e_not, e_vand, e_vor, e_vnot, e_mif, e_anil, e_acons, e_mC, e_call, e_mM, e_sl, e_ono, e_oso, e_dic1, ↓k_tst, ↓k_chnT, ↓k_chnF, ↓k_andT, ↓k_andF, ↓k_orT, ↓k_orF, ↓k_not, ↓k_oso, ↓k_asg, e_seq, ↓e_snx, ↓e_srt, ↓e_sbk, ↓e_sct, ↓e_lok, e_nxs, e_bks, e_cts, e_ex, e_rt, e_set, e_if, e_par, e_asg, f_setix, f_augix, e_sFor, e_forfix, e_src, e_rng1, e_enum, e_lc, e_cmpfix, f_get, ↓f_oo, ↓f_o1, f_ixR, f_ixO, f_ixL, f_ixSl, f_ixT, f_lenR, f_lenO, f_augR, f_setR, f_setO, f_goO, f_run, ↓f_rt, ↓f_nx, v_lenL, v_lenT, v_lenSl, v_addI, v_addII, v_sub, v_neg, v_eqI, v_eqS, v_eqB, v_neI, v_neS, v_lt, v_le, v_gt, v_ge, at_lit, ix_lit', Option.map_some, List.map_cons, List.map_nil, List.length_cons, List.length_nil, List.length_map, List.cons_append, List.nil_append, List.replicate, List.getElem?_cons_zero, List.getElem?_cons_succ, List.set_cons_zero, List.set_cons_succ, List.set_set, f_isi, f_isiO, f_isiB, v_slL, v_slSl, v_abs, v_max, v_min, v_kF, v_srcL, v_srcS, decide_true, decide_false, ↓reduceIte, Bool.false_eq_true, Bool.true_eq_false, Bool.not_true, Bool.not_false, Nat.reduceAdd, Nat.reduceSub, Nat.reduceLT, ↓u_oS, u_mul, u_mulS, u_div, u_mod, u_addS, u_addL, u_slS, u_ixS, u_lenS, u_str, u_kLst, u_kTup, u_kLstS, u_rng, u_upper, u_tNm, u_tTup, u_tNil, u_tCns, ↓u_tcR, f_isTS, wipeD, beq_self_eq_true, and_self, true_and, and_true, Int.reduceLT, Nat.reduceLeDiff, Int.reduceLE, Int.reduceNeg, Int.reduceToNat, Int.reduceAdd, g_src, ↓g_srcO, g_enu, ↓g_enuO, g_isT, ↓g_isTO, g_app, ↓g_appO, g_rev, ↓g_revO, g_lis, ↓g_lisO, g_kS, g_LR, g_kLR, h_fld, h_prop, h_meth, h_callO, h_mk, h_isi, h_gfld, h_gprop, h_gisi, h_isC, h_kMeth, ↓h_methR, h_kCallO, ↓h_notR, h_arN, h_tLst, h_asgH, h_srcT, h_max, h_min, e_fz, e_fzF, f_aug, ↓f_augK, h_mkS, k_mkS, k_mkST, e_fmt, e_js, k_js, e_js0, q_callK, q_strO, q_reprO, q_isCint, q_isCbl, q_isCstr, q_isCtup, q_isClst, q_isCnon, q_intB, q_intI, il, count_F, S_is_plan_7, e1, e2, b1, b2, b3, Bool.true_and, Bool.false_and]
    · have i1 : decide ((2 : Int) ≤ (((ofPs r).length + 1 : Nat) : Int)) = true := decide_eq_true (by rw [hlen]; omega)
      have i2 : decide ((((ofPs r).length + 1 : Nat) : Int) ≤ (5 : Int)) = false := decide_eq_false (by rw [hlen]; omega)
      simp only [ofP, ofPs, e_bnd, ↓e_bok, e_bexc, e_ret, e_nox, ↓e_nok, e_cst, e_yes, e_m2, e_m1, e_tst, e_chn, e_and, e_or, e_not, e_vand, e_vor, e_vnot, e_mif, e_anil, e_acons, e_mC, e_call, e_mM, e_sl, e_ono, e_oso, e_dic1, ↓k_tst, ↓k_chnT, ↓k_chnF, ↓k_andT, ↓k_andF, ↓k_orT, ↓k_orF, ↓k_not, ↓k_oso, ↓k_asg, e_seq, ↓e_snx, ↓e_srt, ↓e_sbk, ↓e_sct, ↓e_lok, e_nxs, e_bks, e_cts, e_ex, e_rt, e_set, e_if, e_par, e_asg, f_setix, f_augix, e_sFor, e_forfix, e_src, e_rng1, e_enum, e_lc, e_cmpfix, f_get, ↓f_oo, ↓f_o1, f_ixR, f_ixO, f_ixL, f_ixSl, f_ixT, f_lenR, f_lenO, f_augR, f_setR, f_setO, f_goO, f_run, ↓f_rt, ↓f_nx, v_lenL, v_lenT, v_lenSl, v_addI, v_addII, v_sub, v_neg, v_eqI, v_eqS, v_eqB, v_neI, v_neS, v_lt, v_le, v_gt, v_ge, at_lit, ix_lit', Option.map_some, List.map_cons, List.map_nil, List.length_cons, List.length_nil, List.length_map, List.cons_append, List.nil_append, List.replicate, List.getElem?_cons_zero, List.getElem?_cons_succ, List.set_cons_zero, List.set_cons_succ, List.set_set, f_isi, f_isiO, f_isiB, v_slL, v_slSl, v_abs, v_max, v_min, v_kF, v_srcL, v_srcS, decide_true, decide_false, ↓reduceIte, Bool.false_eq_true, Bool.true_eq_false, Bool.not_true, Bool.not_false, Nat.reduceAdd, Nat.reduceSub, Nat.reduceLT, ↓u_oS, u_mul, u_mulS, u_div, u_mod, u_addS, u_addL, u_slS, u_ixS, u_lenS, u_str, u_kLst, u_kTup, u_kLstS, u_rng, u_upper, u_tNm, u_tTup, u_tNil, u_tCns, ↓u_tcR, f_isTS, wipeD, beq_self_eq_true, and_self, true_and, and_true, Int.reduceLT, Nat.reduceLeDiff, Int.reduceLE, Int.reduceNeg, Int.reduceToNat, Int.reduceAdd, g_src, ↓g_srcO, g_enu, ↓g_enuO, g_isT, ↓g_isTO, g_app, ↓g_appO, g_rev, ↓g_revO, g_lis, ↓g_lisO, g_kS, g_LR, g_kLR, h_fld, h_prop, h_meth, h_callO, h_mk, h_isi, h_gfld, h_gprop, h_gisi, h_isC, h_kMeth, ↓h_methR, h_kCallO, ↓h_notR, h_arN, h_tLst, h_asgH, h_srcT, h_max, h_min, e_fz, e_fzF, f_aug, ↓f_augK, h_mkS, k_mkS, k_mkST, e_fmt, e_js, k_js, e_js0, q_callK, q_strO, q_reprO, q_isCint, q_isCbl, q_isCstr, q_isCtup, q_isClst, q_isCnon, q_intB, q_intI, y_str_NoneType, y_str_bool, y_str_int, y_str_str, y_str_tuple, y_str_list, y_str_dict, y_tuple_NoneType, y_tuple_bool, y_tuple_int, y_tuple_str, y_tuple_tuple, y_tuple_list, y_tuple_dict, y_list_NoneType, y_list_bool, y_list_int, y_list_str, y_list_tuple, y_list_list, y_list_dict, li_0, li_1, li_2, li_3, li_4, li_5, li_6, li_7, li_8, li_9, li_10, li_11, li_12, li_13, i1, i2, S_is_plan_2, S_is_plan_3, S_is_plan_5, S_is_plan_6, S_is_plan_8, isPlanB, h1, h2, Bool.and_false, Bool.false_and]
  · have i1 : decide ((2 : Int) ≤ (((ofPs r).length + 1 : Nat) : Int)) = false := decide_eq_false (by rw [hlen]; omega)
    simp only [ofP, ofPs, e_bnd, ↓e_bok, e_bexc, e_ret, e_nox, ↓e_nok, e_cst, e_yes, e_m2, e_m1, e_tst, e_chn, e_and, e_or, e_not, e_vand, e_vor, e_vnot, e_mif, e_anil, e_acons, e_mC, e_call, e_mM, e_sl, e_ono, e_oso, e_dic1, ↓k_tst, ↓k_chnT, ↓k_chnF, ↓k_andT, ↓k_andF, ↓k_orT, ↓k_orF, ↓k_not, ↓k_oso, ↓k_asg, e_seq, ↓e_snx, ↓e_srt, ↓e_sbk, ↓e_sct, ↓e_lok, e_nxs, e_bks, e_cts, e_ex, e_rt, e_set, e_if, e_par, e_asg, f_setix, f_augix, e_sFor, e_forfix, e_src, e_rng1, e_enum, e_lc, e_cmpfix, f_get, ↓f_oo, ↓f_o1, f_ixR, f_ixO, f_ixL, f_ixSl, f_ixT, f_lenR, f_lenO, f_augR, f_setR, f_setO, f_goO, f_run, ↓f_rt, ↓f_nx, v_lenL, v_lenT, v_lenSl, v_addI, v_addII, v_sub, v_neg, v_eqI, v_eqS, v_eqB, v_neI, v_neS, v_lt, v_le, v_gt, v_ge, at_lit, ix_lit', Option.map_some, List.map_cons, List.map_nil, List.length_cons, List.length_nil, List.length_map, List.cons_append, List.nil_append, List.replicate, List.getElem?_cons_zero, List.getElem?_cons_succ, List.set_cons_zero, List.set_cons_succ, List.set_set, f_isi, f_isiO, f_isiB, v_slL, v_slSl, v_abs, v_max, v_min, v_kF, v_srcL, v_srcS, decide_true, decide_false, ↓reduceIte, Bool.false_eq_true, Bool.true_eq_false, Bool.not_true, Bool.not_false, Nat.reduceAdd, Nat.reduceSub, Nat.reduceLT, ↓u_oS, u_mul, u_mulS, u_div, u_mod, u_addS, u_addL, u_slS, u_ixS, u_lenS, u_str, u_kLst, u_kTup, u_kLstS, u_rng, u_upper, u_tNm, u_tTup, u_tNil, u_tCns, ↓u_tcR, f_isTS, wipeD, beq_self_eq_true, and_self, true_and, and_true, Int.reduceLT, Nat.reduceLeDiff, Int.reduceLE, Int.reduceNeg, Int.reduceToNat, Int.reduceAdd, g_src, ↓g_srcO, g_enu, ↓g_enuO, g_isT, ↓g_isTO, g_app, ↓g_appO, g_rev, ↓g_revO, g_lis, ↓g_lisO, g_kS, g_LR, g_kLR, h_fld, h_prop, h_meth, h_callO, h_mk, h_isi, h_gfld, h_gprop, h_gisi, h_isC, h_kMeth, ↓h_methR, h_kCallO, ↓h_notR, h_arN, h_tLst, h_asgH, h_srcT, h_max, h_min, e_fz, e_fzF, f_aug, ↓f_augK, h_mkS, k_mkS, k_mkST, e_fmt, e_js, k_js, e_js0, q_callK, q_strO, q_reprO, q_isCint, q_isCbl, q_isCstr, q_isCtup, q_isClst, q_isCnon, q_intB, q_intI, y_str_NoneType, y_str_bool, y_str_int, y_str_str, y_str_tuple, y_str_list, y_str_dict, y_tuple_NoneType, y_tuple_bool, y_tuple_int, y_tuple_str, y_tuple_tuple, y_tuple_list, y_tuple_dict, y_list_NoneType, y_list_bool, y_list_int, y_list_str, y_list_tuple, y_list_list, y_list_dict, li_0, li_1, li_2, li_3, li_4, li_5, li_6, li_7, li_8, li_9, li_10, li_11, li_12, li_13, i1, S_is_plan_2, S_is_plan_3, S_is_plan_5, S_is_plan_6, S_is_plan_8, isPlanB, h1, Bool.and_false, Bool.false_and]

/-! ### lists of data -/
theorem gd_list_iff {k : Nat} {xs : List PyData} : Gd k (.list xs) ↔ PyData.canLayAll0 xs = true ∧ PyData.showableAll xs = true ∧ PyData.depthAll xs + 1 ≤ 9 ∧ 4 + wts xs ≤ k := by
  have e : PyData.depth (.list xs) = PyData.depthAll xs + 1 := by first | rfl | (show 1 + _ = _; omega)
  constructor
  · rintro ⟨h1, h2, h3, h4⟩
    exact ⟨h1, h2, by omega, h4⟩
  · rintro ⟨h1, h2, h3, h4⟩
    exact ⟨h1, h2, by omega, h4⟩
theorem lay_all_iff : ∀ {xs : List PyData}, PyData.canLayAll0 xs = true ↔ ∀ x ∈ xs, x.canLay0 = true
  | [] => ⟨fun _ _ h => (by cases h), fun _ => rfl⟩
  | y :: ys => by
    show (y.canLay0 && PyData.canLayAll0 ys) = true ↔ _
    rw [Bool.and_eq_true, lay_all_iff (xs := ys)]
    simp
theorem shw_all_iff : ∀ {xs : List PyData}, PyData.showableAll xs = true ↔ ∀ x ∈ xs, x.showable = true
  | [] => ⟨fun _ _ h => (by cases h), fun _ => rfl⟩
  | y :: ys => by
    show (y.showable && PyData.showableAll ys) = true ↔ _
    rw [Bool.and_eq_true, shw_all_iff (xs := ys)]
    simp
theorem dep_all_le {n : Nat} : ∀ {xs : List PyData}, PyData.depthAll xs ≤ n ↔ ∀ x ∈ xs, x.depth ≤ n
  | [] => ⟨fun _ _ h => (by cases h), fun _ => Nat.zero_le _⟩
  | y :: ys => by
    show max y.depth (PyData.depthAll ys) ≤ n ↔ _
    rw [Nat.max_le, dep_all_le (xs := ys)]
    simp
theorem gd_list {k : Nat} {xs : List PyData} : Gd k (.list xs) ↔ (∀ x ∈ xs, x.canLay0 = true ∧ x.showable = true ∧ x.depth ≤ 8) ∧ 4 + wts xs ≤ k := by
  rw [gd_list_iff, lay_all_iff, shw_all_iff]
  have := dep_all_le (n := 8) (xs := xs)
  constructor
  · rintro ⟨h1, h2, h3, h4⟩
    exact ⟨fun x hx => ⟨h1 x hx, h2 x hx, this.mp (by omega) x hx⟩, h4⟩
  · rintro ⟨h1, h4⟩
    exact ⟨fun x hx => (h1 x hx).1, fun x hx => (h1 x hx).2.1, by have := this.mpr fun x hx => (h1 x hx).2.2; omega, h4⟩
theorem gd_tuple {k : Nat} {xs : List PyData} : Gd k (.tuple xs) ↔ Gd k (.list xs) :=
  ⟨fun ⟨h1, h2, h3, h4⟩ => ⟨h1, h2, h3, h4⟩, fun ⟨h1, h2, h3, h4⟩ => ⟨h1, h2, h3, h4⟩⟩
theorem gd_sub {k : Nat} {xs ys : List PyData} (h : Gd k (.list xs)) (hs : List.Sublist ys xs) : Gd k (.list ys) := by
  rw [gd_list] at h ⊢
  exact ⟨fun x hx => h.1 x (hs.subset hx), by have := wts_sub hs; omega⟩
def items : PyData → List PyData
  | .tuple xs => xs
  | _ => []
theorem wts_items : ∀ r : List PyData, wts (r.flatMap items) ≤ wts r
  | [] => Nat.le_refl _
  | p :: r => by
    have ih := wts_items r
    have h1 : wts (items p) ≤ wt p := by
      cases p with
      | tuple xs => show wts xs ≤ 4 + wts xs; omega
      | _ => exact Nat.zero_le _
    rw [List.flatMap_cons, wts_app]
    show _ ≤ wt p + 2 + wts r
    omega
theorem gd_items {k : Nat} {r : List PyData} (h : Gd k (.list r)) : Gd k (.list (r.flatMap items)) := by
  rw [gd_list]
  refine ⟨fun x hx => ?_, by have := wts_items r; have h4 : 4 + wts r ≤ k := h.wt; omega⟩
  obtain ⟨p, hp, hx⟩ := List.mem_flatMap.mp hx
  cases p with
  | tuple xs =>
    have hg := gd_tuple.mp (h.mem hp)
    exact (gd_list.mp hg).1 x hx
  | _ => cases hx
def bad1 : PyData → Bool
  | .tuple xs => xs.isEmpty
  | _ => true
theorem nl_F {k : Nat} {ys : List PyData} (h : Gd k (.list ys)) (s : Sto) : dNe (.lst (ys.map ofP)) (.lst []) s = .ok (.bl (!ys.isEmpty)) s := by
  have := ne_F h (q := .list []) (l := 4) ⟨rfl, rfl, by decide, by decide⟩ s
  have e : ofP (.list ys) = .lst (ys.map ofP) := by rw [ofP, ofPs_map]
  rw [e] at this
  refine this.trans ?_
  cases ys <;> rfl
theorem et_F {k : Nat} {xs : List PyData} (h : Gd k (.tuple xs)) (s : Sto) : dEq (.tup (ofPs xs)) (.tup []) s = .ok (.bl xs.isEmpty) s := by
  have := eq_F h (q := .tuple []) (l := 4) ⟨rfl, rfl, by decide, by decide⟩ s
  refine (show dEq (.tup (ofPs xs)) (.tup []) s = _ from this).trans ?_
  cases xs <;> rfl
theorem notIn_F {k : Nat} {p : PyData} (h : Gd k p) (s : Sto) : dNotInD (ofP p) (.lst [.str "check", .str "effect", .str "finish", .str "follow"]) s = .ok (.bl (!isW p)) s := by
  have hd := h.dat s
  have hl := h.lay
  have hq : (PyData.list [.str "check", .str "effect", .str "finish", .str "follow"]).canLay0 = true := by decide +kernel
  have key : isInD s (ofP p) (.lst [.str "check", .str "effect", .str "finish", .str "follow"]) = some (isW p) := by
    cases p with
    | str z => rfl
    | dict _ => cases hl
    | _ =>
      unfold isInD
      simp only [ofP] at hd ⊢
      rw [show isIn s _ (.lst [.str "check", .str "effect", .str "finish", .str "follow"]) = none from rfl]
      simp only [hd]
      rw [show dat s (.lst [.str "check", .str "effect", .str "finish", .str "follow"]) = some (.list [.str "check", .str "effect", .str "finish", .str "follow"]) from rfl]
      simp only [asLL, asL, hl, hq, and_self, ↓reduceIte]
      rfl
  unfold dNotInD
  rw [key]

theorem cmpL_flt {α : Type} {g : TF} {t : EV → M Bool} {e : EV → M D} {σ : EV} {f : α → D} {b : α → Bool} (s : Sto) : ∀ (xs : List α) (acc : List D), acc.length + xs.length ≤ lim → (∀ a ∈ xs, ∃ σ2, g (f a) σ = some σ2 ∧ t σ2 s = .ok (b a) s ∧ e σ2 s = .ok (f a) s) → cmpL g t e σ (xs.map f) acc s = .ok (acc ++ (xs.filter b).map f) s
  | [], acc, _, _ => by simp [cmpL]
  | x :: xs, acc, hl, H => by
    obtain ⟨σ2, h1, h2, h3⟩ := H x List.mem_cons_self
    rw [List.length_cons] at hl
    rw [List.map_cons]
    unfold cmpL
    have hl2 : acc.length < lim := by omega
    cases hb : b x with
    | true =>
      rw [hb] at h2
      simp only [h1, h2, h3, if_pos hl2]
      rw [cmpL_flt s xs (acc ++ [f x]) (by rw [List.length_append, List.length_singleton]; omega) fun a ha => H a (List.mem_cons_of_mem _ ha), List.filter_cons_of_pos hb]
      simp
    | false =>
      rw [hb] at h2
      simp only [h1, h2]
      rw [cmpL_flt s xs acc (by omega) fun a ha => H a (List.mem_cons_of_mem _ ha), List.filter_cons_of_neg (by simp [hb])]
theorem lp1 {k : Nat} {p0 : PyData} {r : List PyData} {s : Sto} (h : Gd k (.list (p0 :: r))) (hk : k ≤ lim) (h1 : 2 ≤ r.length + 1) (h2 : r.length + 1 ≤ 5) : S_l_is_plan_1 [some (.lst (ofP p0 :: ofPs r)), none, none, none] s = .go .nx [some (.lst (ofP p0 :: ofPs r)), none, none, none] s := by
  have hlen : (ofPs r).length = r.length := by rw [ofPs_map, List.length_map]
  have i1 : decide ((((ofPs r).length + 1 : Nat) : Int) < 2) = false := decide_eq_false (by rw [hlen]; omega)
  have i2 : decide ((5 : Int) < (((ofPs r).length + 1 : Nat) : Int)) = false := decide_eq_false (by rw [hlen]; omega)
  unfold S_l_is_plan_1
  simp only [e_bnd, ↓e_bok, e_bexc, e_ret, e_nox, ↓e_nok, e_cst, e_yes, e_m2, e_m1, e_tst, e_chn, e_and, e_or, e_not, e_vand, e_vor, e_vnot, e_mif, e_anil, e_acons, e_mC, e_call, e_mM, e_sl, e_ono, e_oso, e_dic1, ↓k_tst, ↓k_chnT, ↓k_chnF, ↓k_andT, ↓k_andF, ↓k_orT, ↓k_orF, ↓k_not, ↓k_oso, ↓k_asg, e_seq, ↓e_snx, ↓e_srt, ↓e_sbk, ↓e_sct, ↓e_lok, e_nxs, e_bks, e_cts, e_ex, e_rt, e_set, e_if, e_par, e_asg, f_setix, f_augix, e_sFor, e_forfix, e_src, e_rng1, e_enum, e_lc, e_cmpfix, f_get, ↓f_oo, ↓f_o1, f_ixR, f_ixO, f_ixL, f_ixSl, f_ixT, f_lenR, f_lenO, f_augR, f_setR, f_setO, f_goO, f_run, ↓f_rt, ↓f_nx, v_lenL, v_lenT, v_lenSl, v_addI, v_addII, v_sub, v_neg, v_eqI, v_eqS, v_eqB, v_neI, v_neS, v_lt, v_le, v_gt, v_ge, at_lit, ix_lit', Option.map_some, List.map_cons, List.map_nil, List.length_cons, List.length_nil, List.length_map, List.cons_append, List.nil_append, List.replicate, List.getElem?_cons_zero, List.getElem?_cons_succ, List.set_cons_zero, List.set_cons_succ, List.set_set, f_isi, f_isiO, f_isiB, v_slL, v_slSl, v_abs, v_max, v_min, v_kF, v_srcL, v_srcS, decide_true, decide_false, ↓reduceIte, Bool.false_eq_true, Bool.true_eq_false, Bool.not_true, Bool.not_false, Nat.reduceAdd, Nat.reduceSub, Nat.reduceLT, ↓u_oS, u_mul, u_mulS, u_div, u_mod, u_addS, u_addL, u_slS, u_ixS, u_lenS, u_str, u_kLst, u_kTup, u_kLstS, u_rng, u_upper, u_tNm, u_tTup, u_tNil, u_tCns, ↓u_tcR, f_isTS, wipeD, beq_self_eq_true, and_self, true_and, and_true, Int.reduceLT, Nat.reduceLeDiff, Int.reduceLE, Int.reduceNeg, Int.reduceToNat, Int.reduceAdd, g_src, ↓g_srcO, g_enu, ↓g_enuO, g_isT, ↓g_isTO, g_app, ↓g_appO, g_rev, ↓g_revO, g_lis, ↓g_lisO, g_kS, g_LR, g_kLR, h_fld, h_prop, h_meth, h_callO, h_mk, h_isi, h_gfld, h_gprop, h_gisi, h_isC, h_kMeth, ↓h_methR, h_kCallO, ↓h_notR, h_arN, h_tLst, h_asgH, h_srcT, h_max, h_min, e_fz, e_fzF, f_aug, ↓f_augK, h_mkS, k_mkS, k_mkST, e_fmt, e_js, k_js, e_js0, q_callK, q_strO, q_reprO, q_isCint, q_isCbl, q_isCstr, q_isCtup, q_isClst, q_isCnon, q_intB, q_intI, y_str_NoneType, y_str_bool, y_str_int, y_str_str, y_str_tuple, y_str_list, y_str_dict, y_tuple_NoneType, y_tuple_bool, y_tuple_int, y_tuple_str, y_tuple_tuple, y_tuple_list, y_tuple_dict, y_list_NoneType, y_list_bool, y_list_int, y_list_str, y_list_tuple, y_list_list, y_list_dict, i1, i2]
theorem lp1x {k : Nat} {p0 : PyData} {r : List PyData} {s : Sto} (h : Gd k (.list (p0 :: r))) (hk : k ≤ lim) (hn : ¬ (2 ≤ r.length + 1 ∧ r.length + 1 ≤ 5)) : S_l_is_plan_1 [some (.lst (ofP p0 :: ofPs r)), none, none, none] s = .go (.rt (.bl false)) [some (.lst (ofP p0 :: ofPs r)), none, none, none] s := by
  have hlen : (ofPs r).length = r.length := by rw [ofPs_map, List.length_map]
  unfold S_l_is_plan_1
  by_cases h1 : 2 ≤ r.length + 1
  · have i1 : decide ((((ofPs r).length + 1 : Nat) : Int) < 2) = false := decide_eq_false (by rw [hlen]; omega)
    have i2 : decide ((5 : Int) < (((ofPs r).length + 1 : Nat) : Int)) = true := decide_eq_true (by rw [hlen]; omega)
    simp only [e_bnd, ↓e_bok, e_bexc, e_ret, e_nox, ↓e_nok, e_cst, e_yes, e_m2, e_m1, e_tst, e_chn, e_and, e_or, e_not, e_vand, e_vor, e_vnot, e_mif, e_anil, e_acons, e_mC, e_call, e_mM, e_sl, e_ono, e_oso, e_dic1, ↓k_tst, ↓k_chnT, ↓k_chnF, ↓k_andT, ↓k_andF, ↓k_orT, ↓k_orF, ↓k_not, ↓k_oso, ↓k_asg, e_seq, ↓e_snx, ↓e_srt, ↓e_sbk, ↓e_sct, ↓e_lok, e_nxs, e_bks, e_cts, e_ex, e_rt, e_set, e_if, e_par, e_asg, f_setix, f_augix, e_sFor, e_forfix, e_src, e_rng1, e_enum, e_lc, e_cmpfix, f_get, ↓f_oo, ↓f_o1, f_ixR, f_ixO, f_ixL, f_ixSl, f_ixT, f_lenR, f_lenO, f_augR, f_setR, f_setO, f_goO, f_run, ↓f_rt, ↓f_nx, v_lenL, v_lenT, v_lenSl, v_addI, v_addII, v_sub, v_neg, v_eqI, v_eqS, v_eqB, v_neI, v_neS, v_lt, v_le, v_gt, v_ge, at_lit, ix_lit', Option.map_some, List.map_cons, List.map_nil, List.length_cons, List.length_nil, List.length_map, List.cons_append, List.nil_append, List.replicate, List.getElem?_cons_zero, List.getElem?_cons_succ, List.set_cons_zero, List.set_cons_succ, List.set_set, f_isi, f_isiO, f_isiB, v_slL, v_slSl, v_abs, v_max, v_min, v_kF, v_srcL, v_srcS, decide_true, decide_false, ↓reduceIte, Bool.false_eq_true, Bool.true_eq_false, Bool.not_true, Bool.not_false, Nat.reduceAdd, Nat.reduceSub, Nat.reduceLT, ↓u_oS, u_mul, u_mulS, u_div, u_mod, u_addS, u_addL, u_slS, u_ixS, u_lenS, u_str, u_kLst, u_kTup, u_kLstS, u_rng, u_upper, u_tNm, u_tTup, u_tNil, u_tCns, ↓u_tcR, f_isTS, wipeD, beq_self_eq_true, and_self, true_and, and_true, Int.reduceLT, Nat.reduceLeDiff, Int.reduceLE, Int.reduceNeg, Int.reduceToNat, Int.reduceAdd, g_src, ↓g_srcO, g_enu, ↓g_enuO, g_isT, ↓g_isTO, g_app, ↓g_appO, g_rev, ↓g_revO, g_lis, ↓g_lisO, g_kS, g_LR, g_kLR, h_fld, h_prop, h_meth, h_callO, h_mk, h_isi, h_gfld, h_gprop, h_gisi, h_isC, h_kMeth, ↓h_methR, h_kCallO, ↓h_notR, h_arN, h_tLst, h_asgH, h_srcT, h_max, h_min, e_fz, e_fzF, f_aug, ↓f_augK, h_mkS, k_mkS, k_mkST, e_fmt, e_js, k_js, e_js0, q_callK, q_strO, q_reprO, q_isCint, q_isCbl, q_isCstr, q_isCtup, q_isClst, q_isCnon, q_intB, q_intI, y_str_NoneType, y_str_bool, y_str_int, y_str_str, y_str_tuple, y_str_list, y_str_dict, y_tuple_NoneType, y_tuple_bool, y_tuple_int, y_tuple_str, y_tuple_tuple, y_tuple_list, y_tuple_dict, y_list_NoneType, y_list_bool, y_list_int, y_list_str, y_list_tuple, y_list_list, y_list_dict, i1, i2, S_l_is_plan_2]
  · have i1 : decide ((((ofPs r).length + 1 : Nat) : Int) < 2) = true := decide_eq_true (by rw [hlen]; omega)
    simp only [e_bnd, ↓e_bok, e_bexc, e_ret, e_nox, ↓e_nok, e_cst, e_yes, e_m2, e_m1, e_tst, e_chn, e_and, e_or, e_not, e_vand, e_vor, e_vnot, e_mif, e_anil, e_acons, e_mC, e_call, e_mM, e_sl, e_ono, e_oso, e_dic1, ↓k_tst, ↓k_chnT, ↓k_chnF, ↓k_andT, ↓k_andF, ↓k_orT, ↓k_orF, ↓k_not, ↓k_oso, ↓k_asg, e_seq, ↓e_snx, ↓e_srt, ↓e_sbk, ↓e_sct, ↓e_lok, e_nxs, e_bks, e_cts, e_ex, e_rt, e_set, e_if, e_par, e_asg, f_setix, f_augix, e_sFor, e_forfix, e_src, e_rng1, e_enum, e_lc, e_cmpfix, f_get, ↓f_oo, ↓f_o1, f_ixR, f_ixO, f_ixL, f_ixSl, f_ixT, f_lenR, f_lenO, f_augR, f_setR, f_setO, f_goO, f_run, ↓f_rt, ↓f_nx, v_lenL, v_lenT, v_lenSl, v_addI, v_addII, v_sub, v_neg, v_eqI, v_eqS, v_eqB, v_neI, v_neS, v_lt, v_le, v_gt, v_ge, at_lit, ix_lit', Option.map_some, List.map_cons, List.map_nil, List.length_cons, List.length_nil, List.length_map, List.cons_append, List.nil_append, List.replicate, List.getElem?_cons_zero, List.getElem?_cons_succ, List.set_cons_zero, List.set_cons_succ, List.set_set, f_isi, f_isiO, f_isiB, v_slL, v_slSl, v_abs, v_max, v_min, v_kF, v_srcL, v_srcS, decide_true, decide_false, ↓reduceIte, Bool.false_eq_true, Bool.true_eq_false, Bool.not_true, Bool.not_false, Nat.reduceAdd, Nat.reduceSub, Nat.reduceLT, ↓u_oS, u_mul, u_mulS, u_div, u_mod, u_addS, u_addL, u_slS, u_ixS, u_lenS, u_str, u_kLst, u_kTup, u_kLstS, u_rng, u_upper, u_tNm, u_tTup, u_tNil, u_tCns, ↓u_tcR, f_isTS, wipeD, beq_self_eq_true, and_self, true_and, and_true, Int.reduceLT, Nat.reduceLeDiff, Int.reduceLE, Int.reduceNeg, Int.reduceToNat, Int.reduceAdd, g_src, ↓g_srcO, g_enu, ↓g_enuO, g_isT, ↓g_isTO, g_app, ↓g_appO, g_rev, ↓g_revO, g_lis, ↓g_lisO, g_kS, g_LR, g_kLR, h_fld, h_prop, h_meth, h_callO, h_mk, h_isi, h_gfld, h_gprop, h_gisi, h_isC, h_kMeth, ↓h_methR, h_kCallO, ↓h_notR, h_arN, h_tLst, h_asgH, h_srcT, h_max, h_min, e_fz, e_fzF, f_aug, ↓f_augK, h_mkS, k_mkS, k_mkST, e_fmt, e_js, k_js, e_js0, q_callK, q_strO, q_reprO, q_isCint, q_isCbl, q_isCstr, q_isCtup, q_isClst, q_isCnon, q_intB, q_intI, y_str_NoneType, y_str_bool, y_str_int, y_str_str, y_str_tuple, y_str_list, y_str_dict, y_tuple_NoneType, y_tuple_bool, y_tuple_int, y_tuple_str, y_tuple_tuple, y_tuple_list, y_tuple_dict, y_list_NoneType, y_list_bool, y_list_int, y_list_str, y_list_tuple, y_list_list, y_list_dict, i1, S_l_is_plan_2]
theorem lp3 {k : Nat} {p0 : PyData} {r : List PyData} {s : Sto} (h : Gd k (.list (p0 :: r))) (hk : k ≤ lim) :
    S_l_is_plan_3 [some (.lst (ofP p0 :: ofPs r)), none, none, none] s = .go (if ((p0 :: r).filter bad1).isEmpty && PyData.eqv p0 pTake then .nx else .rt (.bl false)) [some (.lst (ofP p0 :: ofPs r)), none, none, none] s := by
  have hl : (p0 :: r).length ≤ lim := by have := h.len; omega
  have hc : cmpL (tNm 2) T_l_is_plan_3_7 E_l_is_plan_3_7 [some (.lst (ofP p0 :: ofPs r)), none, none, none] (ofPs (p0 :: r)) [] s = .ok (((p0 :: r).filter bad1).map ofP) s := by
    rw [ofPs_map (p0 :: r)]
    refine (cmpL_flt (g := tNm 2) (t := T_l_is_plan_3_7) (e := E_l_is_plan_3_7) (σ := [some (.lst (ofP p0 :: ofPs r)), none, none, none]) (f := ofP) (b := bad1) s (p0 :: r) [] (by simpa using hl) fun a ha => ⟨_, rfl, ?_, ?_⟩)
    · have hg := h.mem ha
      unfold T_l_is_plan_3_7
      cases a with
      | tuple xs =>
        have he := et_F hg s
        simp only [ofP, e_bnd, ↓e_bok, e_bexc, e_ret, e_nox, ↓e_nok, e_cst, e_yes, e_m2, e_m1, e_tst, e_chn, e_and, e_or, e_not, e_vand, e_vor, e_vnot, e_mif, e_anil, e_acons, e_mC, e_call, e_mM, e_sl, e_ono, e_oso, e_dic1, ↓k_tst, ↓k_chnT, ↓k_chnF, ↓k_andT, ↓k_andF, ↓k_orT, ↓k_orF, ↓k_not, ↓k_oso, ↓k_asg, e_seq, ↓e_snx, ↓e_srt, ↓e_sbk, ↓e_sct, ↓e_lok, e_nxs, e_bks, e_cts, e_ex, e_rt, e_set, e_if, e_par, e_asg, f_setix, f_augix, e_sFor, e_forfix, e_src, e_rng1, e_enum, e_lc, e_cmpfix, f_get, ↓f_oo, ↓f_o1, f_ixR, f_ixO, f_ixL, f_ixSl, f_ixT, f_lenR, f_lenO, f_augR, f_setR, f_setO, f_goO, f_run, ↓f_rt, ↓f_nx, v_lenL, v_lenT, v_lenSl, v_addI, v_addII, v_sub, v_neg, v_eqI, v_eqS, v_eqB, v_neI, v_neS, v_lt, v_le, v_gt, v_ge, at_lit, ix_lit', Option.map_some, List.map_cons, List.map_nil, List.length_cons, List.length_nil, List.length_map, List.cons_append, List.nil_append, List.replicate, List.getElem?_cons_zero, List.getElem?_cons_succ, List.set_cons_zero, List.set_cons_succ, List.set_set, f_isi, f_isiO, f_isiB, v_slL, v_slSl, v_abs, v_max, v_min, v_kF, v_srcL, v_srcS, decide_true, decide_false, ↓reduceIte, Bool.false_eq_true, Bool.true_eq_false, Bool.not_true, Bool.not_false, Nat.reduceAdd, Nat.reduceSub, Nat.reduceLT, ↓u_oS, u_mul, u_mulS, u_div, u_mod, u_addS, u_addL, u_slS, u_ixS, u_lenS, u_str, u_kLst, u_kTup, u_kLstS, u_rng, u_upper, u_tNm, u_tTup, u_tNil, u_tCns, ↓u_tcR, f_isTS, wipeD, beq_self_eq_true, and_self, true_and, and_true, Int.reduceLT, Nat.reduceLeDiff, Int.reduceLE, Int.reduceNeg, Int.reduceToNat, Int.reduceAdd, g_src, ↓g_srcO, g_enu, ↓g_enuO, g_isT, ↓g_isTO, g_app, ↓g_appO, g_rev, ↓g_revO, g_lis, ↓g_lisO, g_kS, g_LR, g_kLR, h_fld, h_prop, h_meth, h_callO, h_mk, h_isi, h_gfld, h_gprop, h_gisi, h_isC, h_kMeth, ↓h_methR, h_kCallO, ↓h_notR, h_arN, h_tLst, h_asgH, h_srcT, h_max, h_min, e_fz, e_fzF, f_aug, ↓f_augK, h_mkS, k_mkS, k_mkST, e_fmt, e_js, k_js, e_js0, q_callK, q_strO, q_reprO, q_isCint, q_isCbl, q_isCstr, q_isCtup, q_isClst, q_isCnon, q_intB, q_intI, y_str_NoneType, y_str_bool, y_str_int, y_str_str, y_str_tuple, y_str_list, y_str_dict, y_tuple_NoneType, y_tuple_bool, y_tuple_int, y_tuple_str, y_tuple_tuple, y_tuple_list, y_tuple_dict, y_list_NoneType, y_list_bool, y_list_int, y_list_str, y_list_tuple, y_list_list, y_list_dict, li_0, li_1, li_2, li_3, li_4, li_5, li_6, li_7, li_8, li_9, li_10, li_11, li_12, li_13, he, bad1]
      | _ => simp only [ofP, e_bnd, ↓e_bok, e_bexc, e_ret, e_nox, ↓e_nok, e_cst, e_yes, e_m2, e_m1, e_tst, e_chn, e_and, e_or, e_not, e_vand, e_vor, e_vnot, e_mif, e_anil, e_acons, e_mC, e_call, e_mM, e_sl, e_ono, e_oso, e_dic1, ↓k_tst, ↓k_chnT, ↓k_chnF, ↓k_andT, ↓k_andF, ↓k_orT, ↓k_orF, ↓k_not, ↓k_oso, ↓k_asg, e_seq, ↓e_snx, ↓e_srt, ↓e_sbk, ↓e_sct, ↓e_lok, e_nxs, e_bks, e_cts, e_ex, e_rt, e_set, e_if, e_par, e_asg, f_setix, f_augix, e_sFor, e_forfix, e_src, e_rng1, e_enum, e_lc, e_cmpfix, f_get, ↓f_oo, ↓f_o1, f_ixR, f_ixO, f_ixL, f_ixSl, f_ixT, f_lenR, f_lenO, f_augR, f_setR, f_setO, f_goO, f_run, ↓f_rt, ↓f_nx, v_lenL, v_lenT, v_lenSl, v_addI, v_addII, v_sub, v_neg, v_eqI, v_eqS, v_eqB, v_neI, v_neS, v_lt, v_le, v_gt, v_ge, at_lit, ix_lit', Option.map_some, List.map_cons, List.map_nil, List.length_cons, List.length_nil, List.length_map, List.cons_append, List.nil_append, List.replicate, List.getElem?_cons_zero, List.getElem?_cons_succ, List.set_cons_zero, List.set_cons_succ, List.set_set, f_isi, f_isiO, f_isiB, v_slL, v_slSl, v_abs, v_max, v_min, v_kF, v_srcL, v_srcS, decide_true, decide_false, ↓reduceIte, Bool.false_eq_true, Bool.true_eq_false, Bool.not_true, Bool.not_false, Nat.reduceAdd, Nat.reduceSub, Nat.reduceLT, ↓u_oS, u_mul, u_mulS, u_div, u_mod, u_addS, u_addL, u_slS, u_ixS, u_lenS, u_str, u_kLst, u_kTup, u_kLstS, u_rng, u_upper, u_tNm, u_tTup, u_tNil, u_tCns, ↓u_tcR, f_isTS, wipeD, beq_self_eq_true, and_self, true_and, and_true, Int.reduceLT, Nat.reduceLeDiff, Int.reduceLE, Int.reduceNeg, Int.reduceToNat, Int.reduceAdd, g_src, ↓g_srcO, g_enu, ↓g_enuO, g_isT, ↓g_isTO, g_app, ↓g_appO, g_rev, ↓g_revO, g_lis, ↓g_lisO, g_kS, g_LR, g_kLR, h_fld, h_prop, h_meth, h_callO, h_mk, h_isi, h_gfld, h_gprop, h_gisi, h_isC, h_kMeth, ↓h_methR, h_kCallO, ↓h_notR, h_arN, h_tLst, h_asgH, h_srcT, h_max, h_min, e_fz, e_fzF, f_aug, ↓f_augK, h_mkS, k_mkS, k_mkST, e_fmt, e_js, k_js, e_js0, q_callK, q_strO, q_reprO, q_isCint, q_isCbl, q_isCstr, q_isCtup, q_isClst, q_isCnon, q_intB, q_intI, y_str_NoneType, y_str_bool, y_str_int, y_str_str, y_str_tuple, y_str_list, y_str_dict, y_tuple_NoneType, y_tuple_bool, y_tuple_int, y_tuple_str, y_tuple_tuple, y_tuple_list, y_tuple_dict, y_list_NoneType, y_list_bool, y_list_int, y_list_str, y_list_tuple, y_list_list, y_list_dict, li_0, li_1, li_2, li_3, li_4, li_5, li_6, li_7, li_8, li_9, li_10, li_11, li_12, li_13, bad1]
    · unfold E_l_is_plan_3_7
      simp only [e_bnd, ↓e_bok, e_bexc, e_ret, e_nox, ↓e_nok, e_cst, e_yes, e_m2, e_m1, e_tst, e_chn, e_and, e_or, e_not, e_vand, e_vor, e_vnot, e_mif, e_anil, e_acons, e_mC, e_call, e_mM, e_sl, e_ono, e_oso, e_dic1, ↓k_tst, ↓k_chnT, ↓k_chnF, ↓k_andT, ↓k_andF, ↓k_orT, ↓k_orF, ↓k_not, ↓k_oso, ↓k_asg, e_seq, ↓e_snx, ↓e_srt, ↓e_sbk, ↓e_sct, ↓e_lok, e_nxs, e_bks, e_cts, e_ex, e_rt, e_set, e_if, e_par, e_asg, f_setix, f_augix, e_sFor, e_forfix, e_src, e_rng1, e_enum, e_lc, e_cmpfix, f_get, ↓f_oo, ↓f_o1, f_ixR, f_ixO, f_ixL, f_ixSl, f_ixT, f_lenR, f_lenO, f_augR, f_setR, f_setO, f_goO, f_run, ↓f_rt, ↓f_nx, v_lenL, v_lenT, v_lenSl, v_addI, v_addII, v_sub, v_neg, v_eqI, v_eqS, v_eqB, v_neI, v_neS, v_lt, v_le, v_gt, v_ge, at_lit, ix_lit', Option.map_some, List.map_cons, List.map_nil, List.length_cons, List.length_nil, List.length_map, List.cons_append, List.nil_append, List.replicate, List.getElem?_cons_zero, List.getElem?_cons_succ, List.set_cons_zero, List.set_cons_succ, List.set_set, f_isi, f_isiO, f_isiB, v_slL, v_slSl, v_abs, v_max, v_min, v_kF, v_srcL, v_srcS, decide_true, decide_false, ↓reduceIte, Bool.false_eq_true, Bool.true_eq_false, Bool.not_true, Bool.not_false, Nat.reduceAdd, Nat.reduceSub, Nat.reduceLT, ↓u_oS, u_mul, u_mulS, u_div, u_mod, u_addS, u_addL, u_slS, u_ixS, u_lenS, u_str, u_kLst, u_kTup, u_kLstS, u_rng, u_upper, u_tNm, u_tTup, u_tNil, u_tCns, ↓u_tcR, f_isTS, wipeD, beq_self_eq_true, and_self, true_and, and_true, Int.reduceLT, Nat.reduceLeDiff, Int.reduceLE, Int.reduceNeg, Int.reduceToNat, Int.reduceAdd, g_src, ↓g_srcO, g_enu, ↓g_enuO, g_isT, ↓g_isTO, g_app, ↓g_appO, g_rev, ↓g_revO, g_lis, ↓g_lisO, g_kS, g_LR, g_kLR, h_fld, h_prop, h_meth, h_callO, h_mk, h_isi, h_gfld, h_gprop, h_gisi, h_isC, h_kMeth, ↓h_methR, h_kCallO, ↓h_notR, h_arN, h_tLst, h_asgH, h_srcT, h_max, h_min, e_fz, e_fzF, f_aug, ↓f_augK, h_mkS, k_mkS, k_mkST, e_fmt, e_js, k_js, e_js0, q_callK, q_strO, q_reprO, q_isCint, q_isCbl, q_isCstr, q_isCtup, q_isClst, q_isCnon, q_intB, q_intI]
  have hn := nl_F (gd_sub h (List.filter_sublist (p := bad1))) s
  have ht := ne_take h.cons.1 s
  generalize hF : (p0 :: r).filter bad1 = F at *
  unfold S_l_is_plan_3
  rw [ofPs] at hc
  cases h3 : F.isEmpty with
  | false =>
    rw [h3] at hn
    simp only [e_bnd, ↓e_bok, e_bexc, e_ret, e_nox, ↓e_nok, e_cst, e_yes, e_m2, e_m1, e_tst, e_chn, e_and, e_or, e_not, e_vand, e_vor, e_vnot, e_mif, e_anil, e_acons, e_mC, e_call, e_mM, e_sl, e_ono, e_oso, e_dic1, ↓k_tst, ↓k_chnT, ↓k_chnF, ↓k_andT, ↓k_andF, ↓k_orT, ↓k_orF, ↓k_not, ↓k_oso, ↓k_asg, e_seq, ↓e_snx, ↓e_srt, ↓e_sbk, ↓e_sct, ↓e_lok, e_nxs, e_bks, e_cts, e_ex, e_rt, e_set, e_if, e_par, e_asg, f_setix, f_augix, e_sFor, e_forfix, e_src, e_rng1, e_enum, e_lc, e_cmpfix, f_get, ↓f_oo, ↓f_o1, f_ixR, f_ixO, f_ixL, f_ixSl, f_ixT, f_lenR, f_lenO, f_augR, f_setR, f_setO, f_goO, f_run, ↓f_rt, ↓f_nx, v_lenL, v_lenT, v_lenSl, v_addI, v_addII, v_sub, v_neg, v_eqI, v_eqS, v_eqB, v_neI, v_neS, v_lt, v_le, v_gt, v_ge, at_lit, ix_lit', Option.map_some, List.map_cons, List.map_nil, List.length_cons, List.length_nil, List.length_map, List.cons_append, List.nil_append, List.replicate, List.getElem?_cons_zero, List.getElem?_cons_succ, List.set_cons_zero, List.set_cons_succ, List.set_set, f_isi, f_isiO, f_isiB, v_slL, v_slSl, v_abs, v_max, v_min, v_kF, v_srcL, v_srcS, decide_true, decide_false, ↓reduceIte, Bool.false_eq_true, Bool.true_eq_false, Bool.not_true, Bool.not_false, Nat.reduceAdd, Nat.reduceSub, Nat.reduceLT, ↓u_oS, u_mul, u_mulS, u_div, u_mod, u_addS, u_addL, u_slS, u_ixS, u_lenS, u_str, u_kLst, u_kTup, u_kLstS, u_rng, u_upper, u_tNm, u_tTup, u_tNil, u_tCns, ↓u_tcR, f_isTS, wipeD, beq_self_eq_true, and_self, true_and, and_true, Int.reduceLT, Nat.reduceLeDiff, Int.reduceLE, Int.reduceNeg, Int.reduceToNat, Int.reduceAdd, g_src, ↓g_srcO, g_enu, ↓g_enuO, g_isT, ↓g_isTO, g_app, ↓g_appO, g_rev, ↓g_revO, g_lis, ↓g_lisO, g_kS, g_LR, g_kLR, h_fld, h_prop, h_meth, h_callO, h_mk, h_isi, h_gfld, h_gprop, h_gisi, h_isC, h_kMeth, ↓h_methR, h_kCallO, ↓h_notR, h_arN, h_tLst, h_asgH, h_srcT, h_max, h_min, e_fz, e_fzF, f_aug, ↓f_augK, h_mkS, k_mkS, k_mkST, e_fmt, e_js, k_js, e_js0, q_callK, q_strO, q_reprO, q_isCint, q_isCbl, q_isCstr, q_isCtup, q_isClst, q_isCnon, q_intB, q_intI, li_0, li_1, li_2, li_3, li_4, li_5, li_6, li_7, li_8, li_9, li_10, li_11, li_12, li_13, hc, hn, S_l_is_plan_4, Bool.false_and]
  | true =>
    rw [h3] at hn
    cases h4 : PyData.eqv p0 pTake with
    | false =>
      rw [h4] at ht
      simp only [e_bnd, ↓e_bok, e_bexc, e_ret, e_nox, ↓e_nok, e_cst, e_yes, e_m2, e_m1, e_tst, e_chn, e_and, e_or, e_not, e_vand, e_vor, e_vnot, e_mif, e_anil, e_acons, e_mC, e_call, e_mM, e_sl, e_ono, e_oso, e_dic1, ↓k_tst, ↓k_chnT, ↓k_chnF, ↓k_andT, ↓k_andF, ↓k_orT, ↓k_orF, ↓k_not, ↓k_oso, ↓k_asg, e_seq, ↓e_snx, ↓e_srt, ↓e_sbk, ↓e_sct, ↓e_lok, e_nxs, e_bks, e_cts, e_ex, e_rt, e_set, e_if, e_par, e_asg, f_setix, f_augix, e_sFor, e_forfix, e_src, e_rng1, e_enum, e_lc, e_cmpfix, f_get, ↓f_oo, ↓f_o1, f_ixR, f_ixO, f_ixL, f_ixSl, f_ixT, f_lenR, f_lenO, f_augR, f_setR, f_setO, f_goO, f_run, ↓f_rt, ↓f_nx, v_lenL, v_lenT, v_lenSl, v_addI, v_addII, v_sub, v_neg, v_eqI, v_eqS, v_eqB, v_neI, v_neS, v_lt, v_le, v_gt, v_ge, at_lit, ix_lit', Option.map_some, List.map_cons, List.map_nil, List.length_cons, List.length_nil, List.length_map, List.cons_append, List.nil_append, List.replicate, List.getElem?_cons_zero, List.getElem?_cons_succ, List.set_cons_zero, List.set_cons_succ, List.set_set, f_isi, f_isiO, f_isiB, v_slL, v_slSl, v_abs, v_max, v_min, v_kF, v_srcL, v_srcS, decide_true, decide_false, ↓reduceIte, Bool.false_eq_true, Bool.true_eq_false, Bool.not_true, Bool.not_false, Nat.reduceAdd, Nat.reduceSub, Nat.reduceLT, ↓u_oS, u_mul, u_mulS, u_div, u_mod, u_addS, u_addL, u_slS, u_ixS, u_lenS, u_str, u_kLst, u_kTup, u_kLstS, u_rng, u_upper, u_tNm, u_tTup, u_tNil, u_tCns, ↓u_tcR, f_isTS, wipeD, beq_self_eq_true, and_self, true_and, and_true, Int.reduceLT, Nat.reduceLeDiff, Int.reduceLE, Int.reduceNeg, Int.reduceToNat, Int.reduceAdd, g_src, ↓g_srcO, g_enu, ↓g_enuO, g_isT, ↓g_isTO, g_app, ↓g_appO, g_rev, ↓g_revO, g_lis, ↓g_lisO, g_kS, g_LR, g_kLR, h_fld, h_prop, h_meth, h_callO, h_mk, h_isi, h_gfld, h_gprop, h_gisi, h_isC, h_kMeth, ↓h_methR, h_kCallO, ↓h_notR, h_arN, h_tLst, h_asgH, h_srcT, h_max, h_min, e_fz, e_fzF, f_aug, ↓f_augK, h_mkS, k_mkS, k_mkST, e_fmt, e_js, k_js, e_js0, q_callK, q_strO, q_reprO, q_isCint, q_isCbl, q_isCstr, q_isCtup, q_isClst, q_isCnon, q_intB, q_intI, li_0, li_1, li_2, li_3, li_4, li_5, li_6, li_7, li_8, li_9, li_10, li_11, li_12, li_13, hc, hn, ht, S_l_is_plan_4, Bool.and_false]
    | true =>
      rw [h4] at ht
      simp only [e_bnd, ↓e_bok, e_bexc, e_ret, e_nox, ↓e_nok, e_cst, e_yes, e_m2, e_m1, e_tst, e_chn, e_and, e_or, e_not, e_vand, e_vor, e_vnot, e_mif, e_anil, e_acons, e_mC, e_call, e_mM, e_sl, e_ono, e_oso, e_dic1, ↓k_tst, ↓k_chnT, ↓k_chnF, ↓k_andT, ↓k_andF, ↓k_orT, ↓k_orF, ↓k_not, ↓k_oso, ↓k_asg, e_seq, ↓e_snx, ↓e_srt, ↓e_sbk, ↓e_sct, ↓e_lok, e_nxs, e_bks, e_cts, e_ex, e_rt, e_set, e_if, e_par, e_asg, f_setix, f_augix, e_sFor, e_forfix, e_src, e_rng1, e_enum, e_lc, e_cmpfix, f_get, ↓f_oo, ↓f_o1, f_ixR, f_ixO, f_ixL, f_ixSl, f_ixT, f_lenR, f_lenO, f_augR, f_setR, f_setO, f_goO, f_run, ↓f_rt, ↓f_nx, v_lenL, v_lenT, v_lenSl, v_addI, v_addII, v_sub, v_neg, v_eqI, v_eqS, v_eqB, v_neI, v_neS, v_lt, v_le, v_gt, v_ge, at_lit, ix_lit', Option.map_some, List.map_cons, List.map_nil, List.length_cons, List.length_nil, List.length_map, List.cons_append, List.nil_append, List.replicate, List.getElem?_cons_zero, List.getElem?_cons_succ, List.set_cons_zero, List.set_cons_succ, List.set_set, f_isi, f_isiO, f_isiB, v_slL, v_slSl, v_abs, v_max, v_min, v_kF, v_srcL, v_srcS, decide_true, decide_false, ↓reduceIte, Bool.false_eq_true, Bool.true_eq_false, Bool.not_true, Bool.not_false, Nat.reduceAdd, Nat.reduceSub, Nat.reduceLT, ↓u_oS, u_mul, u_mulS, u_div, u_mod, u_addS, u_addL, u_slS, u_ixS, u_lenS, u_str, u_kLst, u_kTup, u_kLstS, u_rng, u_upper, u_tNm, u_tTup, u_tNil, u_tCns, ↓u_tcR, f_isTS, wipeD, beq_self_eq_true, and_self, true_and, and_true, Int.reduceLT, Nat.reduceLeDiff, Int.reduceLE, Int.reduceNeg, Int.reduceToNat, Int.reduceAdd, g_src, ↓g_srcO, g_enu, ↓g_enuO, g_isT, ↓g_isTO, g_app, ↓g_appO, g_rev, ↓g_revO, g_lis, ↓g_lisO, g_kS, g_LR, g_kLR, h_fld, h_prop, h_meth, h_callO, h_mk, h_isi, h_gfld, h_gprop, h_gisi, h_isC, h_kMeth, ↓h_methR, h_kCallO, ↓h_notR, h_arN, h_tLst, h_asgH, h_srcT, h_max, h_min, e_fz, e_fzF, f_aug, ↓f_augK, h_mkS, k_mkS, k_mkST, e_fmt, e_js, k_js, e_js0, q_callK, q_strO, q_reprO, q_isCint, q_isCbl, q_isCstr, q_isCtup, q_isClst, q_isCnon, q_intB, q_intI, li_0, li_1, li_2, li_3, li_4, li_5, li_6, li_7, li_8, li_9, li_10, li_11, li_12, li_13, hc, hn, ht, S_l_is_plan_4, Bool.and_true]

theorem lst_end (s : Sto) (ys : List D) : lstAt (s ++ [.lst ys]) (.ref s.length) = some (s.length, ys) := by
  unfold lstAt
  simp
theorem get_end (s : Sto) (o : O) : (s ++ [o])[s.length]? = some o := by simp
theorem set_end (s : Sto) (o o' : O) : (s ++ [o]).set s.length o' = s ++ [o'] := by
  rw [List.set_append_right _ _ (Nat.le_refl _)]
  simp
theorem isT_end (s : Sto) (ys : List D) : isT "list" (.ref s.length) (s ++ [.lst ys]) = true := by
  unfold isT
  simp
theorem cmpS_flt {α : Type} {g : TF} {t : EV → M Bool} {e : EV → M D} {σ : EV} {f : α → D} {b : α → Bool} {n l : Nat} (s : Sto) (xs : List α) (hl : l = xs.length) (hz : xs.length ≤ lim) (hs : s[n]? = some (.lst (xs.map f)))
    (H : ∀ a ∈ xs, ∃ σ2, g (f a) σ = some σ2 ∧ t σ2 s = .ok (b a) s ∧ e σ2 s = .ok (f a) s) : cmp (sto n l) g t e σ ((sto n l).n + 1) 0 [] s = .ok ((xs.filter b).map f) s := by
  have go : ∀ (r i : Nat) (acc : List D), i + r = xs.length → acc = ((xs.take i).filter b).map f → cmp (sto n l) g t e σ (r + 1) i acc s = .ok ((xs.filter b).map f) s := by
    intro r
    induction r with
    | zero =>
      intro i acc hi ha
      have hi' : i = xs.length := by omega
      subst hi'
      unfold cmp
      have e1 : (sto n l).item s xs.length = some none := by
        show (match s[n]? with | some (.lst ds) => some ds[xs.length]? | _ => none) = _
        rw [hs]
        show some (xs.map f)[xs.length]? = some none
        rw [List.getElem?_eq_none (by simp)]
      simp only [e1]
      rw [ha, List.take_length]
    | succ r ih =>
      intro i acc hi ha
      have hlt : i < xs.length := by omega
      obtain ⟨σ2, h1, h2, h3⟩ := H xs[i] (List.getElem_mem hlt)
      have e1 : (sto n l).item s i = some (some (f xs[i])) := by
        show (match s[n]? with | some (.lst ds) => some ds[i]? | _ => none) = _
        rw [hs]
        show some (xs.map f)[i]? = _
        rw [List.getElem?_map, List.getElem?_eq_getElem hlt]; rfl
      have hacc : acc.length < lim := by
        rw [ha, List.length_map]
        have := List.length_filter_le b (xs.take i)
        rw [List.length_take] at this
        omega
      unfold cmp
      cases hb : b xs[i] with
      | true =>
        rw [hb] at h2
        simp only [e1, h1, h2, h3, if_pos hacc]
        refine ih (i + 1) _ (by omega) ?_
        rw [List.take_succ_eq_append_getElem hlt, List.filter_append, List.filter_cons_of_pos hb, ha]; simp
      | false =>
        rw [hb] at h2
        simp only [e1, h1, h2]
        refine ih (i + 1) _ (by omega) ?_
        rw [List.take_succ_eq_append_getElem hlt, List.filter_append, List.filter_cons_of_neg (by simp [hb]), ha]; simp
  have en : (sto n l).n = xs.length := hl
  rw [en]
  exact go xs.length 0 [] (by omega) (by simp)
theorem ext1 {s : Sto} {T : D} {x : Option D} {xs acc : List PyData} (hl : acc.length + xs.length ≤ lim) :
    bdy (tNm 2) S_l_is_plan_7 (ofP (.tuple xs)) [some T, some (.ref s.length), x, none] (s ++ [.lst (acc.map ofP)]) = .go .nx [some T, some (.ref s.length), some (ofP (.tuple xs)), none] (s ++ [.lst ((acc ++ xs).map ofP)]) := by
  have he : mExtend (.ref s.length) [.tup (xs.map ofP)] (s ++ [.lst (acc.map ofP)]) = .ok .non (s ++ [.lst ((acc ++ xs).map ofP)]) := by
    unfold mExtend
    simp only [lst_end]
    rw [if_pos (by rw [List.length_map, List.length_map]; exact hl), set_end, List.map_append]
  have hi := isT_end s (acc.map ofP)
  unfold bdy S_l_is_plan_7
  rw [ofP, ofPs_map]
  simp only [e_bnd, ↓e_bok, e_bexc, e_ret, e_nox, ↓e_nok, e_cst, e_yes, e_m2, e_m1, e_tst, e_chn, e_and, e_or, e_not, e_vand, e_vor, e_vnot, e_mif, e_anil, e_acons, e_mC, e_call, e_mM, e_sl, e_ono, e_oso, e_dic1, ↓k_tst, ↓k_chnT, ↓k_chnF, ↓k_andT, ↓k_andF, ↓k_orT, ↓k_orF, ↓k_not, ↓k_oso, ↓k_asg, e_seq, ↓e_snx, ↓e_srt, ↓e_sbk, ↓e_sct, ↓e_lok, e_nxs, e_bks, e_cts, e_ex, e_rt, e_set, e_if, e_par, e_asg, f_setix, f_augix, e_sFor, e_forfix, e_src, e_rng1, e_enum, e_lc, e_cmpfix, f_get, ↓f_oo, ↓f_o1, f_ixR, f_ixO, f_ixL, f_ixSl, f_ixT, f_lenR, f_lenO, f_augR, f_setR, f_setO, f_goO, f_run, ↓f_rt, ↓f_nx, v_lenL, v_lenT, v_lenSl, v_addI, v_addII, v_sub, v_neg, v_eqI, v_eqS, v_eqB, v_neI, v_neS, v_lt, v_le, v_gt, v_ge, at_lit, ix_lit', Option.map_some, List.map_cons, List.map_nil, List.length_cons, List.length_nil, List.length_map, List.cons_append, List.nil_append, List.replicate, List.getElem?_cons_zero, List.getElem?_cons_succ, List.set_cons_zero, List.set_cons_succ, List.set_set, f_isi, f_isiO, f_isiB, v_slL, v_slSl, v_abs, v_max, v_min, v_kF, v_srcL, v_srcS, decide_true, decide_false, ↓reduceIte, Bool.false_eq_true, Bool.true_eq_false, Bool.not_true, Bool.not_false, Nat.reduceAdd, Nat.reduceSub, Nat.reduceLT, ↓u_oS, u_mul, u_mulS, u_div, u_mod, u_addS, u_addL, u_slS, u_ixS, u_lenS, u_str, u_kLst, u_kTup, u_kLstS, u_rng, u_upper, u_tNm, u_tTup, u_tNil, u_tCns, ↓u_tcR, f_isTS, wipeD, beq_self_eq_true, and_self, true_and, and_true, Int.reduceLT, Nat.reduceLeDiff, Int.reduceLE, Int.reduceNeg, Int.reduceToNat, Int.reduceAdd, g_src, ↓g_srcO, g_enu, ↓g_enuO, g_isT, ↓g_isTO, g_app, ↓g_appO, g_rev, ↓g_revO, g_lis, ↓g_lisO, g_kS, g_LR, g_kLR, h_fld, h_prop, h_meth, h_callO, h_mk, h_isi, h_gfld, h_gprop, h_gisi, h_isC, h_kMeth, ↓h_methR, h_kCallO, ↓h_notR, h_arN, h_tLst, h_asgH, h_srcT, h_max, h_min, e_fz, e_fzF, f_aug, ↓f_augK, h_mkS, k_mkS, k_mkST, e_fmt, e_js, k_js, e_js0, q_callK, q_strO, q_reprO, q_isCint, q_isCbl, q_isCstr, q_isCtup, q_isClst, q_isCnon, q_intB, q_intI, List.set, hi, he]
theorem ext_loop {s : Sto} {T : D} : ∀ (r acc : List PyData) (x : Option D), (∀ p ∈ r, bad1 p = false) → acc.length + wts r ≤ lim →
    ∃ x', forL (bdy (tNm 2) S_l_is_plan_7) (r.map ofP) [some T, some (.ref s.length), x, none] (s ++ [.lst (acc.map ofP)]) = .go .nx [some T, some (.ref s.length), x', none] (s ++ [.lst ((acc ++ r.flatMap items).map ofP)])
  | [], acc, x, _, _ => ⟨x, by rw [List.map_nil, List.flatMap_nil, List.append_nil]; rfl⟩
  | p :: r, acc, x, hb, hl => by
    have hp := hb p List.mem_cons_self
    cases p with
    | tuple xs =>
      have hw : wts (PyData.tuple xs :: r) = 4 + wts xs + 2 + wts r := rfl
      have h2 := wts_len xs
      obtain ⟨x', h3⟩ := ext_loop (s := s) (T := T) r (acc ++ xs) (some (ofP (.tuple xs))) (fun q hq => hb q (List.mem_cons_of_mem _ hq)) (by rw [List.length_append]; omega)
      refine ⟨x', ?_⟩
      rw [List.map_cons, List.flatMap_cons]
      unfold forL
      rw [ext1 (by omega)]
      simp only
      rw [h3]
      show _ = SRes.go .nx _ (s ++ [.lst ((acc ++ (xs ++ r.flatMap items)).map ofP)])
      rw [List.append_assoc]
    | _ => exact absurd hp.symm Bool.false_ne_true

theorem words_eq : ∀ {r : List PyData}, (r.flatMap items).all isW = true → r.flatMap items = (wordsOf r).map PyData.str
  | [], _ => rfl
  | p :: r, h => by
    rw [List.flatMap_cons, List.all_append, Bool.and_eq_true] at h
    have ih := words_eq h.2
    show items p ++ r.flatMap items = ((pStr p) ++ wordsOf r).map PyData.str
    rw [List.map_append, ← ih]
    congr 1
    cases p with
    | tuple xs =>
      have hx : xs.all isW = true := h.1
      show xs = (xs.filterMap _).map PyData.str
      clear h ih
      induction xs with
      | nil => rfl
      | cons x xs ih =>
        rw [List.all_cons, Bool.and_eq_true] at hx
        cases x with
        | str z =>
          rw [List.filterMap_cons]
          show PyData.str z :: xs = PyData.str z :: _
          rw [← ih hx.2]
        | _ => exact absurd hx.1 Bool.false_ne_true
    | _ => rfl
theorem parts_all : ∀ {r : List PyData}, r.all isPart = (r.all (fun p => !bad1 p) && (r.flatMap items).all isW)
  | [] => rfl
  | p :: r => by
    rw [List.all_cons, List.all_cons, List.flatMap_cons, List.all_append, parts_all (r := r)]
    have : isPart p = (!bad1 p && (items p).all isW) := by cases p <;> rfl
    rw [this]
    cases bad1 p <;> cases (items p).all isW <;> cases r.all (fun p => !bad1 p) <;> rfl
theorem count_S {s : Sto} (ws : List Str) (a : Str) : mCount (.ref s.length) [.str a] (s ++ [.lst (ws.map D.str)]) = .ok (.int (ws.count a : Nat)) (s ++ [.lst (ws.map D.str)]) := by
  unfold mCount
  simp only [asLL, asL, get_end, allM_map_str]
theorem frz_bl (s : Sto) (L : List O) (b : Bool) : frzR s (.ok (.bl b) (s ++ L)) = .ok (.bl b) s := by
  rw [frz_ok (keeps_app s L) (d' := .bl b) rfl, List.take_left']
  rfl
theorem frz_bl0 (s : Sto) (b : Bool) : frzR s (.ok (.bl b) s) = .ok (.bl b) s := by
  rw [frz_ok (Keeps.refl s) (d' := .bl b) rfl, List.take_length]
theorem eqv_take {p : PyData} (h : PyData.eqv p pTake = true) : bad1 p = false := by
  cases p with
  | tuple xs =>
    cases xs with
    | nil => exact absurd h Bool.false_ne_true
    | cons x xs => rfl
  | _ => exact absurd h Bool.false_ne_true
theorem filt_all {r : List PyData} : (r.filter bad1).isEmpty = r.all (fun p => !bad1 p) := by
  induction r with
  | nil => rfl
  | cons p r ih =>
    rw [List.filter_cons, List.all_cons]
    cases bad1 p
    · simpa using ih
    · rfl
theorem lplan_rest {k : Nat} {p0 : PyData} {r : List PyData} {s : Sto} (gr : Gd k (.list r)) (hk : k ≤ lim) (hb : ∀ p ∈ r, bad1 p = false) :
    ∃ σ L, sSeq S_l_is_plan_5 (sSeq S_l_is_plan_6 (sSeq S_l_is_plan_8 (sSeq S_l_is_plan_10 S_l_is_plan_12))) [some (.lst (ofP p0 :: ofPs r)), none, none, none] s = .go (.rt (.bl ((r.flatMap items).all isW && okW (wordsOf r)))) σ (s ++ L) := by
  have hwt : 4 + wts r ≤ k := gr.wt
  have gi := gd_items gr
  obtain ⟨x', h6⟩ := ext_loop (s := s) (T := .lst (ofP p0 :: ofPs r)) r [] none hb (by simp; omega)
  rw [List.nil_append] at h6
  have hil : (r.flatMap items).length ≤ lim := by have := gi.len; omega
  have e5 : S_l_is_plan_5 [some (.lst (ofP p0 :: ofPs r)), none, none, none] s = .go .nx [some (.lst (ofP p0 :: ofPs r)), some (.ref s.length), none, none] (s ++ [.lst []]) := by
    unfold S_l_is_plan_5
    simp only [e_bnd, ↓e_bok, e_bexc, e_ret, e_nox, ↓e_nok, e_cst, e_yes, e_m2, e_m1, e_tst, e_chn, e_and, e_or, e_not, e_vand, e_vor, e_vnot, e_mif, e_anil, e_acons, e_mC, e_call, e_mM, e_sl, e_ono, e_oso, e_dic1, ↓k_tst, ↓k_chnT, ↓k_chnF, ↓k_andT, ↓k_andF, ↓k_orT, ↓k_orF, ↓k_not, ↓k_oso, ↓k_asg, e_seq, ↓e_snx, ↓e_srt, ↓e_sbk, ↓e_sct, ↓e_lok, e_nxs, e_bks, e_cts, e_ex, e_rt, e_set, e_if, e_par, e_asg, f_setix, f_augix, e_sFor, e_forfix, e_src, e_rng1, e_enum, e_lc, e_cmpfix, f_get, ↓f_oo, ↓f_o1, f_ixR, f_ixO, f_ixL, f_ixSl, f_ixT, f_lenR, f_lenO, f_augR, f_setR, f_setO, f_goO, f_run, ↓f_rt, ↓f_nx, v_lenL, v_lenT, v_lenSl, v_addI, v_addII, v_sub, v_neg, v_eqI, v_eqS, v_eqB, v_neI, v_neS, v_lt, v_le, v_gt, v_ge, at_lit, ix_lit', Option.map_some, List.map_cons, List.map_nil, List.length_cons, List.length_nil, List.length_map, List.cons_append, List.nil_append, List.replicate, List.getElem?_cons_zero, List.getElem?_cons_succ, List.set_cons_zero, List.set_cons_succ, List.set_set, f_isi, f_isiO, f_isiB, v_slL, v_slSl, v_abs, v_max, v_min, v_kF, v_srcL, v_srcS, decide_true, decide_false, ↓reduceIte, Bool.false_eq_true, Bool.true_eq_false, Bool.not_true, Bool.not_false, Nat.reduceAdd, Nat.reduceSub, Nat.reduceLT, ↓u_oS, u_mul, u_mulS, u_div, u_mod, u_addS, u_addL, u_slS, u_ixS, u_lenS, u_str, u_kLst, u_kTup, u_kLstS, u_rng, u_upper, u_tNm, u_tTup, u_tNil, u_tCns, ↓u_tcR, f_isTS, wipeD, beq_self_eq_true, and_self, true_and, and_true, Int.reduceLT, Nat.reduceLeDiff, Int.reduceLE, Int.reduceNeg, Int.reduceToNat, Int.reduceAdd, g_src, ↓g_srcO, g_enu, ↓g_enuO, g_isT, ↓g_isTO, g_app, ↓g_appO, g_rev, ↓g_revO, g_lis, ↓g_lisO, g_kS, g_LR, g_kLR, h_fld, h_prop, h_meth, h_callO, h_mk, h_isi, h_gfld, h_gprop, h_gisi, h_isC, h_kMeth, ↓h_methR, h_kCallO, ↓h_notR, h_arN, h_tLst, h_asgH, h_srcT, h_max, h_min, e_fz, e_fzF, f_aug, ↓f_augK, h_mkS, k_mkS, k_mkST, e_fmt, e_js, k_js, e_js0, q_callK, q_strO, q_reprO, q_isCint, q_isCbl, q_isCstr, q_isCtup, q_isClst, q_isCnon, q_intB, q_intI, li_0, li_1, li_2, li_3, li_4, li_5, li_6, li_7, li_8, li_9, li_10, li_11, li_12, li_13]
  have e6 : S_l_is_plan_6 [some (.lst (ofP p0 :: ofPs r)), some (.ref s.length), none, none] (s ++ [.lst []]) = .go .nx [some (.lst (ofP p0 :: ofPs r)), some (.ref s.length), x', none] (s ++ [.lst ((r.flatMap items).map ofP)]) := by
    unfold S_l_is_plan_6
    simp only [e_bnd, ↓e_bok, e_bexc, e_ret, e_nox, ↓e_nok, e_cst, e_yes, e_m2, e_m1, e_tst, e_chn, e_and, e_or, e_not, e_vand, e_vor, e_vnot, e_mif, e_anil, e_acons, e_mC, e_call, e_mM, e_sl, e_ono, e_oso, e_dic1, ↓k_tst, ↓k_chnT, ↓k_chnF, ↓k_andT, ↓k_andF, ↓k_orT, ↓k_orF, ↓k_not, ↓k_oso, ↓k_asg, e_seq, ↓e_snx, ↓e_srt, ↓e_sbk, ↓e_sct, ↓e_lok, e_nxs, e_bks, e_cts, e_ex, e_rt, e_set, e_if, e_par, e_asg, f_setix, f_augix, e_sFor, e_forfix, e_src, e_rng1, e_enum, e_lc, e_cmpfix, f_get, ↓f_oo, ↓f_o1, f_ixR, f_ixO, f_ixL, f_ixSl, f_ixT, f_lenR, f_lenO, f_augR, f_setR, f_setO, f_goO, f_run, ↓f_rt, ↓f_nx, v_lenL, v_lenT, v_lenSl, v_addI, v_addII, v_sub, v_neg, v_eqI, v_eqS, v_eqB, v_neI, v_neS, v_lt, v_le, v_gt, v_ge, at_lit, ix_lit', Option.map_some, List.map_cons, List.map_nil, List.length_cons, List.length_nil, List.length_map, List.cons_append, List.nil_append, List.replicate, List.getElem?_cons_zero, List.getElem?_cons_succ, List.set_cons_zero, List.set_cons_succ, List.set_set, f_isi, f_isiO, f_isiB, v_slL, v_slSl, v_abs, v_max, v_min, v_kF, v_srcL, v_srcS, decide_true, decide_false, ↓reduceIte, Bool.false_eq_true, Bool.true_eq_false, Bool.not_true, Bool.not_false, Nat.reduceAdd, Nat.reduceSub, Nat.reduceLT, ↓u_oS, u_mul, u_mulS, u_div, u_mod, u_addS, u_addL, u_slS, u_ixS, u_lenS, u_str, u_kLst, u_kTup, u_kLstS, u_rng, u_upper, u_tNm, u_tTup, u_tNil, u_tCns, ↓u_tcR, f_isTS, wipeD, beq_self_eq_true, and_self, true_and, and_true, Int.reduceLT, Nat.reduceLeDiff, Int.reduceLE, Int.reduceNeg, Int.reduceToNat, Int.reduceAdd, g_src, ↓g_srcO, g_enu, ↓g_enuO, g_isT, ↓g_isTO, g_app, ↓g_appO, g_rev, ↓g_revO, g_lis, ↓g_lisO, g_kS, g_LR, g_kLR, h_fld, h_prop, h_meth, h_callO, h_mk, h_isi, h_gfld, h_gprop, h_gisi, h_isC, h_kMeth, ↓h_methR, h_kCallO, ↓h_notR, h_arN, h_tLst, h_asgH, h_srcT, h_max, h_min, e_fz, e_fzF, f_aug, ↓f_augK, h_mkS, k_mkS, k_mkST, e_fmt, e_js, k_js, e_js0, q_callK, q_strO, q_reprO, q_isCint, q_isCbl, q_isCstr, q_isCtup, q_isClst, q_isCnon, q_intB, q_intI, sl_tl]
    rw [ofPs_map] at h6 ⊢
    exact h6
  have e8c : ∀ l, l = (r.flatMap items).length → cmp (sto s.length l) (tNm 3) T_l_is_plan_8_7 E_l_is_plan_8_7 [some (.lst (ofP p0 :: ofPs r)), some (.ref s.length), x', none] ((sto s.length l).n + 1) 0 [] (s ++ [.lst ((r.flatMap items).map ofP)]) =
      .ok (((r.flatMap items).filter fun p => !isW p).map ofP) (s ++ [.lst ((r.flatMap items).map ofP)]) := by
    intro l hl
    refine cmpS_flt (b := fun p => !isW p) _ (r.flatMap items) hl hil (get_end ..) fun a ha => ⟨_, rfl, ?_, ?_⟩
    · unfold T_l_is_plan_8_7
      have hn := notIn_F (gi.mem ha) (s ++ [.lst ((r.flatMap items).map ofP)])
      simp only [e_bnd, ↓e_bok, e_bexc, e_ret, e_nox, ↓e_nok, e_cst, e_yes, e_m2, e_m1, e_tst, e_chn, e_and, e_or, e_not, e_vand, e_vor, e_vnot, e_mif, e_anil, e_acons, e_mC, e_call, e_mM, e_sl, e_ono, e_oso, e_dic1, ↓k_tst, ↓k_chnT, ↓k_chnF, ↓k_andT, ↓k_andF, ↓k_orT, ↓k_orF, ↓k_not, ↓k_oso, ↓k_asg, e_seq, ↓e_snx, ↓e_srt, ↓e_sbk, ↓e_sct, ↓e_lok, e_nxs, e_bks, e_cts, e_ex, e_rt, e_set, e_if, e_par, e_asg, f_setix, f_augix, e_sFor, e_forfix, e_src, e_rng1, e_enum, e_lc, e_cmpfix, f_get, ↓f_oo, ↓f_o1, f_ixR, f_ixO, f_ixL, f_ixSl, f_ixT, f_lenR, f_lenO, f_augR, f_setR, f_setO, f_goO, f_run, ↓f_rt, ↓f_nx, v_lenL, v_lenT, v_lenSl, v_addI, v_addII, v_sub, v_neg, v_eqI, v_eqS, v_eqB, v_neI, v_neS, v_lt, v_le, v_gt, v_ge, at_lit, ix_lit', Option.map_some, List.map_cons, List.map_nil, List.length_cons, List.length_nil, List.length_map, List.cons_append, List.nil_append, List.replicate, List.getElem?_cons_zero, List.getElem?_cons_succ, List.set_cons_zero, List.set_cons_succ, List.set_set, f_isi, f_isiO, f_isiB, v_slL, v_slSl, v_abs, v_max, v_min, v_kF, v_srcL, v_srcS, decide_true, decide_false, ↓reduceIte, Bool.false_eq_true, Bool.true_eq_false, Bool.not_true, Bool.not_false, Nat.reduceAdd, Nat.reduceSub, Nat.reduceLT, ↓u_oS, u_mul, u_mulS, u_div, u_mod, u_addS, u_addL, u_slS, u_ixS, u_lenS, u_str, u_kLst, u_kTup, u_kLstS, u_rng, u_upper, u_tNm, u_tTup, u_tNil, u_tCns, ↓u_tcR, f_isTS, wipeD, beq_self_eq_true, and_self, true_and, and_true, Int.reduceLT, Nat.reduceLeDiff, Int.reduceLE, Int.reduceNeg, Int.reduceToNat, Int.reduceAdd, g_src, ↓g_srcO, g_enu, ↓g_enuO, g_isT, ↓g_isTO, g_app, ↓g_appO, g_rev, ↓g_revO, g_lis, ↓g_lisO, g_kS, g_LR, g_kLR, h_fld, h_prop, h_meth, h_callO, h_mk, h_isi, h_gfld, h_gprop, h_gisi, h_isC, h_kMeth, ↓h_methR, h_kCallO, ↓h_notR, h_arN, h_tLst, h_asgH, h_srcT, h_max, h_min, e_fz, e_fzF, f_aug, ↓f_augK, h_mkS, k_mkS, k_mkST, e_fmt, e_js, k_js, e_js0, q_callK, q_strO, q_reprO, q_isCint, q_isCbl, q_isCstr, q_isCtup, q_isClst, q_isCnon, q_intB, q_intI, li_0, li_1, li_2, li_3, li_4, li_5, li_6, li_7, li_8, li_9, li_10, li_11, li_12, li_13, List.set, hn]
    · unfold E_l_is_plan_8_7
      simp only [e_bnd, ↓e_bok, e_bexc, e_ret, e_nox, ↓e_nok, e_cst, e_yes, e_m2, e_m1, e_tst, e_chn, e_and, e_or, e_not, e_vand, e_vor, e_vnot, e_mif, e_anil, e_acons, e_mC, e_call, e_mM, e_sl, e_ono, e_oso, e_dic1, ↓k_tst, ↓k_chnT, ↓k_chnF, ↓k_andT, ↓k_andF, ↓k_orT, ↓k_orF, ↓k_not, ↓k_oso, ↓k_asg, e_seq, ↓e_snx, ↓e_srt, ↓e_sbk, ↓e_sct, ↓e_lok, e_nxs, e_bks, e_cts, e_ex, e_rt, e_set, e_if, e_par, e_asg, f_setix, f_augix, e_sFor, e_forfix, e_src, e_rng1, e_enum, e_lc, e_cmpfix, f_get, ↓f_oo, ↓f_o1, f_ixR, f_ixO, f_ixL, f_ixSl, f_ixT, f_lenR, f_lenO, f_augR, f_setR, f_setO, f_goO, f_run, ↓f_rt, ↓f_nx, v_lenL, v_lenT, v_lenSl, v_addI, v_addII, v_sub, v_neg, v_eqI, v_eqS, v_eqB, v_neI, v_neS, v_lt, v_le, v_gt, v_ge, at_lit, ix_lit', Option.map_some, List.map_cons, List.map_nil, List.length_cons, List.length_nil, List.length_map, List.cons_append, List.nil_append, List.replicate, List.getElem?_cons_zero, List.getElem?_cons_succ, List.set_cons_zero, List.set_cons_succ, List.set_set, f_isi, f_isiO, f_isiB, v_slL, v_slSl, v_abs, v_max, v_min, v_kF, v_srcL, v_srcS, decide_true, decide_false, ↓reduceIte, Bool.false_eq_true, Bool.true_eq_false, Bool.not_true, Bool.not_false, Nat.reduceAdd, Nat.reduceSub, Nat.reduceLT, ↓u_oS, u_mul, u_mulS, u_div, u_mod, u_addS, u_addL, u_slS, u_ixS, u_lenS, u_str, u_kLst, u_kTup, u_kLstS, u_rng, u_upper, u_tNm, u_tTup, u_tNil, u_tCns, ↓u_tcR, f_isTS, wipeD, beq_self_eq_true, and_self, true_and, and_true, Int.reduceLT, Nat.reduceLeDiff, Int.reduceLE, Int.reduceNeg, Int.reduceToNat, Int.reduceAdd, g_src, ↓g_srcO, g_enu, ↓g_enuO, g_isT, ↓g_isTO, g_app, ↓g_appO, g_rev, ↓g_revO, g_lis, ↓g_lisO, g_kS, g_LR, g_kLR, h_fld, h_prop, h_meth, h_callO, h_mk, h_isi, h_gfld, h_gprop, h_gisi, h_isC, h_kMeth, ↓h_methR, h_kCallO, ↓h_notR, h_arN, h_tLst, h_asgH, h_srcT, h_max, h_min, e_fz, e_fzF, f_aug, ↓f_augK, h_mkS, k_mkS, k_mkST, e_fmt, e_js, k_js, e_js0, q_callK, q_strO, q_reprO, q_isCint, q_isCbl, q_isCstr, q_isCtup, q_isClst, q_isCnon, q_intB, q_intI, List.set]
  have hn8 := nl_F (gd_sub gi (List.filter_sublist (p := fun p => !isW p))) (s ++ [.lst ((r.flatMap items).map ofP)])
  have hge := get_end s (.lst ((r.flatMap items).map ofP))
  have hfe : ((r.flatMap items).filter fun p => !isW p).isEmpty = (r.flatMap items).all isW := by
    induction r.flatMap items with
    | nil => rfl
    | cons x xs ih =>
      rw [List.filter_cons, List.all_cons]
      cases isW x
      · rfl
      · simpa using ih
  rw [hfe] at hn8
  generalize hA : ((r.flatMap items).filter fun p => !isW p) = A at *
  cases hW : (r.flatMap items).all isW with
  | false =>
    rw [hW] at hn8
    refine ⟨[some (.lst (ofP p0 :: ofPs r)), some (.ref s.length), x', none], [.lst ((r.flatMap items).map ofP)], ?_⟩
    unfold S_l_is_plan_8
    simp only [e_bnd, ↓e_bok, e_bexc, e_ret, e_nox, ↓e_nok, e_cst, e_yes, e_m2, e_m1, e_tst, e_chn, e_and, e_or, e_not, e_vand, e_vor, e_vnot, e_mif, e_anil, e_acons, e_mC, e_call, e_mM, e_sl, e_ono, e_oso, e_dic1, ↓k_tst, ↓k_chnT, ↓k_chnF, ↓k_andT, ↓k_andF, ↓k_orT, ↓k_orF, ↓k_not, ↓k_oso, ↓k_asg, e_seq, ↓e_snx, ↓e_srt, ↓e_sbk, ↓e_sct, ↓e_lok, e_nxs, e_bks, e_cts, e_ex, e_rt, e_set, e_if, e_par, e_asg, f_setix, f_augix, e_sFor, e_forfix, e_src, e_rng1, e_enum, e_lc, e_cmpfix, f_get, ↓f_oo, ↓f_o1, f_ixR, f_ixO, f_ixL, f_ixSl, f_ixT, f_lenR, f_lenO, f_augR, f_setR, f_setO, f_goO, f_run, ↓f_rt, ↓f_nx, v_lenL, v_lenT, v_lenSl, v_addI, v_addII, v_sub, v_neg, v_eqI, v_eqS, v_eqB, v_neI, v_neS, v_lt, v_le, v_gt, v_ge, at_lit, ix_lit', Option.map_some, List.map_cons, List.map_nil, List.length_cons, List.length_nil, List.length_map, List.cons_append, List.nil_append, List.replicate, List.getElem?_cons_zero, List.getElem?_cons_succ, List.set_cons_zero, List.set_cons_succ, List.set_set, f_isi, f_isiO, f_isiB, v_slL, v_slSl, v_abs, v_max, v_min, v_kF, v_srcL, v_srcS, decide_true, decide_false, ↓reduceIte, Bool.false_eq_true, Bool.true_eq_false, Bool.not_true, Bool.not_false, Nat.reduceAdd, Nat.reduceSub, Nat.reduceLT, ↓u_oS, u_mul, u_mulS, u_div, u_mod, u_addS, u_addL, u_slS, u_ixS, u_lenS, u_str, u_kLst, u_kTup, u_kLstS, u_rng, u_upper, u_tNm, u_tTup, u_tNil, u_tCns, ↓u_tcR, f_isTS, wipeD, beq_self_eq_true, and_self, true_and, and_true, Int.reduceLT, Nat.reduceLeDiff, Int.reduceLE, Int.reduceNeg, Int.reduceToNat, Int.reduceAdd, g_src, ↓g_srcO, g_enu, ↓g_enuO, g_isT, ↓g_isTO, g_app, ↓g_appO, g_rev, ↓g_revO, g_lis, ↓g_lisO, g_kS, g_LR, g_kLR, h_fld, h_prop, h_meth, h_callO, h_mk, h_isi, h_gfld, h_gprop, h_gisi, h_isC, h_kMeth, ↓h_methR, h_kCallO, ↓h_notR, h_arN, h_tLst, h_asgH, h_srcT, h_max, h_min, e_fz, e_fzF, f_aug, ↓f_augK, h_mkS, k_mkS, k_mkST, e_fmt, e_js, k_js, e_js0, q_callK, q_strO, q_reprO, q_isCint, q_isCbl, q_isCstr, q_isCtup, q_isClst, q_isCnon, q_intB, q_intI, li_0, li_1, li_2, li_3, li_4, li_5, li_6, li_7, li_8, li_9, li_10, li_11, li_12, li_13, e5, e6, hge, e8c _ rfl, hn8, S_l_is_plan_9, Bool.false_and]
  | true =>
    rw [hW] at hn8
    have e1 : ∀ n : Nat, (((n : Nat) : Int) == 1) = decide (n = 1) := fun n => by
      by_cases hn : n = 1
      · subst hn; rfl
      · rw [decide_eq_false hn]; exact beq_eq_false_iff_ne.mpr (by omega)
    have e2 : ∀ n : Nat, decide (((n : Nat) : Int) < 2) = decide (n < 2) := fun n => by
      by_cases hn : n < 2
      · rw [decide_eq_true hn]; exact decide_eq_true (by omega)
      · rw [decide_eq_false hn]; exact decide_eq_false (by omega)
    have ew : (r.flatMap items).map ofP = (wordsOf r).map D.str := by
      rw [words_eq hW, List.map_map]
      rfl
    have el : (wordsOf r).length = (r.flatMap items).length := by have := congrArg List.length ew; rw [List.length_map, List.length_map] at this; exact this.symm
    have e8c := e8c _ el
    rw [ew] at e6 e8c hn8 hge
    have e8 : S_l_is_plan_8 [some (.lst (ofP p0 :: ofPs r)), some (.ref s.length), x', none] (s ++ [.lst ((wordsOf r).map D.str)]) = .go .nx [some (.lst (ofP p0 :: ofPs r)), some (.ref s.length), x', none] (s ++ [.lst ((wordsOf r).map D.str)]) := by
      unfold S_l_is_plan_8
      simp only [e_bnd, ↓e_bok, e_bexc, e_ret, e_nox, ↓e_nok, e_cst, e_yes, e_m2, e_m1, e_tst, e_chn, e_and, e_or, e_not, e_vand, e_vor, e_vnot, e_mif, e_anil, e_acons, e_mC, e_call, e_mM, e_sl, e_ono, e_oso, e_dic1, ↓k_tst, ↓k_chnT, ↓k_chnF, ↓k_andT, ↓k_andF, ↓k_orT, ↓k_orF, ↓k_not, ↓k_oso, ↓k_asg, e_seq, ↓e_snx, ↓e_srt, ↓e_sbk, ↓e_sct, ↓e_lok, e_nxs, e_bks, e_cts, e_ex, e_rt, e_set, e_if, e_par, e_asg, f_setix, f_augix, e_sFor, e_forfix, e_src, e_rng1, e_enum, e_lc, e_cmpfix, f_get, ↓f_oo, ↓f_o1, f_ixR, f_ixO, f_ixL, f_ixSl, f_ixT, f_lenR, f_lenO, f_augR, f_setR, f_setO, f_goO, f_run, ↓f_rt, ↓f_nx, v_lenL, v_lenT, v_lenSl, v_addI, v_addII, v_sub, v_neg, v_eqI, v_eqS, v_eqB, v_neI, v_neS, v_lt, v_le, v_gt, v_ge, at_lit, ix_lit', Option.map_some, List.map_cons, List.map_nil, List.length_cons, List.length_nil, List.length_map, List.cons_append, List.nil_append, List.replicate, List.getElem?_cons_zero, List.getElem?_cons_succ, List.set_cons_zero, List.set_cons_succ, List.set_set, f_isi, f_isiO, f_isiB, v_slL, v_slSl, v_abs, v_max, v_min, v_kF, v_srcL, v_srcS, decide_true, decide_false, ↓reduceIte, Bool.false_eq_true, Bool.true_eq_false, Bool.not_true, Bool.not_false, Nat.reduceAdd, Nat.reduceSub, Nat.reduceLT, ↓u_oS, u_mul, u_mulS, u_div, u_mod, u_addS, u_addL, u_slS, u_ixS, u_lenS, u_str, u_kLst, u_kTup, u_kLstS, u_rng, u_upper, u_tNm, u_tTup, u_tNil, u_tCns, ↓u_tcR, f_isTS, wipeD, beq_self_eq_true, and_self, true_and, and_true, Int.reduceLT, Nat.reduceLeDiff, Int.reduceLE, Int.reduceNeg, Int.reduceToNat, Int.reduceAdd, g_src, ↓g_srcO, g_enu, ↓g_enuO, g_isT, ↓g_isTO, g_app, ↓g_appO, g_rev, ↓g_revO, g_lis, ↓g_lisO, g_kS, g_LR, g_kLR, h_fld, h_prop, h_meth, h_callO, h_mk, h_isi, h_gfld, h_gprop, h_gisi, h_isC, h_kMeth, ↓h_methR, h_kCallO, ↓h_notR, h_arN, h_tLst, h_asgH, h_srcT, h_max, h_min, e_fz, e_fzF, f_aug, ↓f_augK, h_mkS, k_mkS, k_mkST, e_fmt, e_js, k_js, e_js0, q_callK, q_strO, q_reprO, q_isCint, q_isCbl, q_isCstr, q_isCtup, q_isClst, q_isCnon, q_intB, q_intI, li_0, li_1, li_2, li_3, li_4, li_5, li_6, li_7, li_8, li_9, li_10, li_11, li_12, li_13, hge, e8c, hn8, S_l_is_plan_9]
    have hcs := fun a => count_S (s := s) (wordsOf r) a
    have hit := isT_end s ((wordsOf r).map D.str)
    refine ⟨[some (.lst (ofP p0 :: ofPs r)), some (.ref s.length), x', none], [.lst ((wordsOf r).map D.str)], ?_⟩
    simp only [okW, Bool.true_and]
    simp only [e_bnd, ↓e_bok, e_bexc, e_ret, e_nox, ↓e_nok, e_cst, e_yes, e_m2, e_m1, e_tst, e_chn, e_and, e_or, e_not, e_vand, e_vor, e_vnot, e_mif, e_anil, e_acons, e_mC, e_call, e_mM, e_sl, e_ono, e_oso, e_dic1, ↓k_tst, ↓k_chnT, ↓k_chnF, ↓k_andT, ↓k_andF, ↓k_orT, ↓k_orF, ↓k_not, ↓k_oso, ↓k_asg, e_seq, ↓e_snx, ↓e_srt, ↓e_sbk, ↓e_sct, ↓e_lok, e_nxs, e_bks, e_cts, e_ex, e_rt, e_set, e_if, e_par, e_asg, f_setix, f_augix, e_sFor, e_forfix, e_src, e_rng1, e_enum, e_lc, e_cmpfix, f_get, ↓f_oo, ↓f_o1, f_ixR, f_ixO, f_ixL, f_ixSl, f_ixT, f_lenR, f_lenO, f_augR, f_setR, f_setO, f_goO, f_run, ↓f_rt, ↓f_nx, v_lenL, v_lenT, v_lenSl, v_addI, v_addII, v_sub, v_neg, v_eqI, v_eqS, v_eqB, v_neI, v_neS, v_lt, v_le, v_gt, v_ge, at_lit, ix_lit', Option.map_some, List.map_cons, List.map_nil, List.length_cons, List.length_nil, List.length_map, List.cons_append, List.nil_append, List.replicate, List.getElem?_cons_zero, List.getElem?_cons_succ, List.set_cons_zero, List.set_cons_succ, List.set_set, f_isi, f_isiO, f_isiB, v_slL, v_slSl, v_abs, v_max, v_min, v_kF, v_srcL, v_srcS, decide_true, decide_false, ↓reduceIte, Bool.false_eq_true, Bool.true_eq_false, Bool.not_true, Bool.not_false, Nat.reduceAdd, Nat.reduceSub, Nat.reduceLT, ↓u_oS, u_mul, u_mulS, u_div, u_mod, u_addS, u_addL, u_slS, u_ixS, u_lenS, u_str, u_kLst, u_kTup, u_kLstS, u_rng, u_upper, u_tNm, u_tTup, u_tNil, u_tCns, ↓u_tcR, f_isTS, wipeD, beq_self_eq_true, and_self, true_and, and_true, Int.reduceLT, Nat.reduceLeDiff, Int.reduceLE, Int.reduceNeg, Int.reduceToNat, Int.reduceAdd, g_src, ↓g_srcO, g_enu, ↓g_enuO, g_isT, ↓g_isTO, g_app, ↓g_appO, g_rev, ↓g_revO, g_lis, ↓g_lisO, g_kS, g_LR, g_kLR, h_fld, h_prop, h_meth, h_callO, h_mk, h_isi, h_gfld, h_gprop, h_gisi, h_isC, h_kMeth, ↓h_methR, h_kCallO, ↓h_notR, h_arN, h_tLst, h_asgH, h_srcT, h_max, h_min, e_fz, e_fzF, f_aug, ↓f_augK, h_mkS, k_mkS, k_mkST, e_fmt, e_js, k_js, e_js0, q_callK, q_strO, q_reprO, q_isCint, q_isCbl, q_isCstr, q_isCtup, q_isClst, q_isCnon, q_intB, q_intI, e5, e6, e8]
    unfold S_l_is_plan_10 S_l_is_plan_12
    cases b1 : decide (List.count (Str.ofString "effect") (wordsOf r) = 1) <;> cases b2 : decide (List.count (Str.ofString "finish") (wordsOf r) = 1) <;> cases b3 : decide (List.count (Str.ofString "check") (wordsOf r) < 2) <;>
      simp only [e_bnd, ↓e_bok, e_bexc, e_ret, e_nox, ↓e_nok, e_cst, e_yes, e_m2, e_m1, e_tst, e_chn, e_and, e_or, e_not, e_vand, e_vor, e_vnot, e_mif, e_anil, e_acons, e_mC, e_call, e_mM, e_sl, e_ono, e_oso, e_dic1, ↓k_tst, ↓k_chnT, ↓k_chnF, ↓k_andT, ↓k_andF, ↓k_orT, ↓k_orF, ↓k_not, ↓k_oso, ↓k_asg, e_seq, ↓e_snx, ↓e_srt, ↓e_sbk, ↓e_sct, ↓e_lok, e_nxs, e_bks, e_cts, e_ex, e_rt, e_set, e_if, e_par, e_asg, f_setix, f_augix, e_sFor, e_forfix, e_src, e_rng1, e_enum, e_lc, e_cmpfix, f_get, ↓f_oo, ↓f_o1, f_ixR, f_ixO, f_ixL, f_ixSl, f_ixT, f_lenR, f_lenO, f_augR, f_setR, f_setO, f_goO, f_run, ↓f_rt, ↓f_nx, v_lenL, v_lenT, v_lenSl, v_addI, v_addII, v_sub, v_neg, v_eqI, v_eqS, v_eqB, v_neI, v_neS, v_lt, v_le, v_gt, v_ge, at_lit, ix_lit', Option.map_some, List.map_cons, List.map_nil, List.length_cons, List.length_nil, List.length_map, List.cons_append, List.nil_append, List.replicate, List.getElem?_cons_zero, List.getElem?_cons_succ, List.set_cons_zero, List.set_cons_succ, List.set_set, f_isi, f_isiO, f_isiB, v_slL, v_slSl, v_abs, v_max, v_min, v_kF, v_srcL, v_srcS, decide_true, decide_false, ↓reduceIte, Bool.false_eq_true, Bool.true_eq_false, Bool.not_true, Bool.not_false, Nat.reduceAdd, Nat.reduceSub, Nat.reduceLT, ↓u_oS, u_mul, u_mulS, u_div, u_mod, u_addS, u_addL, u_slS, u_ixS, u_lenS, u_str, u_kLst, u_kTup, u_kLstS, u_rng, u_upper, u_tNm, u_tTup, u_tNil, u_tCns, ↓u_tcR, f_isTS, wipeD, beq_self_eq_true, and_self, true_and, and_true, Int.reduceLT, Nat.reduceLeDiff, Int.reduceLE, Int.reduceNeg, Int.reduceToNat, Int.reduceAdd, g_src, ↓g_srcO, g_enu, ↓g_enuO, g_isT, ↓g_isTO, g_app, ↓g_appO, g_rev, ↓g_revO, g_lis, ↓g_lisO, g_kS, g_LR, g_kLR, h_fld, h_prop, h_meth, h_callO, h_mk, h_isi, h_gfld, h_gprop, h_gisi, h_isC, h_kMeth, ↓h_methR, h_kCallO, ↓h_notR, h_arN, h_tLst, h_asgH, h_srcT, h_max, h_min, e_fz, e_fzF, f_aug, ↓f_augK, h_mkS, k_mkS, k_mkST, e_fmt, e_js, k_js, e_js0, q_callK, q_strO, q_reprO, q_isCint, q_isCbl, q_isCstr, q_isCtup, q_isClst, q_isCnon, q_intB, q_intI, hit, hcs, S_l_is_plan_11, e1, e2, b1, b2, b3, Bool.true_and, Bool.false_and]

theorem plan_F {k : Nat} {p : PyData} {s : Sto} (h : Gd k p) (hk : k ≤ lim) : m_is_plan [ofP p] s = .ok (.bl (isPlanB p)) s := by
  cases p with
  | list xs =>
    cases xs with
    | nil => unfold m_is_plan B_is_plan S_is_plan_1; simp only [ofP, ofPs, e_bnd, ↓e_bok, e_bexc, e_ret, e_nox, ↓e_nok, e_cst, e_yes, e_m2, e_m1, e_tst, e_chn, e_and, e_or, e_not, e_vand, e_vor, e_vnot, e_mif, e_anil, e_acons, e_mC, e_call, e_mM, e_sl, e_ono, e_oso, e_dic1, ↓k_tst, ↓k_chnT, ↓k_chnF, ↓k_andT, ↓k_andF, ↓k_orT, ↓k_orF, ↓k_not, ↓k_oso, ↓k_asg, e_seq, ↓e_snx, ↓e_srt, ↓e_sbk, ↓e_sct, ↓e_lok, e_nxs, e_bks, e_cts, e_ex, e_rt, e_set, e_if, e_par, e_asg, f_setix, f_augix, e_sFor, e_forfix, e_src, e_rng1, e_enum, e_lc, e_cmpfix, f_get, ↓f_oo, ↓f_o1, f_ixR, f_ixO, f_ixL, f_ixSl, f_ixT, f_lenR, f_lenO, f_augR, f_setR, f_setO, f_goO, f_run, ↓f_rt, ↓f_nx, v_lenL, v_lenT, v_lenSl, v_addI, v_addII, v_sub, v_neg, v_eqI, v_eqS, v_eqB, v_neI, v_neS, v_lt, v_le, v_gt, v_ge, at_lit, ix_lit', Option.map_some, List.map_cons, List.map_nil, List.length_cons, List.length_nil, List.length_map, List.cons_append, List.nil_append, List.replicate, List.getElem?_cons_zero, List.getElem?_cons_succ, List.set_cons_zero, List.set_cons_succ, List.set_set, f_isi, f_isiO, f_isiB, v_slL, v_slSl, v_abs, v_max, v_min, v_kF, v_srcL, v_srcS, decide_true, decide_false, ↓reduceIte, Bool.false_eq_true, Bool.true_eq_false, Bool.not_true, Bool.not_false, Nat.reduceAdd, Nat.reduceSub, Nat.reduceLT, ↓u_oS, u_mul, u_mulS, u_div, u_mod, u_addS, u_addL, u_slS, u_ixS, u_lenS, u_str, u_kLst, u_kTup, u_kLstS, u_rng, u_upper, u_tNm, u_tTup, u_tNil, u_tCns, ↓u_tcR, f_isTS, wipeD, beq_self_eq_true, and_self, true_and, and_true, Int.reduceLT, Nat.reduceLeDiff, Int.reduceLE, Int.reduceNeg, Int.reduceToNat, Int.reduceAdd, g_src, ↓g_srcO, g_enu, ↓g_enuO, g_isT, ↓g_isTO, g_app, ↓g_appO, g_rev, ↓g_revO, g_lis, ↓g_lisO, g_kS, g_LR, g_kLR, h_fld, h_prop, h_meth, h_callO, h_mk, h_isi, h_gfld, h_gprop, h_gisi, h_isC, h_kMeth, ↓h_methR, h_kCallO, ↓h_notR, h_arN, h_tLst, h_asgH, h_srcT, h_max, h_min, e_fz, e_fzF, f_aug, ↓f_augK, h_mkS, k_mkS, k_mkST, e_fmt, e_js, k_js, e_js0, q_callK, q_strO, q_reprO, q_isCint, q_isCbl, q_isCstr, q_isCtup, q_isClst, q_isCnon, q_intB, q_intI, y_str_NoneType, y_str_bool, y_str_int, y_str_str, y_str_tuple, y_str_list, y_str_dict, y_tuple_NoneType, y_tuple_bool, y_tuple_int, y_tuple_str, y_tuple_tuple, y_tuple_list, y_tuple_dict, y_list_NoneType, y_list_bool, y_list_int, y_list_str, y_list_tuple, y_list_list, y_list_dict, li_0, li_1, li_2, li_3, li_4, li_5, li_6, li_7, li_8, li_9, li_10, li_11, li_12, li_13, S_is_plan_2]; rfl
    | cons x xs => exact plan_lst h hk
  | _ => unfold m_is_plan B_is_plan S_is_plan_1; simp only [ofP, e_bnd, ↓e_bok, e_bexc, e_ret, e_nox, ↓e_nok, e_cst, e_yes, e_m2, e_m1, e_tst, e_chn, e_and, e_or, e_not, e_vand, e_vor, e_vnot, e_mif, e_anil, e_acons, e_mC, e_call, e_mM, e_sl, e_ono, e_oso, e_dic1, ↓k_tst, ↓k_chnT, ↓k_chnF, ↓k_andT, ↓k_andF, ↓k_orT, ↓k_orF, ↓k_not, ↓k_oso, ↓k_asg, e_seq, ↓e_snx, ↓e_srt, ↓e_sbk, ↓e_sct, ↓e_lok, e_nxs, e_bks, e_cts, e_ex, e_rt, e_set, e_if, e_par, e_asg, f_setix, f_augix, e_sFor, e_forfix, e_src, e_rng1, e_enum, e_lc, e_cmpfix, f_get, ↓f_oo, ↓f_o1, f_ixR, f_ixO, f_ixL, f_ixSl, f_ixT, f_lenR, f_lenO, f_augR, f_setR, f_setO, f_goO, f_run, ↓f_rt, ↓f_nx, v_lenL, v_lenT, v_lenSl, v_addI, v_addII, v_sub, v_neg, v_eqI, v_eqS, v_eqB, v_neI, v_neS, v_lt, v_le, v_gt, v_ge, at_lit, ix_lit', Option.map_some, List.map_cons, List.map_nil, List.length_cons, List.length_nil, List.length_map, List.cons_append, List.nil_append, List.replicate, List.getElem?_cons_zero, List.getElem?_cons_succ, List.set_cons_zero, List.set_cons_succ, List.set_set, f_isi, f_isiO, f_isiB, v_slL, v_slSl, v_abs, v_max, v_min, v_kF, v_srcL, v_srcS, decide_true, decide_false, ↓reduceIte, Bool.false_eq_true, Bool.true_eq_false, Bool.not_true, Bool.not_false, Nat.reduceAdd, Nat.reduceSub, Nat.reduceLT, ↓u_oS, u_mul, u_mulS, u_div, u_mod, u_addS, u_addL, u_slS, u_ixS, u_lenS, u_str, u_kLst, u_kTup, u_kLstS, u_rng, u_upper, u_tNm, u_tTup, u_tNil, u_tCns, ↓u_tcR, f_isTS, wipeD, beq_self_eq_true, and_self, true_and, and_true, Int.reduceLT, Nat.reduceLeDiff, Int.reduceLE, Int.reduceNeg, Int.reduceToNat, Int.reduceAdd, g_src, ↓g_srcO, g_enu, ↓g_enuO, g_isT, ↓g_isTO, g_app, ↓g_appO, g_rev, ↓g_revO, g_lis, ↓g_lisO, g_kS, g_LR, g_kLR, h_fld, h_prop, h_meth, h_callO, h_mk, h_isi, h_gfld, h_gprop, h_gisi, h_isC, h_kMeth, ↓h_methR, h_kCallO, ↓h_notR, h_arN, h_tLst, h_asgH, h_srcT, h_max, h_min, e_fz, e_fzF, f_aug, ↓f_augK, h_mkS, k_mkS, k_mkST, e_fmt, e_js, k_js, e_js0, q_callK, q_strO, q_reprO, q_isCint, q_isCbl, q_isCstr, q_isCtup, q_isClst, q_isCnon, q_intB, q_intI, y_str_NoneType, y_str_bool, y_str_int, y_str_str, y_str_tuple, y_str_list, y_str_dict, y_tuple_NoneType, y_tuple_bool, y_tuple_int, y_tuple_str, y_tuple_tuple, y_tuple_list, y_tuple_dict, y_list_NoneType, y_list_bool, y_list_int, y_list_str, y_list_tuple, y_list_list, y_list_dict, li_0, li_1, li_2, li_3, li_4, li_5, li_6, li_7, li_8, li_9, li_10, li_11, li_12, li_13, S_is_plan_2]; rfl
theorem plan_D {s : Sto} : m_is_plan [.dic []] s = .ok (.bl false) s := by
  unfold m_is_plan B_is_plan S_is_plan_1; simp only [e_bnd, ↓e_bok, e_bexc, e_ret, e_nox, ↓e_nok, e_cst, e_yes, e_m2, e_m1, e_tst, e_chn, e_and, e_or, e_not, e_vand, e_vor, e_vnot, e_mif, e_anil, e_acons, e_mC, e_call, e_mM, e_sl, e_ono, e_oso, e_dic1, ↓k_tst, ↓k_chnT, ↓k_chnF, ↓k_andT, ↓k_andF, ↓k_orT, ↓k_orF, ↓k_not, ↓k_oso, ↓k_asg, e_seq, ↓e_snx, ↓e_srt, ↓e_sbk, ↓e_sct, ↓e_lok, e_nxs, e_bks, e_cts, e_ex, e_rt, e_set, e_if, e_par, e_asg, f_setix, f_augix, e_sFor, e_forfix, e_src, e_rng1, e_enum, e_lc, e_cmpfix, f_get, ↓f_oo, ↓f_o1, f_ixR, f_ixO, f_ixL, f_ixSl, f_ixT, f_lenR, f_lenO, f_augR, f_setR, f_setO, f_goO, f_run, ↓f_rt, ↓f_nx, v_lenL, v_lenT, v_lenSl, v_addI, v_addII, v_sub, v_neg, v_eqI, v_eqS, v_eqB, v_neI, v_neS, v_lt, v_le, v_gt, v_ge, at_lit, ix_lit', Option.map_some, List.map_cons, List.map_nil, List.length_cons, List.length_nil, List.length_map, List.cons_append, List.nil_append, List.replicate, List.getElem?_cons_zero, List.getElem?_cons_succ, List.set_cons_zero, List.set_cons_succ, List.set_set, f_isi, f_isiO, f_isiB, v_slL, v_slSl, v_abs, v_max, v_min, v_kF, v_srcL, v_srcS, decide_true, decide_false, ↓reduceIte, Bool.false_eq_true, Bool.true_eq_false, Bool.not_true, Bool.not_false, Nat.reduceAdd, Nat.reduceSub, Nat.reduceLT, ↓u_oS, u_mul, u_mulS, u_div, u_mod, u_addS, u_addL, u_slS, u_ixS, u_lenS, u_str, u_kLst, u_kTup, u_kLstS, u_rng, u_upper, u_tNm, u_tTup, u_tNil, u_tCns, ↓u_tcR, f_isTS, wipeD, beq_self_eq_true, and_self, true_and, and_true, Int.reduceLT, Nat.reduceLeDiff, Int.reduceLE, Int.reduceNeg, Int.reduceToNat, Int.reduceAdd, g_src, ↓g_srcO, g_enu, ↓g_enuO, g_isT, ↓g_isTO, g_app, ↓g_appO, g_rev, ↓g_revO, g_lis, ↓g_lisO, g_kS, g_LR, g_kLR, h_fld, h_prop, h_meth, h_callO, h_mk, h_isi, h_gfld, h_gprop, h_gisi, h_isC, h_kMeth, ↓h_methR, h_kCallO, ↓h_notR, h_arN, h_tLst, h_asgH, h_srcT, h_max, h_min, e_fz, e_fzF, f_aug, ↓f_augK, h_mkS, k_mkS, k_mkST, e_fmt, e_js, k_js, e_js0, q_callK, q_strO, q_reprO, q_isCint, q_isCbl, q_isCstr, q_isCtup, q_isClst, q_isCnon, q_intB, q_intI, y_str_NoneType, y_str_bool, y_str_int, y_str_str, y_str_tuple, y_str_list, y_str_dict, y_tuple_NoneType, y_tuple_bool, y_tuple_int, y_tuple_str, y_tuple_tuple, y_tuple_list, y_tuple_dict, y_list_NoneType, y_list_bool, y_list_int, y_list_str, y_list_tuple, y_list_list, y_list_dict, li_0, li_1, li_2, li_3, li_4, li_5, li_6, li_7, li_8, li_9, li_10, li_11, li_12, li_13, S_is_plan_2]
theorem lplan_D {s : Sto} : m_l_is_plan [.dic []] s = .ok (.bl false) s := by
  unfold m_l_is_plan B_l_is_plan S_l_is_plan_1; simp only [e_bnd, ↓e_bok, e_bexc, e_ret, e_nox, ↓e_nok, e_cst, e_yes, e_m2, e_m1, e_tst, e_chn, e_and, e_or, e_not, e_vand, e_vor, e_vnot, e_mif, e_anil, e_acons, e_mC, e_call, e_mM, e_sl, e_ono, e_oso, e_dic1, ↓k_tst, ↓k_chnT, ↓k_chnF, ↓k_andT, ↓k_andF, ↓k_orT, ↓k_orF, ↓k_not, ↓k_oso, ↓k_asg, e_seq, ↓e_snx, ↓e_srt, ↓e_sbk, ↓e_sct, ↓e_lok, e_nxs, e_bks, e_cts, e_ex, e_rt, e_set, e_if, e_par, e_asg, f_setix, f_augix, e_sFor, e_forfix, e_src, e_rng1, e_enum, e_lc, e_cmpfix, f_get, ↓f_oo, ↓f_o1, f_ixR, f_ixO, f_ixL, f_ixSl, f_ixT, f_lenR, f_lenO, f_augR, f_setR, f_setO, f_goO, f_run, ↓f_rt, ↓f_nx, v_lenL, v_lenT, v_lenSl, v_addI, v_addII, v_sub, v_neg, v_eqI, v_eqS, v_eqB, v_neI, v_neS, v_lt, v_le, v_gt, v_ge, at_lit, ix_lit', Option.map_some, List.map_cons, List.map_nil, List.length_cons, List.length_nil, List.length_map, List.cons_append, List.nil_append, List.replicate, List.getElem?_cons_zero, List.getElem?_cons_succ, List.set_cons_zero, List.set_cons_succ, List.set_set, f_isi, f_isiO, f_isiB, v_slL, v_slSl, v_abs, v_max, v_min, v_kF, v_srcL, v_srcS, decide_true, decide_false, ↓reduceIte, Bool.false_eq_true, Bool.true_eq_false, Bool.not_true, Bool.not_false, Nat.reduceAdd, Nat.reduceSub, Nat.reduceLT, ↓u_oS, u_mul, u_mulS, u_div, u_mod, u_addS, u_addL, u_slS, u_ixS, u_lenS, u_str, u_kLst, u_kTup, u_kLstS, u_rng, u_upper, u_tNm, u_tTup, u_tNil, u_tCns, ↓u_tcR, f_isTS, wipeD, beq_self_eq_true, and_self, true_and, and_true, Int.reduceLT, Nat.reduceLeDiff, Int.reduceLE, Int.reduceNeg, Int.reduceToNat, Int.reduceAdd, g_src, ↓g_srcO, g_enu, ↓g_enuO, g_isT, ↓g_isTO, g_app, ↓g_appO, g_rev, ↓g_revO, g_lis, ↓g_lisO, g_kS, g_LR, g_kLR, h_fld, h_prop, h_meth, h_callO, h_mk, h_isi, h_gfld, h_gprop, h_gisi, h_isC, h_kMeth, ↓h_methR, h_kCallO, ↓h_notR, h_arN, h_tLst, h_asgH, h_srcT, h_max, h_min, e_fz, e_fzF, f_aug, ↓f_augK, h_mkS, k_mkS, k_mkST, e_fmt, e_js, k_js, e_js0, q_callK, q_strO, q_reprO, q_isCint, q_isCbl, q_isCstr, q_isCtup, q_isClst, q_isCnon, q_intB, q_intI, y_str_NoneType, y_str_bool, y_str_int, y_str_str, y_str_tuple, y_str_list, y_str_dict, y_tuple_NoneType, y_tuple_bool, y_tuple_int, y_tuple_str, y_tuple_tuple, y_tuple_list, y_tuple_dict, y_list_NoneType, y_list_bool, y_list_int, y_list_str, y_list_tuple, y_list_list, y_list_dict, li_0, li_1, li_2, li_3, li_4, li_5, li_6, li_7, li_8, li_9, li_10, li_11, li_12, li_13, S_l_is_plan_2, frz_bl0]
theorem lplan_lst {k : Nat} {p0 : PyData} {r : List PyData} {s : Sto} (h : Gd k (.list (p0 :: r))) (hk : k ≤ lim) : m_l_is_plan [ofP (.list (p0 :: r))] s = .ok (.bl (isPlanB (.list (p0 :: r)))) s := by
  have e0 : ofP (.list (p0 :: r)) = .lst (ofP p0 :: ofPs r) := rfl
  have hB : isPlanB (.list (p0 :: r)) = (decide (2 ≤ r.length + 1) && decide (r.length + 1 ≤ 5) && PyData.eqv p0 pTake && restOk r) := rfl
  rw [e0, hB]
  unfold m_l_is_plan B_l_is_plan
  by_cases hn : 2 ≤ r.length + 1 ∧ r.length + 1 ≤ 5
  · have e1 := lp1 (s := s) h hk hn.1 hn.2
    have e3 := lp3 (s := s) h hk
    have d1 : decide (2 ≤ r.length + 1) = true := decide_eq_true hn.1
    have d2 : decide (r.length + 1 ≤ 5) = true := decide_eq_true hn.2
    rw [filt_all, List.all_cons] at e3
    rw [d1, d2]
    cases ht : PyData.eqv p0 pTake with
    | false =>
      rw [ht, Bool.and_false] at e3
      simp only [e_bnd, ↓e_bok, e_bexc, e_ret, e_nox, ↓e_nok, e_cst, e_yes, e_m2, e_m1, e_tst, e_chn, e_and, e_or, e_not, e_vand, e_vor, e_vnot, e_mif, e_anil, e_acons, e_mC, e_call, e_mM, e_sl, e_ono, e_oso, e_dic1, ↓k_tst, ↓k_chnT, ↓k_chnF, ↓k_andT, ↓k_andF, ↓k_orT, ↓k_orF, ↓k_not, ↓k_oso, ↓k_asg, e_seq, ↓e_snx, ↓e_srt, ↓e_sbk, ↓e_sct, ↓e_lok, e_nxs, e_bks, e_cts, e_ex, e_rt, e_set, e_if, e_par, e_asg, f_setix, f_augix, e_sFor, e_forfix, e_src, e_rng1, e_enum, e_lc, e_cmpfix, f_get, ↓f_oo, ↓f_o1, f_ixR, f_ixO, f_ixL, f_ixSl, f_ixT, f_lenR, f_lenO, f_augR, f_setR, f_setO, f_goO, f_run, ↓f_rt, ↓f_nx, v_lenL, v_lenT, v_lenSl, v_addI, v_addII, v_sub, v_neg, v_eqI, v_eqS, v_eqB, v_neI, v_neS, v_lt, v_le, v_gt, v_ge, at_lit, ix_lit', Option.map_some, List.map_cons, List.map_nil, List.length_cons, List.length_nil, List.length_map, List.cons_append, List.nil_append, List.replicate, List.getElem?_cons_zero, List.getElem?_cons_succ, List.set_cons_zero, List.set_cons_succ, List.set_set, f_isi, f_isiO, f_isiB, v_slL, v_slSl, v_abs, v_max, v_min, v_kF, v_srcL, v_srcS, decide_true, decide_false, ↓reduceIte, Bool.false_eq_true, Bool.true_eq_false, Bool.not_true, Bool.not_false, Nat.reduceAdd, Nat.reduceSub, Nat.reduceLT, ↓u_oS, u_mul, u_mulS, u_div, u_mod, u_addS, u_addL, u_slS, u_ixS, u_lenS, u_str, u_kLst, u_kTup, u_kLstS, u_rng, u_upper, u_tNm, u_tTup, u_tNil, u_tCns, ↓u_tcR, f_isTS, wipeD, beq_self_eq_true, and_self, true_and, and_true, Int.reduceLT, Nat.reduceLeDiff, Int.reduceLE, Int.reduceNeg, Int.reduceToNat, Int.reduceAdd, g_src, ↓g_srcO, g_enu, ↓g_enuO, g_isT, ↓g_isTO, g_app, ↓g_appO, g_rev, ↓g_revO, g_lis, ↓g_lisO, g_kS, g_LR, g_kLR, h_fld, h_prop, h_meth, h_callO, h_mk, h_isi, h_gfld, h_gprop, h_gisi, h_isC, h_kMeth, ↓h_methR, h_kCallO, ↓h_notR, h_arN, h_tLst, h_asgH, h_srcT, h_max, h_min, e_fz, e_fzF, f_aug, ↓f_augK, h_mkS, k_mkS, k_mkST, e_fmt, e_js, k_js, e_js0, q_callK, q_strO, q_reprO, q_isCint, q_isCbl, q_isCstr, q_isCtup, q_isClst, q_isCnon, q_intB, q_intI, e1, e3, frz_bl0, ht, Bool.and_false, Bool.false_and]
    | true =>
      have hb0 := eqv_take ht
      rw [ht, hb0, Bool.and_true, Bool.not_false, Bool.true_and] at e3
      cases hb : r.all (fun p => !bad1 p) with
      | false =>
        rw [hb] at e3
        simp only [e_bnd, ↓e_bok, e_bexc, e_ret, e_nox, ↓e_nok, e_cst, e_yes, e_m2, e_m1, e_tst, e_chn, e_and, e_or, e_not, e_vand, e_vor, e_vnot, e_mif, e_anil, e_acons, e_mC, e_call, e_mM, e_sl, e_ono, e_oso, e_dic1, ↓k_tst, ↓k_chnT, ↓k_chnF, ↓k_andT, ↓k_andF, ↓k_orT, ↓k_orF, ↓k_not, ↓k_oso, ↓k_asg, e_seq, ↓e_snx, ↓e_srt, ↓e_sbk, ↓e_sct, ↓e_lok, e_nxs, e_bks, e_cts, e_ex, e_rt, e_set, e_if, e_par, e_asg, f_setix, f_augix, e_sFor, e_forfix, e_src, e_rng1, e_enum, e_lc, e_cmpfix, f_get, ↓f_oo, ↓f_o1, f_ixR, f_ixO, f_ixL, f_ixSl, f_ixT, f_lenR, f_lenO, f_augR, f_setR, f_setO, f_goO, f_run, ↓f_rt, ↓f_nx, v_lenL, v_lenT, v_lenSl, v_addI, v_addII, v_sub, v_neg, v_eqI, v_eqS, v_eqB, v_neI, v_neS, v_lt, v_le, v_gt, v_ge, at_lit, ix_lit', Option.map_some, List.map_cons, List.map_nil, List.length_cons, List.length_nil, List.length_map, List.cons_append, List.nil_append, List.replicate, List.getElem?_cons_zero, List.getElem?_cons_succ, List.set_cons_zero, List.set_cons_succ, List.set_set, f_isi, f_isiO, f_isiB, v_slL, v_slSl, v_abs, v_max, v_min, v_kF, v_srcL, v_srcS, decide_true, decide_false, ↓reduceIte, Bool.false_eq_true, Bool.true_eq_false, Bool.not_true, Bool.not_false, Nat.reduceAdd, Nat.reduceSub, Nat.reduceLT, ↓u_oS, u_mul, u_mulS, u_div, u_mod, u_addS, u_addL, u_slS, u_ixS, u_lenS, u_str, u_kLst, u_kTup, u_kLstS, u_rng, u_upper, u_tNm, u_tTup, u_tNil, u_tCns, ↓u_tcR, f_isTS, wipeD, beq_self_eq_true, and_self, true_and, and_true, Int.reduceLT, Nat.reduceLeDiff, Int.reduceLE, Int.reduceNeg, Int.reduceToNat, Int.reduceAdd, g_src, ↓g_srcO, g_enu, ↓g_enuO, g_isT, ↓g_isTO, g_app, ↓g_appO, g_rev, ↓g_revO, g_lis, ↓g_lisO, g_kS, g_LR, g_kLR, h_fld, h_prop, h_meth, h_callO, h_mk, h_isi, h_gfld, h_gprop, h_gisi, h_isC, h_kMeth, ↓h_methR, h_kCallO, ↓h_notR, h_arN, h_tLst, h_asgH, h_srcT, h_max, h_min, e_fz, e_fzF, f_aug, ↓f_augK, h_mkS, k_mkS, k_mkST, e_fmt, e_js, k_js, e_js0, q_callK, q_strO, q_reprO, q_isCint, q_isCbl, q_isCstr, q_isCtup, q_isClst, q_isCnon, q_intB, q_intI, e1, e3, frz_bl0, restOk, ht, parts_all, hb, Bool.and_false, Bool.false_and]
      | true =>
        rw [hb] at e3
        have hb' : ∀ p ∈ r, bad1 p = false := fun p hp => by
          have := List.all_eq_true.mp hb p hp
          simpa using this
        obtain ⟨σ, L, e5⟩ := lplan_rest (p0 := p0) (s := s) h.cons.2 hk hb'
        generalize hR : sSeq S_l_is_plan_5 (sSeq S_l_is_plan_6 (sSeq S_l_is_plan_8 (sSeq S_l_is_plan_10 S_l_is_plan_12))) = RR at *
        simp only [e_bnd, ↓e_bok, e_bexc, e_ret, e_nox, ↓e_nok, e_cst, e_yes, e_m2, e_m1, e_tst, e_chn, e_and, e_or, e_not, e_vand, e_vor, e_vnot, e_mif, e_anil, e_acons, e_mC, e_call, e_mM, e_sl, e_ono, e_oso, e_dic1, ↓k_tst, ↓k_chnT, ↓k_chnF, ↓k_andT, ↓k_andF, ↓k_orT, ↓k_orF, ↓k_not, ↓k_oso, ↓k_asg, e_seq, ↓e_snx, ↓e_srt, ↓e_sbk, ↓e_sct, ↓e_lok, e_nxs, e_bks, e_cts, e_ex, e_rt, e_set, e_if, e_par, e_asg, f_setix, f_augix, e_sFor, e_forfix, e_src, e_rng1, e_enum, e_lc, e_cmpfix, f_get, ↓f_oo, ↓f_o1, f_ixR, f_ixO, f_ixL, f_ixSl, f_ixT, f_lenR, f_lenO, f_augR, f_setR, f_setO, f_goO, f_run, ↓f_rt, ↓f_nx, v_lenL, v_lenT, v_lenSl, v_addI, v_addII, v_sub, v_neg, v_eqI, v_eqS, v_eqB, v_neI, v_neS, v_lt, v_le, v_gt, v_ge, at_lit, ix_lit', Option.map_some, List.map_cons, List.map_nil, List.length_cons, List.length_nil, List.length_map, List.cons_append, List.nil_append, List.replicate, List.getElem?_cons_zero, List.getElem?_cons_succ, List.set_cons_zero, List.set_cons_succ, List.set_set, f_isi, f_isiO, f_isiB, v_slL, v_slSl, v_abs, v_max, v_min, v_kF, v_srcL, v_srcS, decide_true, decide_false, ↓reduceIte, Bool.false_eq_true, Bool.true_eq_false, Bool.not_true, Bool.not_false, Nat.reduceAdd, Nat.reduceSub, Nat.reduceLT, ↓u_oS, u_mul, u_mulS, u_div, u_mod, u_addS, u_addL, u_slS, u_ixS, u_lenS, u_str, u_kLst, u_kTup, u_kLstS, u_rng, u_upper, u_tNm, u_tTup, u_tNil, u_tCns, ↓u_tcR, f_isTS, wipeD, beq_self_eq_true, and_self, true_and, and_true, Int.reduceLT, Nat.reduceLeDiff, Int.reduceLE, Int.reduceNeg, Int.reduceToNat, Int.reduceAdd, g_src, ↓g_srcO, g_enu, ↓g_enuO, g_isT, ↓g_isTO, g_app, ↓g_appO, g_rev, ↓g_revO, g_lis, ↓g_lisO, g_kS, g_LR, g_kLR, h_fld, h_prop, h_meth, h_callO, h_mk, h_isi, h_gfld, h_gprop, h_gisi, h_isC, h_kMeth, ↓h_methR, h_kCallO, ↓h_notR, h_arN, h_tLst, h_asgH, h_srcT, h_max, h_min, e_fz, e_fzF, f_aug, ↓f_augK, h_mkS, k_mkS, k_mkST, e_fmt, e_js, k_js, e_js0, q_callK, q_strO, q_reprO, q_isCint, q_isCbl, q_isCstr, q_isCtup, q_isClst, q_isCnon, q_intB, q_intI, e1, e3, e5, frz_bl, restOk, ht, parts_all, hb, Bool.true_and]
  · have e1 := lp1x (s := s) h hk hn
    have d : (decide (2 ≤ r.length + 1) && decide (r.length + 1 ≤ 5)) = false := by
      rw [← Bool.decide_and]; exact decide_eq_false hn
    rw [d]
    simp only [e_bnd, ↓e_bok, e_bexc, e_ret, e_nox, ↓e_nok, e_cst, e_yes, e_m2, e_m1, e_tst, e_chn, e_and, e_or, e_not, e_vand, e_vor, e_vnot, e_mif, e_anil, e_acons, e_mC, e_call, e_mM, e_sl, e_ono, e_oso, e_dic1, ↓k_tst, ↓k_chnT, ↓k_chnF, ↓k_andT, ↓k_andF, ↓k_orT, ↓k_orF, ↓k_not, ↓k_oso, ↓k_asg, e_seq, ↓e_snx, ↓e_srt, ↓e_sbk, ↓e_sct, ↓e_lok, e_nxs, e_bks, e_cts, e_ex, e_rt, e_set, e_if, e_par, e_asg, f_setix, f_augix, e_sFor, e_forfix, e_src, e_rng1, e_enum, e_lc, e_cmpfix, f_get, ↓f_oo, ↓f_o1, f_ixR, f_ixO, f_ixL, f_ixSl, f_ixT, f_lenR, f_lenO, f_augR, f_setR, f_setO, f_goO, f_run, ↓f_rt, ↓f_nx, v_lenL, v_lenT, v_lenSl, v_addI, v_addII, v_sub, v_neg, v_eqI, v_eqS, v_eqB, v_neI, v_neS, v_lt, v_le, v_gt, v_ge, at_lit, ix_lit', Option.map_some, List.map_cons, List.map_nil, List.length_cons, List.length_nil, List.length_map, List.cons_append, List.nil_append, List.replicate, List.getElem?_cons_zero, List.getElem?_cons_succ, List.set_cons_zero, List.set_cons_succ, List.set_set, f_isi, f_isiO, f_isiB, v_slL, v_slSl, v_abs, v_max, v_min, v_kF, v_srcL, v_srcS, decide_true, decide_false, ↓reduceIte, Bool.false_eq_true, Bool.true_eq_false, Bool.not_true, Bool.not_false, Nat.reduceAdd, Nat.reduceSub, Nat.reduceLT, ↓u_oS, u_mul, u_mulS, u_div, u_mod, u_addS, u_addL, u_slS, u_ixS, u_lenS, u_str, u_kLst, u_kTup, u_kLstS, u_rng, u_upper, u_tNm, u_tTup, u_tNil, u_tCns, ↓u_tcR, f_isTS, wipeD, beq_self_eq_true, and_self, true_and, and_true, Int.reduceLT, Nat.reduceLeDiff, Int.reduceLE, Int.reduceNeg, Int.reduceToNat, Int.reduceAdd, g_src, ↓g_srcO, g_enu, ↓g_enuO, g_isT, ↓g_isTO, g_app, ↓g_appO, g_rev, ↓g_revO, g_lis, ↓g_lisO, g_kS, g_LR, g_kLR, h_fld, h_prop, h_meth, h_callO, h_mk, h_isi, h_gfld, h_gprop, h_gisi, h_isC, h_kMeth, ↓h_methR, h_kCallO, ↓h_notR, h_arN, h_tLst, h_asgH, h_srcT, h_max, h_min, e_fz, e_fzF, f_aug, ↓f_augK, h_mkS, k_mkS, k_mkST, e_fmt, e_js, k_js, e_js0, q_callK, q_strO, q_reprO, q_isCint, q_isCbl, q_isCstr, q_isCtup, q_isClst, q_isCnon, q_intB, q_intI, e1, frz_bl0, Bool.false_and]
theorem lplan_F {k : Nat} {p : PyData} {s : Sto} (h : Gd k p) (hk : k ≤ lim) : m_l_is_plan [ofP p] s = .ok (.bl (isPlanB p)) s := by
  cases p with
  | list xs =>
    cases xs with
    | nil => unfold m_l_is_plan B_l_is_plan S_l_is_plan_1; simp only [ofP, ofPs, e_bnd, ↓e_bok, e_bexc, e_ret, e_nox, ↓e_nok, e_cst, e_yes, e_m2, e_m1, e_tst, e_chn, e_and, e_or, e_not, e_vand, e_vor, e_vnot, e_mif, e_anil, e_acons, e_mC, e_call, e_mM, e_sl, e_ono, e_oso, e_dic1, ↓k_tst, ↓k_chnT, ↓k_chnF, ↓k_andT, ↓k_andF, ↓k_orT, ↓k_orF, ↓k_not, ↓k_oso, ↓k_asg, e_seq, ↓e_snx, ↓e_srt, ↓e_sbk, ↓e_sct, ↓e_lok, e_nxs, e_bks, e_cts, e_ex, e_rt, e_set, e_if, e_par, e_asg, f_setix, f_augix, e_sFor, e_forfix, e_src, e_rng1, e_enum, e_lc, e_cmpfix, f_get, ↓f_oo, ↓f_o1, f_ixR, f_ixO, f_ixL, f_ixSl, f_ixT, f_lenR, f_lenO, f_augR, f_setR, f_setO, f_goO, f_run, ↓f_rt, ↓f_nx, v_lenL, v_lenT, v_lenSl, v_addI, v_addII, v_sub, v_neg, v_eqI, v_eqS, v_eqB, v_neI, v_neS, v_lt, v_le, v_gt, v_ge, at_lit, ix_lit', Option.map_some, List.map_cons, List.map_nil, List.length_cons, List.length_nil, List.length_map, List.cons_append, List.nil_append, List.replicate, List.getElem?_cons_zero, List.getElem?_cons_succ, List.set_cons_zero, List.set_cons_succ, List.set_set, f_isi, f_isiO, f_isiB, v_slL, v_slSl, v_abs, v_max, v_min, v_kF, v_srcL, v_srcS, decide_true, decide_false, ↓reduceIte, Bool.false_eq_true, Bool.true_eq_false, Bool.not_true, Bool.not_false, Nat.reduceAdd, Nat.reduceSub, Nat.reduceLT, ↓u_oS, u_mul, u_mulS, u_div, u_mod, u_addS, u_addL, u_slS, u_ixS, u_lenS, u_str, u_kLst, u_kTup, u_kLstS, u_rng, u_upper, u_tNm, u_tTup, u_tNil, u_tCns, ↓u_tcR, f_isTS, wipeD, beq_self_eq_true, and_self, true_and, and_true, Int.reduceLT, Nat.reduceLeDiff, Int.reduceLE, Int.reduceNeg, Int.reduceToNat, Int.reduceAdd, g_src, ↓g_srcO, g_enu, ↓g_enuO, g_isT, ↓g_isTO, g_app, ↓g_appO, g_rev, ↓g_revO, g_lis, ↓g_lisO, g_kS, g_LR, g_kLR, h_fld, h_prop, h_meth, h_callO, h_mk, h_isi, h_gfld, h_gprop, h_gisi, h_isC, h_kMeth, ↓h_methR, h_kCallO, ↓h_notR, h_arN, h_tLst, h_asgH, h_srcT, h_max, h_min, e_fz, e_fzF, f_aug, ↓f_augK, h_mkS, k_mkS, k_mkST, e_fmt, e_js, k_js, e_js0, q_callK, q_strO, q_reprO, q_isCint, q_isCbl, q_isCstr, q_isCtup, q_isClst, q_isCnon, q_intB, q_intI, y_str_NoneType, y_str_bool, y_str_int, y_str_str, y_str_tuple, y_str_list, y_str_dict, y_tuple_NoneType, y_tuple_bool, y_tuple_int, y_tuple_str, y_tuple_tuple, y_tuple_list, y_tuple_dict, y_list_NoneType, y_list_bool, y_list_int, y_list_str, y_list_tuple, y_list_list, y_list_dict, li_0, li_1, li_2, li_3, li_4, li_5, li_6, li_7, li_8, li_9, li_10, li_11, li_12, li_13, S_l_is_plan_2, frz_bl0, show decide (((0 : Nat) : Int) < 2) = true from rfl]; rfl
    | cons x xs => exact lplan_lst h hk
  | _ => unfold m_l_is_plan B_l_is_plan S_l_is_plan_1; simp only [ofP, e_bnd, ↓e_bok, e_bexc, e_ret, e_nox, ↓e_nok, e_cst, e_yes, e_m2, e_m1, e_tst, e_chn, e_and, e_or, e_not, e_vand, e_vor, e_vnot, e_mif, e_anil, e_acons, e_mC, e_call, e_mM, e_sl, e_ono, e_oso, e_dic1, ↓k_tst, ↓k_chnT, ↓k_chnF, ↓k_andT, ↓k_andF, ↓k_orT, ↓k_orF, ↓k_not, ↓k_oso, ↓k_asg, e_seq, ↓e_snx, ↓e_srt, ↓e_sbk, ↓e_sct, ↓e_lok, e_nxs, e_bks, e_cts, e_ex, e_rt, e_set, e_if, e_par, e_asg, f_setix, f_augix, e_sFor, e_forfix, e_src, e_rng1, e_enum, e_lc, e_cmpfix, f_get, ↓f_oo, ↓f_o1, f_ixR, f_ixO, f_ixL, f_ixSl, f_ixT, f_lenR, f_lenO, f_augR, f_setR, f_setO, f_goO, f_run, ↓f_rt, ↓f_nx, v_lenL, v_lenT, v_lenSl, v_addI, v_addII, v_sub, v_neg, v_eqI, v_eqS, v_eqB, v_neI, v_neS, v_lt, v_le, v_gt, v_ge, at_lit, ix_lit', Option.map_some, List.map_cons, List.map_nil, List.length_cons, List.length_nil, List.length_map, List.cons_append, List.nil_append, List.replicate, List.getElem?_cons_zero, List.getElem?_cons_succ, List.set_cons_zero, List.set_cons_succ, List.set_set, f_isi, f_isiO, f_isiB, v_slL, v_slSl, v_abs, v_max, v_min, v_kF, v_srcL, v_srcS, decide_true, decide_false, ↓reduceIte, Bool.false_eq_true, Bool.true_eq_false, Bool.not_true, Bool.not_false, Nat.reduceAdd, Nat.reduceSub, Nat.reduceLT, ↓u_oS, u_mul, u_mulS, u_div, u_mod, u_addS, u_addL, u_slS, u_ixS, u_lenS, u_str, u_kLst, u_kTup, u_kLstS, u_rng, u_upper, u_tNm, u_tTup, u_tNil, u_tCns, ↓u_tcR, f_isTS, wipeD, beq_self_eq_true, and_self, true_and, and_true, Int.reduceLT, Nat.reduceLeDiff, Int.reduceLE, Int.reduceNeg, Int.reduceToNat, Int.reduceAdd, g_src, ↓g_srcO, g_enu, ↓g_enuO, g_isT, ↓g_isTO, g_app, ↓g_appO, g_rev, ↓g_revO, g_lis, ↓g_lisO, g_kS, g_LR, g_kLR, h_fld, h_prop, h_meth, h_callO, h_mk, h_isi, h_gfld, h_gprop, h_gisi, h_isC, h_kMeth, ↓h_methR, h_kCallO, ↓h_notR, h_arN, h_tLst, h_asgH, h_srcT, h_max, h_min, e_fz, e_fzF, f_aug, ↓f_augK, h_mkS, k_mkS, k_mkST, e_fmt, e_js, k_js, e_js0, q_callK, q_strO, q_reprO, q_isCint, q_isCbl, q_isCstr, q_isCtup, q_isClst, q_isCnon, q_intB, q_intI, y_str_NoneType, y_str_bool, y_str_int, y_str_str, y_str_tuple, y_str_list, y_str_dict, y_tuple_NoneType, y_tuple_bool, y_tuple_int, y_tuple_str, y_tuple_tuple, y_tuple_list, y_tuple_dict, y_list_NoneType, y_list_bool, y_list_int, y_list_str, y_list_tuple, y_list_list, y_list_dict, li_0, li_1, li_2, li_3, li_4, li_5, li_6, li_7, li_8, li_9, li_10, li_11, li_12, li_13, S_l_is_plan_2, frz_bl0]; rfl

theorem alike_bl (b : Bool) (s : Sto) : m_l_alike [.bl b, .bl b] s = .ok (.bl true) s := by
  have h : ∀ b, cRepr [.bl b] s = .ok (.str (PyData.bool b).shown) s := fun b => by cases b <;> rfl
  unfold m_l_alike B_l_alike S_l_alike_1
  simp only [e_bnd, ↓e_bok, e_bexc, e_ret, e_nox, ↓e_nok, e_cst, e_yes, e_m2, e_m1, e_tst, e_chn, e_and, e_or, e_not, e_vand, e_vor, e_vnot, e_mif, e_anil, e_acons, e_mC, e_call, e_mM, e_sl, e_ono, e_oso, e_dic1, ↓k_tst, ↓k_chnT, ↓k_chnF, ↓k_andT, ↓k_andF, ↓k_orT, ↓k_orF, ↓k_not, ↓k_oso, ↓k_asg, e_seq, ↓e_snx, ↓e_srt, ↓e_sbk, ↓e_sct, ↓e_lok, e_nxs, e_bks, e_cts, e_ex, e_rt, e_set, e_if, e_par, e_asg, f_setix, f_augix, e_sFor, e_forfix, e_src, e_rng1, e_enum, e_lc, e_cmpfix, f_get, ↓f_oo, ↓f_o1, f_ixR, f_ixO, f_ixL, f_ixSl, f_ixT, f_lenR, f_lenO, f_augR, f_setR, f_setO, f_goO, f_run, ↓f_rt, ↓f_nx, v_lenL, v_lenT, v_lenSl, v_addI, v_addII, v_sub, v_neg, v_eqI, v_eqS, v_eqB, v_neI, v_neS, v_lt, v_le, v_gt, v_ge, at_lit, ix_lit', Option.map_some, List.map_cons, List.map_nil, List.length_cons, List.length_nil, List.length_map, List.cons_append, List.nil_append, List.replicate, List.getElem?_cons_zero, List.getElem?_cons_succ, List.set_cons_zero, List.set_cons_succ, List.set_set, f_isi, f_isiO, f_isiB, v_slL, v_slSl, v_abs, v_max, v_min, v_kF, v_srcL, v_srcS, decide_true, decide_false, ↓reduceIte, Bool.false_eq_true, Bool.true_eq_false, Bool.not_true, Bool.not_false, Nat.reduceAdd, Nat.reduceSub, Nat.reduceLT, ↓u_oS, u_mul, u_mulS, u_div, u_mod, u_addS, u_addL, u_slS, u_ixS, u_lenS, u_str, u_kLst, u_kTup, u_kLstS, u_rng, u_upper, u_tNm, u_tTup, u_tNil, u_tCns, ↓u_tcR, f_isTS, wipeD, beq_self_eq_true, and_self, true_and, and_true, Int.reduceLT, Nat.reduceLeDiff, Int.reduceLE, Int.reduceNeg, Int.reduceToNat, Int.reduceAdd, g_src, ↓g_srcO, g_enu, ↓g_enuO, g_isT, ↓g_isTO, g_app, ↓g_appO, g_rev, ↓g_revO, g_lis, ↓g_lisO, g_kS, g_LR, g_kLR, h_fld, h_prop, h_meth, h_callO, h_mk, h_isi, h_gfld, h_gprop, h_gisi, h_isC, h_kMeth, ↓h_methR, h_kCallO, ↓h_notR, h_arN, h_tLst, h_asgH, h_srcT, h_max, h_min, e_fz, e_fzF, f_aug, ↓f_augK, h_mkS, k_mkS, k_mkST, e_fmt, e_js, k_js, e_js0, q_callK, q_strO, q_reprO, q_isCint, q_isCbl, q_isCstr, q_isCtup, q_isClst, q_isCnon, q_intB, q_intI, h]
theorem right_of {d : D} {b : Bool} {z : Str} {s : Sto} (hr : cRepr [d] s = .ok (.str z) s) (h1 : m_is_plan [d] s = .ok (.bl b) s) (h2 : m_l_is_plan [d] s = .ok (.bl b) s) : m_l_right [d] s = .ok (.bl true) s := by
  have e3 : ∀ x, S_l_right_3 [some d, some (.str z), x] s = .go .nx [some d, some (.str z), x] s := fun x => by
    unfold S_l_right_3
    simp only [e_bnd, ↓e_bok, e_bexc, e_ret, e_nox, ↓e_nok, e_cst, e_yes, e_m2, e_m1, e_tst, e_chn, e_and, e_or, e_not, e_vand, e_vor, e_vnot, e_mif, e_anil, e_acons, e_mC, e_call, e_mM, e_sl, e_ono, e_oso, e_dic1, ↓k_tst, ↓k_chnT, ↓k_chnF, ↓k_andT, ↓k_andF, ↓k_orT, ↓k_orF, ↓k_not, ↓k_oso, ↓k_asg, e_seq, ↓e_snx, ↓e_srt, ↓e_sbk, ↓e_sct, ↓e_lok, e_nxs, e_bks, e_cts, e_ex, e_rt, e_set, e_if, e_par, e_asg, f_setix, f_augix, e_sFor, e_forfix, e_src, e_rng1, e_enum, e_lc, e_cmpfix, f_get, ↓f_oo, ↓f_o1, f_ixR, f_ixO, f_ixL, f_ixSl, f_ixT, f_lenR, f_lenO, f_augR, f_setR, f_setO, f_goO, f_run, ↓f_rt, ↓f_nx, v_lenL, v_lenT, v_lenSl, v_addI, v_addII, v_sub, v_neg, v_eqI, v_eqS, v_eqB, v_neI, v_neS, v_lt, v_le, v_gt, v_ge, at_lit, ix_lit', Option.map_some, List.map_cons, List.map_nil, List.length_cons, List.length_nil, List.length_map, List.cons_append, List.nil_append, List.replicate, List.getElem?_cons_zero, List.getElem?_cons_succ, List.set_cons_zero, List.set_cons_succ, List.set_set, f_isi, f_isiO, f_isiB, v_slL, v_slSl, v_abs, v_max, v_min, v_kF, v_srcL, v_srcS, decide_true, decide_false, ↓reduceIte, Bool.false_eq_true, Bool.true_eq_false, Bool.not_true, Bool.not_false, Nat.reduceAdd, Nat.reduceSub, Nat.reduceLT, ↓u_oS, u_mul, u_mulS, u_div, u_mod, u_addS, u_addL, u_slS, u_ixS, u_lenS, u_str, u_kLst, u_kTup, u_kLstS, u_rng, u_upper, u_tNm, u_tTup, u_tNil, u_tCns, ↓u_tcR, f_isTS, wipeD, beq_self_eq_true, and_self, true_and, and_true, Int.reduceLT, Nat.reduceLeDiff, Int.reduceLE, Int.reduceNeg, Int.reduceToNat, Int.reduceAdd, g_src, ↓g_srcO, g_enu, ↓g_enuO, g_isT, ↓g_isTO, g_app, ↓g_appO, g_rev, ↓g_revO, g_lis, ↓g_lisO, g_kS, g_LR, g_kLR, h_fld, h_prop, h_meth, h_callO, h_mk, h_isi, h_gfld, h_gprop, h_gisi, h_isC, h_kMeth, ↓h_methR, h_kCallO, ↓h_notR, h_arN, h_tLst, h_asgH, h_srcT, h_max, h_min, e_fz, e_fzF, f_aug, ↓f_augK, h_mkS, k_mkS, k_mkST, e_fmt, e_js, k_js, e_js0, q_callK, q_strO, q_reprO, q_isCint, q_isCbl, q_isCstr, q_isCtup, q_isClst, q_isCnon, q_intB, q_intI, h1, h2, alike_bl, hr]
  unfold m_l_right B_l_right S_l_right_1 S_l_right_2 S_l_right_5
  simp only [e_bnd, ↓e_bok, e_bexc, e_ret, e_nox, ↓e_nok, e_cst, e_yes, e_m2, e_m1, e_tst, e_chn, e_and, e_or, e_not, e_vand, e_vor, e_vnot, e_mif, e_anil, e_acons, e_mC, e_call, e_mM, e_sl, e_ono, e_oso, e_dic1, ↓k_tst, ↓k_chnT, ↓k_chnF, ↓k_andT, ↓k_andF, ↓k_orT, ↓k_orF, ↓k_not, ↓k_oso, ↓k_asg, e_seq, ↓e_snx, ↓e_srt, ↓e_sbk, ↓e_sct, ↓e_lok, e_nxs, e_bks, e_cts, e_ex, e_rt, e_set, e_if, e_par, e_asg, f_setix, f_augix, e_sFor, e_forfix, e_src, e_rng1, e_enum, e_lc, e_cmpfix, f_get, ↓f_oo, ↓f_o1, f_ixR, f_ixO, f_ixL, f_ixSl, f_ixT, f_lenR, f_lenO, f_augR, f_setR, f_setO, f_goO, f_run, ↓f_rt, ↓f_nx, v_lenL, v_lenT, v_lenSl, v_addI, v_addII, v_sub, v_neg, v_eqI, v_eqS, v_eqB, v_neI, v_neS, v_lt, v_le, v_gt, v_ge, at_lit, ix_lit', Option.map_some, List.map_cons, List.map_nil, List.length_cons, List.length_nil, List.length_map, List.cons_append, List.nil_append, List.replicate, List.getElem?_cons_zero, List.getElem?_cons_succ, List.set_cons_zero, List.set_cons_succ, List.set_set, f_isi, f_isiO, f_isiB, v_slL, v_slSl, v_abs, v_max, v_min, v_kF, v_srcL, v_srcS, decide_true, decide_false, ↓reduceIte, Bool.false_eq_true, Bool.true_eq_false, Bool.not_true, Bool.not_false, Nat.reduceAdd, Nat.reduceSub, Nat.reduceLT, ↓u_oS, u_mul, u_mulS, u_div, u_mod, u_addS, u_addL, u_slS, u_ixS, u_lenS, u_str, u_kLst, u_kTup, u_kLstS, u_rng, u_upper, u_tNm, u_tTup, u_tNil, u_tCns, ↓u_tcR, f_isTS, wipeD, beq_self_eq_true, and_self, true_and, and_true, Int.reduceLT, Nat.reduceLeDiff, Int.reduceLE, Int.reduceNeg, Int.reduceToNat, Int.reduceAdd, g_src, ↓g_srcO, g_enu, ↓g_enuO, g_isT, ↓g_isTO, g_app, ↓g_appO, g_rev, ↓g_revO, g_lis, ↓g_lisO, g_kS, g_LR, g_kLR, h_fld, h_prop, h_meth, h_callO, h_mk, h_isi, h_gfld, h_gprop, h_gisi, h_isC, h_kMeth, ↓h_methR, h_kCallO, ↓h_notR, h_arN, h_tLst, h_asgH, h_srcT, h_max, h_min, e_fz, e_fzF, f_aug, ↓f_augK, h_mkS, k_mkS, k_mkST, e_fmt, e_js, k_js, e_js0, q_callK, q_strO, q_reprO, q_isCint, q_isCbl, q_isCstr, q_isCtup, q_isClst, q_isCnon, q_intB, q_intI, hr]
  rw [if_pos (by decide)]
  have hg : rng 0 2 = [.int 0, .int 1] := rfl
  simp only [hg, e_bnd, ↓e_bok, e_bexc, e_ret, e_nox, ↓e_nok, e_cst, e_yes, e_m2, e_m1, e_tst, e_chn, e_and, e_or, e_not, e_vand, e_vor, e_vnot, e_mif, e_anil, e_acons, e_mC, e_call, e_mM, e_sl, e_ono, e_oso, e_dic1, ↓k_tst, ↓k_chnT, ↓k_chnF, ↓k_andT, ↓k_andF, ↓k_orT, ↓k_orF, ↓k_not, ↓k_oso, ↓k_asg, e_seq, ↓e_snx, ↓e_srt, ↓e_sbk, ↓e_sct, ↓e_lok, e_nxs, e_bks, e_cts, e_ex, e_rt, e_set, e_if, e_par, e_asg, f_setix, f_augix, e_sFor, e_forfix, e_src, e_rng1, e_enum, e_lc, e_cmpfix, f_get, ↓f_oo, ↓f_o1, f_ixR, f_ixO, f_ixL, f_ixSl, f_ixT, f_lenR, f_lenO, f_augR, f_setR, f_setO, f_goO, f_run, ↓f_rt, ↓f_nx, v_lenL, v_lenT, v_lenSl, v_addI, v_addII, v_sub, v_neg, v_eqI, v_eqS, v_eqB, v_neI, v_neS, v_lt, v_le, v_gt, v_ge, at_lit, ix_lit', Option.map_some, List.map_cons, List.map_nil, List.length_cons, List.length_nil, List.length_map, List.cons_append, List.nil_append, List.replicate, List.getElem?_cons_zero, List.getElem?_cons_succ, List.set_cons_zero, List.set_cons_succ, List.set_set, f_isi, f_isiO, f_isiB, v_slL, v_slSl, v_abs, v_max, v_min, v_kF, v_srcL, v_srcS, decide_true, decide_false, ↓reduceIte, Bool.false_eq_true, Bool.true_eq_false, Bool.not_true, Bool.not_false, Nat.reduceAdd, Nat.reduceSub, Nat.reduceLT, ↓u_oS, u_mul, u_mulS, u_div, u_mod, u_addS, u_addL, u_slS, u_ixS, u_lenS, u_str, u_kLst, u_kTup, u_kLstS, u_rng, u_upper, u_tNm, u_tTup, u_tNil, u_tCns, ↓u_tcR, f_isTS, wipeD, beq_self_eq_true, and_self, true_and, and_true, Int.reduceLT, Nat.reduceLeDiff, Int.reduceLE, Int.reduceNeg, Int.reduceToNat, Int.reduceAdd, g_src, ↓g_srcO, g_enu, ↓g_enuO, g_isT, ↓g_isTO, g_app, ↓g_appO, g_rev, ↓g_revO, g_lis, ↓g_lisO, g_kS, g_LR, g_kLR, h_fld, h_prop, h_meth, h_callO, h_mk, h_isi, h_gfld, h_gprop, h_gisi, h_isC, h_kMeth, ↓h_methR, h_kCallO, ↓h_notR, h_arN, h_tLst, h_asgH, h_srcT, h_max, h_min, e_fz, e_fzF, f_aug, ↓f_augK, h_mkS, k_mkS, k_mkST, e_fmt, e_js, k_js, e_js0, q_callK, q_strO, q_reprO, q_isCint, q_isCbl, q_isCstr, q_isCtup, q_isClst, q_isCnon, q_intB, q_intI, forL, bdy, List.set, e3]
theorem right_F {k : Nat} {p : PyData} {s : Sto} (h : Gd k p) (hk : k ≤ lim) : m_l_right [ofP p] s = .ok (.bl true) s := right_of (h.repr hk s) (plan_F h hk) (lplan_F h hk)
theorem right_D {s : Sto} : m_l_right [.dic []] s = .ok (.bl true) s := right_of (z := (PyData.dict []).shown) rfl plan_D lplan_D

/-! ### the law's bag of drawn numbers -/
structure Bag (s : Sto) (n b : Nat) : Prop where
  at' : ∃ (c seed k : Int) (cells : List Int), s[n]? = some (.lst [.int c, .int seed, .int k, .lst (cells.map D.int)]) ∧ 0 ≤ c ∧ 0 ≤ seed ∧ seed < 2147483647 ∧ 0 ≤ k ∧ k ≤ b ∧ ∀ x ∈ cells, 0 ≤ x
theorem mul_ok {i j : Int} (a b : Nat) (hi : i.natAbs < 2 ^ a) (hj : j.natAbs < 2 ^ b) (h0 : 0 < a) (h1 : 0 < b) (h : a + b ≤ 1000000) : mulOk i j := wide_mul hi hj h0 h1 h
def headB : SM :=
  (sIf (tst (m2 dEq (m2 dIx (vGet 0) (cst (.int 0))) (cst (.int 0))))
  (sSeq (sSet 4 (cst (.int 0)))
  (sSeq (sIf (tst (m2 dLt (m2 dIx (vGet 0) (cst (.int 2))) (mC cLen (aCons (m2 dIx (vGet 0) (cst (.int 3))) aNil))))
  (sSet 4 (m2 dIx (m2 dIx (vGet 0) (cst (.int 3))) (m2 dIx (vGet 0) (cst (.int 2)))))
  sNx)
  (sSeq (sAugIx dAddI (vGet 0) (cst (.int 2)) (cst (.int 1)))
  (sSeq (sIf (tst (m2 dGe (vGet 4) (cst (.int 1000000000000000000))))
  (sSetIx (vGet 4) (vGet 0) (cst (.int 0)))
  sNx)
  (sSetIx (m2 dMod (m2 dAdd (m2 dAdd (m2 dMul (m2 dIx (vGet 0) (cst (.int 1))) (cst (.int 48271))) (m2 dMod (vGet 4) (cst (.int 2147483647)))) (m2 dMul (cst (.int 7919)) (m2 dIx (vGet 0) (cst (.int 2))))) (cst (.int 2147483647))) (vGet 0) (cst (.int 1)))))))
  sNx)
def tailB : SM :=
  (sSeq (sIf (tst (m2 dGt (m2 dIx (vGet 0) (cst (.int 0))) (cst (.int 0))))
  (sSeq (sSet 5 (m2 dMod (m2 dIx (vGet 0) (cst (.int 0))) (vGet 1)))
  (sSeq (sSetIx (m2 dDiv (m2 dIx (vGet 0) (cst (.int 0))) (vGet 1)) (vGet 0) (cst (.int 0)))
  (sRt (vGet 5))))
  sNx)
  (sSeq (sSet 2 (m2 dMod (m2 dMul (m2 dAdd (m2 dIx (vGet 0) (cst (.int 1))) (cst (.int 1))) (cst (.int 39373))) (cst (.int 1000000007))))
  (sSeq (sSet 3 (m2 dMod (m2 dMul (m2 dMod (m2 dMul (vGet 2) (vGet 2)) (cst (.int 998244353))) (cst (.int 30011))) (cst (.int 998244353))))
  (sSeq (sIf (tst (m2 dGt (vGet 1) (cst (.int 1000000))))
  (sRt (m2 dMod (m2 dAdd (m2 dMul (vGet 3) (cst (.int 1000000007))) (vGet 2)) (vGet 1)))
  sNx)
  (sRt (m2 dMod (m2 dDiv (vGet 3) (cst (.int 7))) (vGet 1)))))))
theorem take_B : B_l_take = sSeq headB tailB := rfl
theorem tail_ok {s : Sto} {n : Nat} {many c seed k : Int} {r : D} (cell : Option D) (hs : s[n]? = some (.lst [.int c, .int seed, .int k, r])) (c0 : 0 ≤ c) (s0 : 0 ≤ seed) (s1 : seed < 2147483647) (hm : 0 < many) (hl : many.natAbs.log2 < 9000) :
    ∃ v c', (0 ≤ v ∧ v < many ∧ 0 ≤ c') ∧ retOf (tailB [some (.ref n), some (.int many), none, none, cell, none] s) = .ok (.int v) (s.set n (.lst [.int c', .int seed, .int k, r])) := by
  have hn : n < s.length := (List.getElem?_eq_some_iff.mp hs).1
  unfold tailB
  by_cases hc : 0 < c
  · refine ⟨c % many, c / many, ⟨Int.emod_nonneg _ (by omega), Int.emod_lt_of_pos _ hm, Int.ediv_nonneg c0 (by omega)⟩, ?_⟩
    have hd : 0 < many ∧ many.natAbs.log2 < 9000 := ⟨hm, hl⟩
    simp (disch := first | assumption | omega) only [e_bnd, ↓e_bok, e_bexc, e_ret, e_nox, ↓e_nok, e_cst, e_yes, e_m2, e_m1, e_tst, e_chn, e_and, e_or, e_not, e_vand, e_vor, e_vnot, e_mif, e_anil, e_acons, e_mC, e_call, e_mM, e_sl, e_ono, e_oso, e_dic1, ↓k_tst, ↓k_chnT, ↓k_chnF, ↓k_andT, ↓k_andF, ↓k_orT, ↓k_orF, ↓k_not, ↓k_oso, ↓k_asg, e_seq, ↓e_snx, ↓e_srt, ↓e_sbk, ↓e_sct, ↓e_lok, e_nxs, e_bks, e_cts, e_ex, e_rt, e_set, e_if, e_par, e_asg, f_setix, f_augix, e_sFor, e_forfix, e_src, e_rng1, e_enum, e_lc, e_cmpfix, f_get, ↓f_oo, ↓f_o1, f_ixR, f_ixO, f_ixL, f_ixSl, f_ixT, f_lenR, f_lenO, f_augR, f_setR, f_setO, f_goO, f_run, ↓f_rt, ↓f_nx, v_lenL, v_lenT, v_lenSl, v_addI, v_addII, v_sub, v_neg, v_eqI, v_eqS, v_eqB, v_neI, v_neS, v_lt, v_le, v_gt, v_ge, at_lit, ix_lit', Option.map_some, List.map_cons, List.map_nil, List.length_cons, List.length_nil, List.length_map, List.cons_append, List.nil_append, List.replicate, List.getElem?_cons_zero, List.getElem?_cons_succ, List.set_cons_zero, List.set_cons_succ, List.set_set, f_isi, f_isiO, f_isiB, v_slL, v_slSl, v_abs, v_max, v_min, v_kF, v_srcL, v_srcS, decide_true, decide_false, ↓reduceIte, Bool.false_eq_true, Bool.true_eq_false, Bool.not_true, Bool.not_false, Nat.reduceAdd, Nat.reduceSub, Nat.reduceLT, hs, hc, v_mod, v_div]
  · have e : s.set n (.lst [.int c, .int seed, .int k, r]) = s := by
      apply List.ext_getElem?
      intro i
      by_cases hi : i = n
      · subst hi; rw [List.getElem?_set_self hn, hs]
      · rw [List.getElem?_set_ne (Ne.symm hi)]
    have f1 : 0 ≤ (seed + 1) * 39373 % 1000000007 := Int.emod_nonneg _ (by decide)
    have f2 : (seed + 1) * 39373 % 1000000007 < 1000000007 := Int.emod_lt_of_pos _ (by decide)
    generalize hF : (seed + 1) * 39373 % 1000000007 = F at f1 f2
    have g1 : 0 ≤ F * F % 998244353 := Int.emod_nonneg _ (by decide)
    have g2 : F * F % 998244353 < 998244353 := Int.emod_lt_of_pos _ (by decide)
    generalize hG : F * F % 998244353 = G at g1 g2
    have h1 : 0 ≤ G * 30011 % 998244353 := Int.emod_nonneg _ (by decide)
    have h2 : G * 30011 % 998244353 < 998244353 := Int.emod_lt_of_pos _ (by decide)
    generalize hH : G * 30011 % 998244353 = S at h1 h2
    have m1 : mulOk (seed + 1) 39373 := mul_ok 40 40 (by omega) (by decide) (by decide) (by decide) (by decide)
    have m2' : mulOk F F := mul_ok 40 40 (by omega) (by omega) (by decide) (by decide) (by decide)
    have m3 : mulOk G 30011 := mul_ok 40 40 (by omega) (by decide) (by decide) (by decide) (by decide)
    have m4 : mulOk S 1000000007 := mul_ok 40 40 (by omega) (by decide) (by decide) (by decide) (by decide)
    have d7 : (0 : Int) < 7 ∧ (7 : Int).natAbs.log2 < 9000 := by decide
    by_cases hM : 1000000 < many
    · refine ⟨(S * 1000000007 + F) % many, c, ⟨Int.emod_nonneg _ (by omega), Int.emod_lt_of_pos _ hm, c0⟩, ?_⟩
      rw [e]
      simp (disch := first | assumption | omega | decide) only [e_bnd, ↓e_bok, e_bexc, e_ret, e_nox, ↓e_nok, e_cst, e_yes, e_m2, e_m1, e_tst, e_chn, e_and, e_or, e_not, e_vand, e_vor, e_vnot, e_mif, e_anil, e_acons, e_mC, e_call, e_mM, e_sl, e_ono, e_oso, e_dic1, ↓k_tst, ↓k_chnT, ↓k_chnF, ↓k_andT, ↓k_andF, ↓k_orT, ↓k_orF, ↓k_not, ↓k_oso, ↓k_asg, e_seq, ↓e_snx, ↓e_srt, ↓e_sbk, ↓e_sct, ↓e_lok, e_nxs, e_bks, e_cts, e_ex, e_rt, e_set, e_if, e_par, e_asg, f_setix, f_augix, e_sFor, e_forfix, e_src, e_rng1, e_enum, e_lc, e_cmpfix, f_get, ↓f_oo, ↓f_o1, f_ixR, f_ixO, f_ixL, f_ixSl, f_ixT, f_lenR, f_lenO, f_augR, f_setR, f_setO, f_goO, f_run, ↓f_rt, ↓f_nx, v_lenL, v_lenT, v_lenSl, v_addI, v_addII, v_sub, v_neg, v_eqI, v_eqS, v_eqB, v_neI, v_neS, v_lt, v_le, v_gt, v_ge, at_lit, ix_lit', Option.map_some, List.map_cons, List.map_nil, List.length_cons, List.length_nil, List.length_map, List.cons_append, List.nil_append, List.replicate, List.getElem?_cons_zero, List.getElem?_cons_succ, List.set_cons_zero, List.set_cons_succ, List.set_set, f_isi, f_isiO, f_isiB, v_slL, v_slSl, v_abs, v_max, v_min, v_kF, v_srcL, v_srcS, decide_true, decide_false, ↓reduceIte, Bool.false_eq_true, Bool.true_eq_false, Bool.not_true, Bool.not_false, Nat.reduceAdd, Nat.reduceSub, Nat.reduceLT, hs, hc, hM, v_mod, v_mul, hF, hG, hH]
    · refine ⟨S / 7 % many, c, ⟨Int.emod_nonneg _ (by omega), Int.emod_lt_of_pos _ hm, c0⟩, ?_⟩
      rw [e]
      simp (disch := first | assumption | omega | decide) only [e_bnd, ↓e_bok, e_bexc, e_ret, e_nox, ↓e_nok, e_cst, e_yes, e_m2, e_m1, e_tst, e_chn, e_and, e_or, e_not, e_vand, e_vor, e_vnot, e_mif, e_anil, e_acons, e_mC, e_call, e_mM, e_sl, e_ono, e_oso, e_dic1, ↓k_tst, ↓k_chnT, ↓k_chnF, ↓k_andT, ↓k_andF, ↓k_orT, ↓k_orF, ↓k_not, ↓k_oso, ↓k_asg, e_seq, ↓e_snx, ↓e_srt, ↓e_sbk, ↓e_sct, ↓e_lok, e_nxs, e_bks, e_cts, e_ex, e_rt, e_set, e_if, e_par, e_asg, f_setix, f_augix, e_sFor, e_forfix, e_src, e_rng1, e_enum, e_lc, e_cmpfix, f_get, ↓f_oo, ↓f_o1, f_ixR, f_ixO, f_ixL, f_ixSl, f_ixT, f_lenR, f_lenO, f_augR, f_setR, f_setO, f_goO, f_run, ↓f_rt, ↓f_nx, v_lenL, v_lenT, v_lenSl, v_addI, v_addII, v_sub, v_neg, v_eqI, v_eqS, v_eqB, v_neI, v_neS, v_lt, v_le, v_gt, v_ge, at_lit, ix_lit', Option.map_some, List.map_cons, List.map_nil, List.length_cons, List.length_nil, List.length_map, List.cons_append, List.nil_append, List.replicate, List.getElem?_cons_zero, List.getElem?_cons_succ, List.set_cons_zero, List.set_cons_succ, List.set_set, f_isi, f_isiO, f_isiB, v_slL, v_slSl, v_abs, v_max, v_min, v_kF, v_srcL, v_srcS, decide_true, decide_false, ↓reduceIte, Bool.false_eq_true, Bool.true_eq_false, Bool.not_true, Bool.not_false, Nat.reduceAdd, Nat.reduceSub, Nat.reduceLT, hs, hc, hM, v_mod, v_mul, v_div, hF, hG, hH]
theorem head_ok {s : Sto} {n : Nat} {many seed k : Int} {cells : List Int} (hs : s[n]? = some (.lst [.int 0, .int seed, .int k, .lst (cells.map D.int)])) (s0 : 0 ≤ seed) (s1 : seed < 2147483647) (k0 : 0 ≤ k) (kb : k ≤ 1000000000000) (hc : ∀ x ∈ cells, 0 ≤ x) :
    ∃ cell c1 seed1, headB [some (.ref n), some (.int many), none, none, none, none] s = .go .nx [some (.ref n), some (.int many), none, none, some (.int cell), none] (s.set n (.lst [.int c1, .int seed1, .int (k + 1), .lst (cells.map D.int)])) ∧ 0 ≤ c1 ∧ 0 ≤ seed1 ∧ seed1 < 2147483647 := by
  have hn : n < s.length := (List.getElem?_eq_some_iff.mp hs).1
  have m1 : mulOk seed 48271 := mul_ok 40 40 (by omega) (by decide) (by decide) (by decide) (by decide)
  have m2' : mulOk 7919 (k + 1) := mul_ok 40 50 (by decide) (by omega) (by decide) (by decide) (by decide)
  have at3 : atI (cells.map D.int) k = (cells[k.toNat]?).map D.int := by rw [at_nat _ k0, List.getElem?_map]
  have hset : ∀ o : O, (s.set n o)[n]? = some o := fun o => List.getElem?_set_self hn
  unfold headB
  obtain ⟨cell, c0, hcell⟩ : ∃ cell : Int, 0 ≤ cell ∧ ((k < (cells.length : Int) ∧ cells[k.toNat]? = some cell) ∨ (¬ k < (cells.length : Int) ∧ cell = 0)) := by
    by_cases hk : k < (cells.length : Int)
    · have hl : k.toNat < cells.length := by omega
      exact ⟨cells[k.toNat], hc _ (List.getElem_mem hl), .inl ⟨hk, List.getElem?_eq_getElem hl⟩⟩
    · exact ⟨0, by decide, .inr ⟨hk, rfl⟩⟩
  by_cases hbig : 1000000000000000000 ≤ cell
  · refine ⟨cell, cell, (seed * 48271 + cell % 2147483647 + 7919 * (k + 1)) % 2147483647, ?_, c0, Int.emod_nonneg _ (by decide), Int.emod_lt_of_pos _ (by decide)⟩
    rcases hcell with ⟨hk, hce⟩ | ⟨hk, rfl⟩
    · simp (disch := first | assumption | omega | decide) only [e_bnd, ↓e_bok, e_bexc, e_ret, e_nox, ↓e_nok, e_cst, e_yes, e_m2, e_m1, e_tst, e_chn, e_and, e_or, e_not, e_vand, e_vor, e_vnot, e_mif, e_anil, e_acons, e_mC, e_call, e_mM, e_sl, e_ono, e_oso, e_dic1, ↓k_tst, ↓k_chnT, ↓k_chnF, ↓k_andT, ↓k_andF, ↓k_orT, ↓k_orF, ↓k_not, ↓k_oso, ↓k_asg, e_seq, ↓e_snx, ↓e_srt, ↓e_sbk, ↓e_sct, ↓e_lok, e_nxs, e_bks, e_cts, e_ex, e_rt, e_set, e_if, e_par, e_asg, f_setix, f_augix, e_sFor, e_forfix, e_src, e_rng1, e_enum, e_lc, e_cmpfix, f_get, ↓f_oo, ↓f_o1, f_ixR, f_ixO, f_ixL, f_ixSl, f_ixT, f_lenR, f_lenO, f_augR, f_setR, f_setO, f_goO, f_run, ↓f_rt, ↓f_nx, v_lenL, v_lenT, v_lenSl, v_addI, v_addII, v_sub, v_neg, v_eqI, v_eqS, v_eqB, v_neI, v_neS, v_lt, v_le, v_gt, v_ge, at_lit, ix_lit', Option.map_some, List.map_cons, List.map_nil, List.length_cons, List.length_nil, List.length_map, List.cons_append, List.nil_append, List.replicate, List.getElem?_cons_zero, List.getElem?_cons_succ, List.set_cons_zero, List.set_cons_succ, List.set_set, f_isi, f_isiO, f_isiB, v_slL, v_slSl, v_abs, v_max, v_min, v_kF, v_srcL, v_srcS, decide_true, decide_false, ↓reduceIte, Bool.false_eq_true, Bool.true_eq_false, Bool.not_true, Bool.not_false, Nat.reduceAdd, Nat.reduceSub, Nat.reduceLT, hs, hset, hk, at3, hce, hbig, beq_self_eq_true, v_mod, v_mul]
    · exact absurd hbig (by decide)
  · refine ⟨cell, 0, (seed * 48271 + cell % 2147483647 + 7919 * (k + 1)) % 2147483647, ?_, by decide, Int.emod_nonneg _ (by decide), Int.emod_lt_of_pos _ (by decide)⟩
    rcases hcell with ⟨hk, hce⟩ | ⟨hk, rfl⟩
    · simp (disch := first | assumption | omega | decide) only [e_bnd, ↓e_bok, e_bexc, e_ret, e_nox, ↓e_nok, e_cst, e_yes, e_m2, e_m1, e_tst, e_chn, e_and, e_or, e_not, e_vand, e_vor, e_vnot, e_mif, e_anil, e_acons, e_mC, e_call, e_mM, e_sl, e_ono, e_oso, e_dic1, ↓k_tst, ↓k_chnT, ↓k_chnF, ↓k_andT, ↓k_andF, ↓k_orT, ↓k_orF, ↓k_not, ↓k_oso, ↓k_asg, e_seq, ↓e_snx, ↓e_srt, ↓e_sbk, ↓e_sct, ↓e_lok, e_nxs, e_bks, e_cts, e_ex, e_rt, e_set, e_if, e_par, e_asg, f_setix, f_augix, e_sFor, e_forfix, e_src, e_rng1, e_enum, e_lc, e_cmpfix, f_get, ↓f_oo, ↓f_o1, f_ixR, f_ixO, f_ixL, f_ixSl, f_ixT, f_lenR, f_lenO, f_augR, f_setR, f_setO, f_goO, f_run, ↓f_rt, ↓f_nx, v_lenL, v_lenT, v_lenSl, v_addI, v_addII, v_sub, v_neg, v_eqI, v_eqS, v_eqB, v_neI, v_neS, v_lt, v_le, v_gt, v_ge, at_lit, ix_lit', Option.map_some, List.map_cons, List.map_nil, List.length_cons, List.length_nil, List.length_map, List.cons_append, List.nil_append, List.replicate, List.getElem?_cons_zero, List.getElem?_cons_succ, List.set_cons_zero, List.set_cons_succ, List.set_set, f_isi, f_isiO, f_isiB, v_slL, v_slSl, v_abs, v_max, v_min, v_kF, v_srcL, v_srcS, decide_true, decide_false, ↓reduceIte, Bool.false_eq_true, Bool.true_eq_false, Bool.not_true, Bool.not_false, Nat.reduceAdd, Nat.reduceSub, Nat.reduceLT, hs, hset, hk, at3, hce, hbig, beq_self_eq_true, v_mod, v_mul]
    · simp (disch := first | assumption | omega | decide) only [e_bnd, ↓e_bok, e_bexc, e_ret, e_nox, ↓e_nok, e_cst, e_yes, e_m2, e_m1, e_tst, e_chn, e_and, e_or, e_not, e_vand, e_vor, e_vnot, e_mif, e_anil, e_acons, e_mC, e_call, e_mM, e_sl, e_ono, e_oso, e_dic1, ↓k_tst, ↓k_chnT, ↓k_chnF, ↓k_andT, ↓k_andF, ↓k_orT, ↓k_orF, ↓k_not, ↓k_oso, ↓k_asg, e_seq, ↓e_snx, ↓e_srt, ↓e_sbk, ↓e_sct, ↓e_lok, e_nxs, e_bks, e_cts, e_ex, e_rt, e_set, e_if, e_par, e_asg, f_setix, f_augix, e_sFor, e_forfix, e_src, e_rng1, e_enum, e_lc, e_cmpfix, f_get, ↓f_oo, ↓f_o1, f_ixR, f_ixO, f_ixL, f_ixSl, f_ixT, f_lenR, f_lenO, f_augR, f_setR, f_setO, f_goO, f_run, ↓f_rt, ↓f_nx, v_lenL, v_lenT, v_lenSl, v_addI, v_addII, v_sub, v_neg, v_eqI, v_eqS, v_eqB, v_neI, v_neS, v_lt, v_le, v_gt, v_ge, at_lit, ix_lit', Option.map_some, List.map_cons, List.map_nil, List.length_cons, List.length_nil, List.length_map, List.cons_append, List.nil_append, List.replicate, List.getElem?_cons_zero, List.getElem?_cons_succ, List.set_cons_zero, List.set_cons_succ, List.set_set, f_isi, f_isiO, f_isiB, v_slL, v_slSl, v_abs, v_max, v_min, v_kF, v_srcL, v_srcS, decide_true, decide_false, ↓reduceIte, Bool.false_eq_true, Bool.true_eq_false, Bool.not_true, Bool.not_false, Nat.reduceAdd, Nat.reduceSub, Nat.reduceLT, hs, hset, hk, hbig, beq_self_eq_true, v_mod, v_mul]
theorem take_ok {s : Sto} {n b : Nat} {many : Int} (h : Bag s n b) (hb : b ≤ 1000000000000) (hm : 0 < many) (hl : many.natAbs.log2 < 9000) :
    ∃ v o, m_l_take [.ref n, .int many] s = .ok (.int v) (s.set n o) ∧ 0 ≤ v ∧ v < many ∧ Bag (s.set n o) n (b + 1) := by
  obtain ⟨c, seed, k, cells, hs, c0, s0, s1, k0, kb, hc⟩ := h.at'
  have hn : n < s.length := (List.getElem?_eq_some_iff.mp hs).1
  unfold m_l_take
  rw [f_run, take_B]
  simp only [List.map_cons, List.map_nil, List.length_cons, List.length_nil, List.cons_append, List.nil_append, List.replicate, Nat.reduceAdd, Nat.reduceSub]
  rw [e_seq]
  by_cases hc0 : c = 0
  · subst hc0
    obtain ⟨cell, c1, seed1, h1, h2, h3, h4⟩ := head_ok (many := many) hs s0 s1 k0 (by omega) hc
    have hs1 : (s.set n (.lst [.int c1, .int seed1, .int (k + 1), .lst (cells.map D.int)]))[n]? = some (.lst [.int c1, .int seed1, .int (k + 1), .lst (cells.map D.int)]) := List.getElem?_set_self hn
    obtain ⟨v, c', ⟨q1, q2, q3⟩, q4⟩ := tail_ok (some (.int cell)) hs1 h2 h3 h4 hm hl
    rw [h1, e_snx, q4, List.set_set]
    exact ⟨v, _, rfl, q1, q2, ⟨c', seed1, k + 1, cells, List.getElem?_set_self hn, q3, h3, h4, by omega, by omega, hc⟩⟩
  · have hcb : (c == 0) = false := beq_eq_false_iff_ne.mpr hc0
    obtain ⟨v, c', ⟨q1, q2, q3⟩, q4⟩ := tail_ok none hs c0 s0 s1 hm hl
    have h1 : headB [some (.ref n), some (.int many), none, none, none, none] s = .go .nx [some (.ref n), some (.int many), none, none, none, none] s := by
      unfold headB
      simp (disch := first | assumption | omega | decide) only [e_bnd, ↓e_bok, e_bexc, e_ret, e_nox, ↓e_nok, e_cst, e_yes, e_m2, e_m1, e_tst, e_chn, e_and, e_or, e_not, e_vand, e_vor, e_vnot, e_mif, e_anil, e_acons, e_mC, e_call, e_mM, e_sl, e_ono, e_oso, e_dic1, ↓k_tst, ↓k_chnT, ↓k_chnF, ↓k_andT, ↓k_andF, ↓k_orT, ↓k_orF, ↓k_not, ↓k_oso, ↓k_asg, e_seq, ↓e_snx, ↓e_srt, ↓e_sbk, ↓e_sct, ↓e_lok, e_nxs, e_bks, e_cts, e_ex, e_rt, e_set, e_if, e_par, e_asg, f_setix, f_augix, e_sFor, e_forfix, e_src, e_rng1, e_enum, e_lc, e_cmpfix, f_get, ↓f_oo, ↓f_o1, f_ixR, f_ixO, f_ixL, f_ixSl, f_ixT, f_lenR, f_lenO, f_augR, f_setR, f_setO, f_goO, f_run, ↓f_rt, ↓f_nx, v_lenL, v_lenT, v_lenSl, v_addI, v_addII, v_sub, v_neg, v_eqI, v_eqS, v_eqB, v_neI, v_neS, v_lt, v_le, v_gt, v_ge, at_lit, ix_lit', Option.map_some, List.map_cons, List.map_nil, List.length_cons, List.length_nil, List.length_map, List.cons_append, List.nil_append, List.replicate, List.getElem?_cons_zero, List.getElem?_cons_succ, List.set_cons_zero, List.set_cons_succ, List.set_set, f_isi, f_isiO, f_isiB, v_slL, v_slSl, v_abs, v_max, v_min, v_kF, v_srcL, v_srcS, decide_true, decide_false, ↓reduceIte, Bool.false_eq_true, Bool.true_eq_false, Bool.not_true, Bool.not_false, Nat.reduceAdd, Nat.reduceSub, Nat.reduceLT, hs, hcb]
    rw [h1, e_snx, q4]
    exact ⟨v, _, rfl, q1, q2, ⟨c', seed, k, cells, List.getElem?_set_self hn, q3, s0, s1, k0, by omega, hc⟩⟩

theorem bag_ok (ns : List Int) (s : Sto) : ∃ o, m_l_bag [.sls (ns.map D.int)] s = .ok (.ref s.length) (s ++ [o]) ∧ Bag (s ++ [o]) s.length 0 := by
  let cells : List Int := (ns.take 63).map fun i => if i < 0 then -i else i
  have hcut : cutD (ns.map D.int) none (some 63) = (ns.take 63).map D.int := by
    unfold cutD
    rw [HT.sIx_none, show HT.sIx (ns.map D.int).length (ns.map D.int).length (some 63) = min 63 (ns.map D.int).length from HT.sIx_nat _ _ 63, List.drop_zero, Nat.sub_zero, ← List.map_take]
    congr 1
    rw [List.length_map]
    by_cases h : 63 ≤ ns.length
    · rw [Nat.min_eq_left h]
    · rw [Nat.min_eq_right (by omega), List.take_length, List.take_of_length_le (by omega)]
  have hc : cmpL (tNm 1) yes (mC cAbs (aCons (vGet 1) aNil)) (wipeD [some (.sls (ns.map D.int)), none] [1]) ((ns.take 63).map D.int) [] s = .ok (cells.map D.int) s := by
    rw [cmpL_map (h := fun d => match d with | .int i => .int (if i < 0 then -i else i) | d => d) s]
    · rw [List.nil_append, List.map_map, List.map_map]; rfl
    · rw [List.length_nil, List.length_map, List.length_take]; exact lim_of (by omega)
    · intro d hd
      obtain ⟨i, _, rfl⟩ := List.mem_map.mp hd
      refine ⟨_, rfl, ?_⟩
      simp only [e_bnd, ↓e_bok, e_bexc, e_ret, e_nox, ↓e_nok, e_cst, e_yes, e_m2, e_m1, e_tst, e_chn, e_and, e_or, e_not, e_vand, e_vor, e_vnot, e_mif, e_anil, e_acons, e_mC, e_call, e_mM, e_sl, e_ono, e_oso, e_dic1, ↓k_tst, ↓k_chnT, ↓k_chnF, ↓k_andT, ↓k_andF, ↓k_orT, ↓k_orF, ↓k_not, ↓k_oso, ↓k_asg, e_seq, ↓e_snx, ↓e_srt, ↓e_sbk, ↓e_sct, ↓e_lok, e_nxs, e_bks, e_cts, e_ex, e_rt, e_set, e_if, e_par, e_asg, f_setix, f_augix, e_sFor, e_forfix, e_src, e_rng1, e_enum, e_lc, e_cmpfix, f_get, ↓f_oo, ↓f_o1, f_ixR, f_ixO, f_ixL, f_ixSl, f_ixT, f_lenR, f_lenO, f_augR, f_setR, f_setO, f_goO, f_run, ↓f_rt, ↓f_nx, v_lenL, v_lenT, v_lenSl, v_addI, v_addII, v_sub, v_neg, v_eqI, v_eqS, v_eqB, v_neI, v_neS, v_lt, v_le, v_gt, v_ge, at_lit, ix_lit', Option.map_some, List.map_cons, List.map_nil, List.length_cons, List.length_nil, List.length_map, List.cons_append, List.nil_append, List.replicate, List.getElem?_cons_zero, List.getElem?_cons_succ, List.set_cons_zero, List.set_cons_succ, List.set_set, f_isi, f_isiO, f_isiB, v_slL, v_slSl, v_abs, v_max, v_min, v_kF, v_srcL, v_srcS, decide_true, decide_false, ↓reduceIte, Bool.false_eq_true, Bool.true_eq_false, Bool.not_true, Bool.not_false, Nat.reduceAdd, Nat.reduceSub, Nat.reduceLT, wipeD]
  refine ⟨.lst [.int 0, .int 1234567891, .int 0, .lst (cells.map D.int)], ?_, ⟨0, 1234567891, 0, cells, by simp, by decide, by decide, by decide, by decide, by decide, fun x hx => ?_⟩⟩
  · simp (disch := first | assumption | exact lim_of (by simp only [List.length_cons, List.length_nil, Nat.reduceAdd, Nat.reduceLeDiff])) only [m_l_bag, B_l_bag, S_l_bag_1, E_l_bag_1_30, e_bnd, ↓e_bok, e_bexc, e_ret, e_nox, ↓e_nok, e_cst, e_yes, e_m2, e_m1, e_tst, e_chn, e_and, e_or, e_not, e_vand, e_vor, e_vnot, e_mif, e_anil, e_acons, e_mC, e_call, e_mM, e_sl, e_ono, e_oso, e_dic1, ↓k_tst, ↓k_chnT, ↓k_chnF, ↓k_andT, ↓k_andF, ↓k_orT, ↓k_orF, ↓k_not, ↓k_oso, ↓k_asg, e_seq, ↓e_snx, ↓e_srt, ↓e_sbk, ↓e_sct, ↓e_lok, e_nxs, e_bks, e_cts, e_ex, e_rt, e_set, e_if, e_par, e_asg, f_setix, f_augix, e_sFor, e_forfix, e_src, e_rng1, e_enum, e_lc, e_cmpfix, f_get, ↓f_oo, ↓f_o1, f_ixR, f_ixO, f_ixL, f_ixSl, f_ixT, f_lenR, f_lenO, f_augR, f_setR, f_setO, f_goO, f_run, ↓f_rt, ↓f_nx, v_lenL, v_lenT, v_lenSl, v_addI, v_addII, v_sub, v_neg, v_eqI, v_eqS, v_eqB, v_neI, v_neS, v_lt, v_le, v_gt, v_ge, at_lit, ix_lit', Option.map_some, List.map_cons, List.map_nil, List.length_cons, List.length_nil, List.length_map, List.cons_append, List.nil_append, List.replicate, List.getElem?_cons_zero, List.getElem?_cons_succ, List.set_cons_zero, List.set_cons_succ, List.set_set, f_isi, f_isiO, f_isiB, v_slL, v_slSl, v_abs, v_max, v_min, v_kF, v_srcL, v_srcS, decide_true, decide_false, ↓reduceIte, Bool.false_eq_true, Bool.true_eq_false, Bool.not_true, Bool.not_false, Nat.reduceAdd, Nat.reduceSub, Nat.reduceLT, hcut, hc, v_kLstS]
  · obtain ⟨i, _, rfl⟩ := List.mem_map.mp hx
    show 0 ≤ (if i < 0 then -i else i)
    split <;> omega
/-- what the draws keep: the bag, and all else of the store -/
structure Kp (s0 s : Sto) (n b : Nat) : Prop where
  bag : Bag s n b
  out : ∀ i, i ≠ n → s[i]? = s0[i]?
  len : s.length = s0.length
theorem Kp.refl {s : Sto} {n b : Nat} (h : Bag s n b) : Kp s s n b := ⟨h, fun _ _ => rfl, rfl⟩
theorem Kp.trans {s0 s1 s2 : Sto} {n b c : Nat} (h : Kp s0 s1 n b) (h' : Kp s1 s2 n c) : Kp s0 s2 n c := ⟨h'.bag, fun i hi => (h'.out i hi).trans (h.out i hi), h'.len.trans h.len⟩
theorem Bag.more {s : Sto} {n b c : Nat} (h : Bag s n b) (hc : b ≤ c) : Bag s n c := by
  obtain ⟨x, y, k, z, h1, h2, h3, h4, h5, h6, h7⟩ := h.at'
  exact ⟨x, y, k, z, h1, h2, h3, h4, h5, by omega, h7⟩
theorem Kp.more {s0 s : Sto} {n b c : Nat} (h : Kp s0 s n b) (hc : b ≤ c) : Kp s0 s n c := ⟨h.bag.more hc, h.out, h.len⟩
theorem take_kp {s0 s : Sto} {n b : Nat} (many : Int) (h : Kp s0 s n b) (hb : b ≤ 1000000000000) (hm : 0 < many) (hl : many.natAbs.log2 < 9000) :
    ∃ v s1, m_l_take [.ref n, .int many] s = .ok (.int v) s1 ∧ 0 ≤ v ∧ v < many ∧ Kp s0 s1 n (b + 1) := by
  obtain ⟨v, o, h1, h2, h3, h4⟩ := take_ok h.bag hb hm hl
  exact ⟨v, _, h1, h2, h3, ⟨h4, fun i hi => (List.getElem?_set_ne (Ne.symm hi)).trans (h.out i hi), by rw [List.length_set]; exact h.len⟩⟩

/-! ### new things behind the bag -/
theorem Bag.lt {s : Sto} {n b : Nat} (h : Bag s n b) : n < s.length := by
  obtain ⟨c, seed, k, cells, hs, _⟩ := h.at'
  exact (List.getElem?_eq_some_iff.mp hs).1
theorem Kp.lt {s0 s : Sto} {n b : Nat} (h : Kp s0 s n b) : n < s0.length := by
  have := h.bag.lt
  rw [h.len] at this
  exact this
theorem Kp.app {s0 t : Sto} {n b : Nat} (h : Kp s0 t n b) (L : List O) : Kp (s0 ++ L) (t ++ L) n b := by
  obtain ⟨c, seed, k, cells, hs, hr⟩ := h.bag.at'
  refine ⟨⟨c, seed, k, cells, by rw [List.getElem?_append_left (List.getElem?_eq_some_iff.mp hs).1]; exact hs, hr⟩, fun i hi => ?_, by rw [List.length_append, List.length_append, h.len]⟩
  by_cases hl : i < t.length
  · rw [List.getElem?_append_left hl, List.getElem?_append_left (by rw [← h.len]; exact hl)]
    exact h.out i hi
  · rw [List.getElem?_append_right (by omega), List.getElem?_append_right (by rw [← h.len]; omega), h.len]
theorem Kp.split {s0 s1 : Sto} {n b : Nat} {L : List O} (h : Kp (s0 ++ L) s1 n b) (hn : n < s0.length) : ∃ t1, s1 = t1 ++ L ∧ Kp s0 t1 n b := by
  have hl := h.len
  rw [List.length_append] at hl
  have e : s1 = s1.take s0.length ++ L := by
    apply List.ext_getElem?
    intro i
    by_cases hi : i < s0.length
    · rw [List.getElem?_append_left (by rw [List.length_take]; omega), List.getElem?_take, if_pos hi]
    · rw [List.getElem?_append_right (by rw [List.length_take]; omega), List.length_take, h.out i (by omega), List.getElem?_append_right (by omega)]
      congr 1
      omega
  refine ⟨_, e, ?_⟩
  obtain ⟨c, seed, k, cells, hs, hr⟩ := h.bag.at'
  refine ⟨⟨c, seed, k, cells, by rw [List.getElem?_take, if_pos hn]; exact hs, hr⟩, fun i hi => ?_, by rw [List.length_take]; omega⟩
  rw [List.getElem?_take]
  split
  · rename_i hl2
    rw [h.out i hi, List.getElem?_append_left hl2]
  · rename_i hl2
    exact (List.getElem?_eq_none (by omega)).symm
theorem Kp.keeps {s t : Sto} {n b : Nat} (h : Kp s t n b) : Keeps s t := by
  refine ⟨Nat.le_of_eq h.len.symm, fun i o hi ho => ?_⟩
  by_cases e : i = n
  · subst e
    obtain ⟨c, seed, k, cells, hs, _⟩ := h.bag.at'
    rw [hs] at ho
    cases ho
    right
    intro x hx
    simp only [List.mem_cons, List.not_mem_nil, or_false] at hx
    rcases hx with rfl | rfl | rfl | rfl
    · exact .int _
    · exact .int _
    · exact .int _
    · exact .lst fun x hx => by
        obtain ⟨i, _, rfl⟩ := List.mem_map.mp hx
        exact .int _
  · left
    rw [← h.out i e]
    exact ho
theorem Kp.take {s t : Sto} {n b : Nat} (h : Kp s t n b) (L : List O) : (t ++ L).take s.length = t := by rw [← h.len]; exact List.take_left
theorem new_at {s t : Sto} {n b : Nat} {L : List O} (h : Kp s t n b) (j : Nat) : (t ++ L)[s.length + j]? = L[j]? := by
  rw [List.getElem?_append_right (by rw [h.len]; omega), h.len]
  congr 1
  omega
theorem new_set {s t : Sto} {n b : Nat} {L : List O} (h : Kp s t n b) (j : Nat) (o : O) : (t ++ L).set (s.length + j) o = t ++ L.set j o := by
  rw [List.set_append_right _ _ (by rw [h.len]; omega), h.len]
  congr 2
  omega
theorem new_at0 {s t : Sto} {n b : Nat} {o : O} {L : List O} (h : Kp s t n b) : (t ++ o :: L)[s.length]? = some o := new_at (L := o :: L) h 0
theorem new_set0 {s t : Sto} {n b : Nat} {o p : O} {L : List O} (h : Kp s t n b) : (t ++ o :: L).set s.length p = t ++ p :: L := new_set (L := o :: L) h 0 p
/-- a new list of plain data, handed on -/
theorem Kp.frzL {s t : Sto} {n b : Nat} {xs : List D} {L : List O} {d : Nat} (h : Kp s t n b) (hx : ∀ x ∈ xs, Pl d x) (hd : d ≤ 19) : frzR s (.ok (.ref s.length) (t ++ .lst xs :: L)) = .ok (.lst xs) t := by
  rw [frz_lst (h.keeps.app _) (Nat.le_refl _) (new_at0 h) hx hd, h.take]
theorem Kp.frzD {s t : Sto} {n b : Nat} {x : D} {L : List O} {d : Nat} (h : Kp s t n b) (hx : Pl d x) (hd : d ≤ 20) : frzR s (.ok x (t ++ L)) = .ok x t := by
  rw [frz_pl (h.keeps.app _) hx hd, h.take]

/-! ### _law_plan -/
theorem take_new {s t : Sto} {n b : Nat} (many : Int) (h : Kp s t n b) (L : List O) (hb : b ≤ 1000000000000) (hm : 0 < many) (hl : many.natAbs.log2 < 9000) :
    ∃ v t1, m_l_take [.ref n, .int many] (t ++ L) = .ok (.int v) (t1 ++ L) ∧ 0 ≤ v ∧ v < many ∧ Kp s t1 n (b + 1) := by
  obtain ⟨v, s1, h1, h2, h3, h4⟩ := take_kp many (h.app L) hb hm hl
  obtain ⟨t1, rfl, h5⟩ := h4.split h.lt
  exact ⟨v, t1, h1, h2, h3, h5⟩
def Wd (ws : List Str) (m : Nat) : Prop := ws.length ≤ m ∧ ∀ w ∈ ws, w ∈ wd4
theorem Wd.ins {ws : List Str} {m : Nat} {w : Str} (h : Wd ws m) (hw : w ∈ wd4) (i : Nat) : Wd (ws.take i ++ [w] ++ ws.drop i) (m + 1) := by
  refine ⟨?_, fun x hx => ?_⟩
  · have := h.1
    rw [List.length_append, List.length_append, List.length_take, List.length_drop, List.length_singleton]
    omega
  · rcases List.mem_append.mp hx with hx | hx
    · rcases List.mem_append.mp hx with hx | hx
      · exact h.2 x (List.mem_of_mem_take hx)
      · rw [List.mem_singleton.mp hx]; exact hw
    · exact h.2 x (List.mem_of_mem_drop hx)
theorem small_log {k : Int} (h0 : 0 < k) (h : k ≤ 1000) : k.natAbs.log2 < 9000 := by
  have h1 : k.natAbs < 2 ^ 10 := by omega
  have h2 : k.natAbs ≠ 0 := by omega
  exact Nat.lt_trans ((Nat.log2_lt h2).mpr h1) (by decide)
theorem ins_step {s t : Sto} {n b : Nat} {tu : List Str} {w : Str} {x : Option D} {WS : D} {m : Nat} (h : Kp s t n b) (hb : b ≤ 1000000000000) (ht : Wd tu m) (hm : m ≤ 100) (hw : w ∈ wd4) (L : List O) :
    ∃ t1 tu1, bdy (tNm 2) S_l_plan_5 (.str w) [some (.ref n), some WS, x, some (.ref s.length), some (.ref (s.length + 1))] (t ++ .lst (tu.map D.str) :: L) = .go .nx [some (.ref n), some WS, some (.str w), some (.ref s.length), some (.ref (s.length + 1))] (t1 ++ .lst (tu1.map D.str) :: L) ∧ Kp s t1 n (b + 1) ∧ Wd tu1 (m + 1) := by
  have hl := ht.1
  obtain ⟨v, t1, h1, h2, h3, h4⟩ := take_new ((tu.length : Int) + 1) h (.lst (tu.map D.str) :: L) hb (by omega) (small_log (by omega) (by omega))
  refine ⟨t1, tu.take v.toNat ++ [w] ++ tu.drop v.toNat, ?_, h4, ht.ins hw v.toNat⟩
  have g0 : (t ++ .lst (tu.map D.str) :: L)[s.length]? = some (.lst (tu.map D.str)) := new_at0 h
  have g1 : (t1 ++ .lst (tu.map D.str) :: L)[s.length]? = some (.lst (tu.map D.str)) := new_at0 h4
  have hi : mInsert (.ref s.length) [.int v, .str w] (t1 ++ .lst (tu.map D.str) :: L) = .ok .non (t1 ++ .lst ((tu.take v.toNat ++ [w] ++ tu.drop v.toNat).map D.str) :: L) := by
    unfold mInsert lstAt
    simp only [g1]
    rw [if_pos ⟨by rw [List.length_map]; show tu.length < 1000000; omega, h2, by omega⟩, new_set0 h4]
    simp [List.map_take, List.map_drop]
  have hadd : dAddT (.int (tu.length : Nat)) (.int 1) = fun s => .ok (.int ((tu.length : Int) + 1)) s := rfl
  unfold bdy S_l_plan_5
  simp only [e_bnd, ↓e_bok, e_bexc, e_ret, e_nox, ↓e_nok, e_cst, e_yes, e_m2, e_m1, e_tst, e_chn, e_and, e_or, e_not, e_vand, e_vor, e_vnot, e_mif, e_anil, e_acons, e_mC, e_call, e_mM, e_sl, e_ono, e_oso, e_dic1, ↓k_tst, ↓k_chnT, ↓k_chnF, ↓k_andT, ↓k_andF, ↓k_orT, ↓k_orF, ↓k_not, ↓k_oso, ↓k_asg, e_seq, ↓e_snx, ↓e_srt, ↓e_sbk, ↓e_sct, ↓e_lok, e_nxs, e_bks, e_cts, e_ex, e_rt, e_set, e_if, e_par, e_asg, f_setix, f_augix, e_sFor, e_forfix, e_src, e_rng1, e_enum, e_lc, e_cmpfix, f_get, ↓f_oo, ↓f_o1, f_ixR, f_ixO, f_ixL, f_ixSl, f_ixT, f_lenR, f_lenO, f_augR, f_setR, f_setO, f_goO, f_run, ↓f_rt, ↓f_nx, v_lenL, v_lenT, v_lenSl, v_addI, v_addII, v_sub, v_neg, v_eqI, v_eqS, v_eqB, v_neI, v_neS, v_lt, v_le, v_gt, v_ge, at_lit, ix_lit', Option.map_some, List.map_cons, List.map_nil, List.length_cons, List.length_nil, List.length_map, List.cons_append, List.nil_append, List.replicate, List.getElem?_cons_zero, List.getElem?_cons_succ, List.set_cons_zero, List.set_cons_succ, List.set_set, f_isi, f_isiO, f_isiB, v_slL, v_slSl, v_abs, v_max, v_min, v_kF, v_srcL, v_srcS, decide_true, decide_false, ↓reduceIte, Bool.false_eq_true, Bool.true_eq_false, Bool.not_true, Bool.not_false, Nat.reduceAdd, Nat.reduceSub, Nat.reduceLT, ↓u_oS, u_mul, u_mulS, u_div, u_mod, u_addS, u_addL, u_slS, u_ixS, u_lenS, u_str, u_kLst, u_kTup, u_kLstS, u_rng, u_upper, u_tNm, u_tTup, u_tNil, u_tCns, ↓u_tcR, f_isTS, wipeD, beq_self_eq_true, and_self, true_and, and_true, Int.reduceLT, Nat.reduceLeDiff, Int.reduceLE, Int.reduceNeg, Int.reduceToNat, Int.reduceAdd, g_src, ↓g_srcO, g_enu, ↓g_enuO, g_isT, ↓g_isTO, g_app, ↓g_appO, g_rev, ↓g_revO, g_lis, ↓g_lisO, g_kS, g_LR, g_kLR, h_fld, h_prop, h_meth, h_callO, h_mk, h_isi, h_gfld, h_gprop, h_gisi, h_isC, h_kMeth, ↓h_methR, h_kCallO, ↓h_notR, h_arN, h_tLst, h_asgH, h_srcT, h_max, h_min, e_fz, e_fzF, f_aug, ↓f_augK, h_mkS, k_mkS, k_mkST, e_fmt, e_js, k_js, e_js0, q_callK, q_strO, q_reprO, q_isCint, q_isCbl, q_isCstr, q_isCtup, q_isClst, q_isCnon, q_intB, q_intI, List.set, g0, hadd, h1, hi]
theorem ins_loop {s : Sto} {n : Nat} {WS : D} (L : List O) : ∀ (ws : List Str) (t : Sto) (b : Nat) (tu : List Str) (x : Option D) (m : Nat), Kp s t n b → b + ws.length ≤ 1000000000000 → Wd tu m → m + ws.length ≤ 100 → (∀ w ∈ ws, w ∈ wd4) →
    ∃ t1 tu1 x1, forL (bdy (tNm 2) S_l_plan_5) (ws.map D.str) [some (.ref n), some WS, x, some (.ref s.length), some (.ref (s.length + 1))] (t ++ .lst (tu.map D.str) :: L) = .go .nx [some (.ref n), some WS, x1, some (.ref s.length), some (.ref (s.length + 1))] (t1 ++ .lst (tu1.map D.str) :: L) ∧ Kp s t1 n (b + ws.length) ∧ Wd tu1 (m + ws.length)
  | [], t, b, tu, x, m, h, _, ht, _, _ => ⟨t, tu, x, rfl, h, ht⟩
  | w :: ws, t, b, tu, x, m, h, hb, ht, hm, hw => by
    rw [List.length_cons] at hb hm
    obtain ⟨t1, tu1, e1, k1, d1⟩ := ins_step (WS := WS) (x := x) h (by omega) ht (by omega) (hw w List.mem_cons_self) L
    obtain ⟨t2, tu2, x2, e2, k2, d2⟩ := ins_loop L ws t1 (b + 1) tu1 (some (.str w)) (m + 1) k1 (by omega) d1 (by omega) fun v hv => hw v (List.mem_cons_of_mem _ hv)
    refine ⟨t2, tu2, x2, ?_, k2.more (by rw [List.length_cons]; omega), ?_⟩
    · rw [List.map_cons]
      unfold forL
      rw [e1]
      exact e2
    · rw [List.length_cons]
      have : m + (ws.length + 1) = m + 1 + ws.length := by omega
      rw [this]
      exact d2

def rfs (a n : Nat) : List D := (List.range n).map fun i => .ref (a + i)
def lO (ws : List Str) : O := .lst (ws.map D.str)
def lP (ws : List Str) : PyData := .list (ws.map PyData.str)
def tl (s : Sto) (tu : List Str) (Ls : List (List Str)) : List O := .lst (tu.map D.str) :: .lst (rfs (s.length + 2) Ls.length) :: Ls.map lO
structure PW (Ls : List (List Str)) (m : Nat) : Prop where
  len : Ls.length ≤ m
  ws : ∀ ws ∈ Ls, Wd ws m
theorem gp {s t : Sto} {n b : Nat} {tu : List Str} {Ls : List (List Str)} (h : Kp s t n b) : (t ++ tl s tu Ls)[s.length + 1]? = some (.lst (rfs (s.length + 2) Ls.length)) := (new_at (L := tl s tu Ls) h 1).trans rfl
theorem gi {s t : Sto} {n b : Nat} {tu : List Str} {Ls : List (List Str)} (h : Kp s t n b) (i : Nat) : (t ++ tl s tu Ls)[s.length + 2 + i]? = (Ls[i]?).map lO := by
  have := new_at (L := tl s tu Ls) h (2 + i)
  rw [show s.length + 2 + i = s.length + (2 + i) by omega, this]
  rw [show 2 + i = i + 1 + 1 by omega]
  unfold tl
  rw [List.getElem?_cons_succ, List.getElem?_cons_succ, List.getElem?_map]
theorem rng_get {α β : Type} (F : α → β) (d : α) (Ls : List α) : (List.range Ls.length).map (fun i => F (Ls[i]?.getD d)) = Ls.map F := by
  apply List.ext_getElem?
  intro i
  rw [List.getElem?_map, List.getElem?_map]
  by_cases h : i < Ls.length
  · rw [List.getElem?_range h, List.getElem?_eq_getElem h]; simp [List.getElem?_eq_getElem h]
  · rw [List.getElem?_eq_none (by simpa using h), List.getElem?_eq_none (by simpa using h)]; rfl
theorem toP_strs (s : Sto) (k : Nat) (ws : List Str) : allM (toP (k + 1) s) (ws.map D.str) = some (ws.map PyData.str) := allM_map fun x _ => rfl
theorem dat_parts {s t : Sto} {n b : Nat} {tu : List Str} {Ls : List (List Str)} (h : Kp s t n b) : dat (t ++ tl s tu Ls) (.ref (s.length + 1)) = some (.list (Ls.map lP)) := by
  unfold dat toP
  simp only [gp h]
  have : allM (toP 11 (t ++ tl s tu Ls)) (rfs (s.length + 2) Ls.length) = some ((List.range Ls.length).map fun i => lP (Ls[i]?.getD [])) := by
    unfold rfs
    refine allM_map fun i hi => ?_
    have hlt := List.mem_range.mp hi
    unfold toP
    simp only [gi h, List.getElem?_eq_getElem hlt, Option.map_some, lO, toP_strs, Option.getD_some]
    rfl
  rw [this, rng_get]
  rfl
theorem ok_w {w : Str} (h : w ∈ wd4) : (PyData.str w).canLay0 = true ∧ w.length ≤ 6 := by
  unfold wd4 at h
  simp only [List.mem_cons, List.not_mem_nil, or_false] at h
  rcases h with rfl | rfl | rfl | rfl <;> exact ⟨by decide +kernel, by decide +kernel⟩
theorem lay_lP {ws : List Str} {m : Nat} (h : Wd ws m) : (lP ws).canLay0 = true := lay_list fun w hw => (ok_w (h.2 w hw)).1
theorem eq_parts {s t : Sto} {n b m : Nat} {tu : List Str} {Ls : List (List Str)} (h : Kp s t n b) (hp : PW Ls m) : dEq (.ref (s.length + 1)) (.lst []) (t ++ tl s tu Ls) = .ok (.bl Ls.isEmpty) (t ++ tl s tu Ls) := by
  unfold dEq
  rw [eq_diff (p := .list (Ls.map lP)) (q := .list []) rfl (dat_parts h) rfl (lay_list fun ws hw => lay_lP (hp.ws ws hw)) rfl rfl]
  cases Ls <;> rfl

theorem rfs_succ (a n : Nat) : rfs a (n + 1) = rfs a n ++ [.ref (a + n)] := by
  unfold rfs
  rw [List.range_succ, List.map_append]; rfl
theorem rfs_len (a n : Nat) : (rfs a n).length = n := by unfold rfs; simp
theorem tl_snoc (s : Sto) (tu : List Str) (Ls : List (List Str)) (ws : List Str) : tl s tu (Ls ++ [ws]) = .lst (tu.map D.str) :: .lst (rfs (s.length + 2) Ls.length ++ [.ref (s.length + 2 + Ls.length)]) :: (Ls.map lO ++ [lO ws]) := by
  unfold tl
  rw [List.length_append, List.length_singleton, rfs_succ, List.map_append]; rfl
theorem new_part {s t : Sto} {n b m : Nat} {tu : List Str} {Ls : List (List Str)} {x y z : Option D} (h : Kp s t n b) (hp : PW Ls m) (hm : m ≤ 100) :
    S_l_plan_8 [x, y, z, some (.ref s.length), some (.ref (s.length + 1))] (t ++ tl s tu Ls) = .go .nx [x, y, z, some (.ref s.length), some (.ref (s.length + 1))] (t ++ tl s tu (Ls ++ [[]])) := by
  have hl : (t ++ tl s tu Ls).length = s.length + 2 + Ls.length := by
    rw [List.length_append, h.len]
    unfold tl
    rw [List.length_cons, List.length_cons, List.length_map]; omega
  have g1 := gp (tu := tu) (Ls := Ls) h
  have hlen := hp.len
  have ha : mAppend (.ref (s.length + 1)) [.ref (s.length + 2 + Ls.length)] (t ++ tl s tu Ls ++ [.lst []]) = .ok .non (t ++ tl s tu (Ls ++ [[]])) := by
    have g2 : (t ++ tl s tu Ls ++ [.lst []])[s.length + 1]? = some (.lst (rfs (s.length + 2) Ls.length)) := by
      rw [List.append_assoc]
      exact (new_at (L := tl s tu Ls ++ [O.lst []]) h 1).trans rfl
    unfold mAppend lstAt
    simp only [g2]
    rw [if_pos (by rw [rfs_len]; show _ < 1000000; omega), List.append_assoc, new_set (L := tl s tu Ls ++ [O.lst []]) h 1, tl_snoc]
    rfl
  unfold S_l_plan_8
  simp only [e_bnd, ↓e_bok, e_bexc, e_ret, e_nox, ↓e_nok, e_cst, e_yes, e_m2, e_m1, e_tst, e_chn, e_and, e_or, e_not, e_vand, e_vor, e_vnot, e_mif, e_anil, e_acons, e_mC, e_call, e_mM, e_sl, e_ono, e_oso, e_dic1, ↓k_tst, ↓k_chnT, ↓k_chnF, ↓k_andT, ↓k_andF, ↓k_orT, ↓k_orF, ↓k_not, ↓k_oso, ↓k_asg, e_seq, ↓e_snx, ↓e_srt, ↓e_sbk, ↓e_sct, ↓e_lok, e_nxs, e_bks, e_cts, e_ex, e_rt, e_set, e_if, e_par, e_asg, f_setix, f_augix, e_sFor, e_forfix, e_src, e_rng1, e_enum, e_lc, e_cmpfix, f_get, ↓f_oo, ↓f_o1, f_ixR, f_ixO, f_ixL, f_ixSl, f_ixT, f_lenR, f_lenO, f_augR, f_setR, f_setO, f_goO, f_run, ↓f_rt, ↓f_nx, v_lenL, v_lenT, v_lenSl, v_addI, v_addII, v_sub, v_neg, v_eqI, v_eqS, v_eqB, v_neI, v_neS, v_lt, v_le, v_gt, v_ge, at_lit, ix_lit', Option.map_some, List.map_cons, List.map_nil, List.length_cons, List.length_nil, List.length_map, List.cons_append, List.nil_append, List.replicate, List.getElem?_cons_zero, List.getElem?_cons_succ, List.set_cons_zero, List.set_cons_succ, List.set_set, f_isi, f_isiO, f_isiB, v_slL, v_slSl, v_abs, v_max, v_min, v_kF, v_srcL, v_srcS, decide_true, decide_false, ↓reduceIte, Bool.false_eq_true, Bool.true_eq_false, Bool.not_true, Bool.not_false, Nat.reduceAdd, Nat.reduceSub, Nat.reduceLT, ↓u_oS, u_mul, u_mulS, u_div, u_mod, u_addS, u_addL, u_slS, u_ixS, u_lenS, u_str, u_kLst, u_kTup, u_kLstS, u_rng, u_upper, u_tNm, u_tTup, u_tNil, u_tCns, ↓u_tcR, f_isTS, wipeD, beq_self_eq_true, and_self, true_and, and_true, Int.reduceLT, Nat.reduceLeDiff, Int.reduceLE, Int.reduceNeg, Int.reduceToNat, Int.reduceAdd, g_src, ↓g_srcO, g_enu, ↓g_enuO, g_isT, ↓g_isTO, g_app, ↓g_appO, g_rev, ↓g_revO, g_lis, ↓g_lisO, g_kS, g_LR, g_kLR, h_fld, h_prop, h_meth, h_callO, h_mk, h_isi, h_gfld, h_gprop, h_gisi, h_isC, h_kMeth, ↓h_methR, h_kCallO, ↓h_notR, h_arN, h_tLst, h_asgH, h_srcT, h_max, h_min, e_fz, e_fzF, f_aug, ↓f_augK, h_mkS, k_mkS, k_mkST, e_fmt, e_js, k_js, e_js0, q_callK, q_strO, q_reprO, q_isCint, q_isCbl, q_isCstr, q_isCtup, q_isClst, q_isCnon, q_intB, q_intI, li_0, li_1, li_2, li_3, li_4, li_5, li_6, li_7, li_8, li_9, li_10, li_11, li_12, li_13, g1, kNew, hl, ha]
theorem at_last (xs : List D) (d : D) : atI (xs ++ [d]) (-1) = some d := by
  unfold atI ixN
  rw [if_neg (by decide)]
  have hl : (xs ++ [d]).length = xs.length + 1 := by simp
  rw [hl, if_pos (by omega)]
  show (xs ++ [d])[((-1 : Int) + ((xs.length + 1 : Nat) : Int)).toNat]? = some d
  rw [show ((-1 : Int) + ((xs.length + 1 : Nat) : Int)).toNat = xs.length by omega]
  simp
theorem put_word {s t : Sto} {n b m : Nat} {tu : List Str} {Ls : List (List Str)} {ws : List Str} {w : Str} {x y : Option D} (h : Kp s t n b) (hw : Wd ws m) (hm : m ≤ 100) :
    S_l_plan_9 [x, y, some (.str w), some (.ref s.length), some (.ref (s.length + 1))] (t ++ tl s tu (Ls ++ [ws])) = .go .nx [x, y, some (.str w), some (.ref s.length), some (.ref (s.length + 1))] (t ++ tl s tu (Ls ++ [ws ++ [w]])) := by
  have g1 := gp (tu := tu) (Ls := Ls ++ [ws]) h
  rw [List.length_append, List.length_singleton, rfs_succ] at g1
  have g2 : (t ++ tl s tu (Ls ++ [ws]))[s.length + 2 + Ls.length]? = some (.lst (ws.map D.str)) := by rw [gi h]; simp [lO]
  have hx : dIx (.ref (s.length + 1)) (.int (-1)) (t ++ tl s tu (Ls ++ [ws])) = .ok (.ref (s.length + 2 + Ls.length)) (t ++ tl s tu (Ls ++ [ws])) := by
    unfold dIx
    simp only [asLL, asL, g1, at_last]
  have hl := hw.1
  have ha : mAppend (.ref (s.length + 2 + Ls.length)) [.str w] (t ++ tl s tu (Ls ++ [ws])) = .ok .non (t ++ tl s tu (Ls ++ [ws ++ [w]])) := by
    unfold mAppend lstAt
    simp only [g2]
    rw [if_pos (by rw [List.length_map]; show _ < 1000000; omega), show s.length + 2 + Ls.length = s.length + (2 + Ls.length) by omega, new_set (L := tl s tu (Ls ++ [ws])) h (2 + Ls.length)]
    congr 2
    rw [tl_snoc, tl_snoc, show 2 + Ls.length = Ls.length + 1 + 1 by omega, List.set_cons_succ, List.set_cons_succ]
    congr 2
    rw [List.set_append_right _ _ (by simp)]
    simp [lO]
  have hn : dNeg (.int 1) = fun s => .ok (.int (-1)) s := rfl
  have hi : isT "list" (.ref (s.length + 2 + Ls.length)) (t ++ tl s tu (Ls ++ [ws])) = true := by
    unfold isT
    simp only [g2]
    rfl
  unfold S_l_plan_9
  simp only [e_bnd, ↓e_bok, e_bexc, e_ret, e_nox, ↓e_nok, e_cst, e_yes, e_m2, e_m1, e_tst, e_chn, e_and, e_or, e_not, e_vand, e_vor, e_vnot, e_mif, e_anil, e_acons, e_mC, e_call, e_mM, e_sl, e_ono, e_oso, e_dic1, ↓k_tst, ↓k_chnT, ↓k_chnF, ↓k_andT, ↓k_andF, ↓k_orT, ↓k_orF, ↓k_not, ↓k_oso, ↓k_asg, e_seq, ↓e_snx, ↓e_srt, ↓e_sbk, ↓e_sct, ↓e_lok, e_nxs, e_bks, e_cts, e_ex, e_rt, e_set, e_if, e_par, e_asg, f_setix, f_augix, e_sFor, e_forfix, e_src, e_rng1, e_enum, e_lc, e_cmpfix, f_get, ↓f_oo, ↓f_o1, f_ixR, f_ixO, f_ixSl, f_ixT, f_lenR, f_lenO, f_augR, f_setR, f_setO, f_goO, f_run, ↓f_rt, ↓f_nx, v_lenL, v_lenT, v_lenSl, v_addI, v_addII, v_sub, v_neg, v_eqI, v_eqS, v_eqB, v_neI, v_neS, v_lt, v_le, v_gt, v_ge, at_lit, ix_lit', Option.map_some, List.map_cons, List.map_nil, List.length_cons, List.length_nil, List.length_map, List.cons_append, List.nil_append, List.replicate, List.getElem?_cons_zero, List.getElem?_cons_succ, List.set_cons_zero, List.set_cons_succ, List.set_set, f_isi, f_isiO, f_isiB, v_slL, v_slSl, v_abs, v_max, v_min, v_kF, v_srcL, v_srcS, decide_true, decide_false, ↓reduceIte, Bool.false_eq_true, Bool.true_eq_false, Bool.not_true, Bool.not_false, Nat.reduceAdd, Nat.reduceSub, Nat.reduceLT, ↓u_oS, u_mul, u_mulS, u_div, u_mod, u_addS, u_addL, u_slS, u_ixS, u_lenS, u_str, u_kLst, u_kTup, u_kLstS, u_rng, u_upper, u_tNm, u_tTup, u_tNil, u_tCns, ↓u_tcR, f_isTS, wipeD, beq_self_eq_true, and_self, true_and, and_true, Int.reduceLT, Nat.reduceLeDiff, Int.reduceLE, Int.reduceNeg, Int.reduceToNat, Int.reduceAdd, g_src, ↓g_srcO, g_enu, ↓g_enuO, g_isT, ↓g_isTO, g_app, ↓g_appO, g_rev, ↓g_revO, g_lis, ↓g_lisO, g_kS, g_LR, g_kLR, h_fld, h_prop, h_meth, h_callO, h_mk, h_isi, h_gfld, h_gprop, h_gisi, h_isC, h_kMeth, ↓h_methR, h_kCallO, ↓h_notR, h_arN, h_tLst, h_asgH, h_srcT, h_max, h_min, e_fz, e_fzF, f_aug, ↓f_augK, h_mkS, k_mkS, k_mkST, e_fmt, e_js, k_js, e_js0, q_callK, q_strO, q_reprO, q_isCint, q_isCbl, q_isCstr, q_isCtup, q_isClst, q_isCnon, q_intB, q_intI, hn, hx, hi, ha]

theorem PW.new {Ls : List (List Str)} {m : Nat} {w : Str} (h : PW Ls m) (hw : w ∈ wd4) : PW (Ls ++ [[w]]) (m + 1) := by
  refine ⟨by have := h.len; rw [List.length_append, List.length_singleton]; omega, fun ws hws => ?_⟩
  rcases List.mem_append.mp hws with h1 | h1
  · exact ⟨by have := (h.ws ws h1).1; omega, (h.ws ws h1).2⟩
  · rw [List.mem_singleton.mp h1]
    exact ⟨by rw [List.length_singleton]; omega, fun v hv => by rw [List.mem_singleton.mp hv]; exact hw⟩
theorem PW.put {Ls : List (List Str)} {ws : List Str} {m : Nat} {w : Str} (h : PW (Ls ++ [ws]) m) (hw : w ∈ wd4) : PW (Ls ++ [ws ++ [w]]) (m + 1) := by
  refine ⟨by have := h.len; rw [List.length_append, List.length_singleton] at this ⊢; omega, fun vs hvs => ?_⟩
  rcases List.mem_append.mp hvs with h1 | h1
  · have := h.ws vs (List.mem_append.mpr (.inl h1))
    exact ⟨by have := this.1; omega, this.2⟩
  · rw [List.mem_singleton.mp h1]
    have := h.ws ws (List.mem_append.mpr (.inr (List.mem_singleton.mpr rfl)))
    refine ⟨by have := this.1; rw [List.length_append, List.length_singleton]; omega, fun v hv => ?_⟩
    rcases List.mem_append.mp hv with h2 | h2
    · exact this.2 v h2
    · rw [List.mem_singleton.mp h2]; exact hw
theorem PW.new0 {Ls : List (List Str)} {m : Nat} (h : PW Ls m) : PW (Ls ++ [[]]) (m + 1) := by
  refine ⟨by have := h.len; rw [List.length_append, List.length_singleton]; omega, fun ws hws => ?_⟩
  rcases List.mem_append.mp hws with h1 | h1
  · exact ⟨by have := (h.ws ws h1).1; omega, (h.ws ws h1).2⟩
  · rw [List.mem_singleton.mp h1]
    exact ⟨Nat.zero_le _, fun v hv => by cases hv⟩
theorem part_step {s t : Sto} {n b m : Nat} {tu : List Str} {Ls : List (List Str)} {w : Str} {y z : Option D} (h : Kp s t n b) (hb : b ≤ 1000000000000) (hp : PW Ls m) (hm : m ≤ 90) (hw : w ∈ wd4) :
    ∃ t1 Ls1, bdy (tNm 2) (sSeq S_l_plan_7 S_l_plan_9) (.str w) [some (.ref n), y, z, some (.ref s.length), some (.ref (s.length + 1))] (t ++ tl s tu Ls) = .go .nx [some (.ref n), y, some (.str w), some (.ref s.length), some (.ref (s.length + 1))] (t1 ++ tl s tu Ls1) ∧ Kp s t1 n (b + 1) ∧ PW Ls1 (m + 1) := by
  have heq := eq_parts (tu := tu) h hp
  unfold bdy S_l_plan_7
  cases hE : Ls.isEmpty with
  | true =>
    have e0 : Ls = [] := List.isEmpty_iff.mp hE
    subst e0
    have e8 := new_part (tu := tu) (x := some (.ref n)) (y := y) (z := some (.str w)) h hp (by omega)
    have e9 := put_word (tu := tu) (Ls := []) (ws := []) (w := w) (x := some (.ref n)) (y := y) (m := 0) h ⟨Nat.zero_le _, fun v hv => by cases hv⟩ (by omega)
    refine ⟨t, [[w]], ?_, h.more (by omega), PW.new (Ls := []) hp hw⟩
    rw [hE] at heq
    simp only [List.nil_append] at e8 e9
    simp only [e_bnd, ↓e_bok, e_bexc, e_ret, e_nox, ↓e_nok, e_cst, e_yes, e_m2, e_m1, e_tst, e_chn, e_and, e_or, e_not, e_vand, e_vor, e_vnot, e_mif, e_anil, e_acons, e_mC, e_call, e_mM, e_sl, e_ono, e_oso, e_dic1, ↓k_tst, ↓k_chnT, ↓k_chnF, ↓k_andT, ↓k_andF, ↓k_orT, ↓k_orF, ↓k_not, ↓k_oso, ↓k_asg, e_seq, ↓e_snx, ↓e_srt, ↓e_sbk, ↓e_sct, ↓e_lok, e_nxs, e_bks, e_cts, e_ex, e_rt, e_set, e_if, e_par, e_asg, f_setix, f_augix, e_sFor, e_forfix, e_src, e_rng1, e_enum, e_lc, e_cmpfix, f_get, ↓f_oo, ↓f_o1, f_ixR, f_ixO, f_ixL, f_ixSl, f_ixT, f_lenR, f_lenO, f_augR, f_setR, f_setO, f_goO, f_run, ↓f_rt, ↓f_nx, v_lenL, v_lenT, v_lenSl, v_addI, v_addII, v_sub, v_neg, v_eqI, v_eqS, v_eqB, v_neI, v_neS, v_lt, v_le, v_gt, v_ge, at_lit, ix_lit', Option.map_some, List.map_cons, List.map_nil, List.length_cons, List.length_nil, List.length_map, List.cons_append, List.nil_append, List.replicate, List.getElem?_cons_zero, List.getElem?_cons_succ, List.set_cons_zero, List.set_cons_succ, List.set_set, f_isi, f_isiO, f_isiB, v_slL, v_slSl, v_abs, v_max, v_min, v_kF, v_srcL, v_srcS, decide_true, decide_false, ↓reduceIte, Bool.false_eq_true, Bool.true_eq_false, Bool.not_true, Bool.not_false, Nat.reduceAdd, Nat.reduceSub, Nat.reduceLT, ↓u_oS, u_mul, u_mulS, u_div, u_mod, u_addS, u_addL, u_slS, u_ixS, u_lenS, u_str, u_kLst, u_kTup, u_kLstS, u_rng, u_upper, u_tNm, u_tTup, u_tNil, u_tCns, ↓u_tcR, f_isTS, wipeD, beq_self_eq_true, and_self, true_and, and_true, Int.reduceLT, Nat.reduceLeDiff, Int.reduceLE, Int.reduceNeg, Int.reduceToNat, Int.reduceAdd, g_src, ↓g_srcO, g_enu, ↓g_enuO, g_isT, ↓g_isTO, g_app, ↓g_appO, g_rev, ↓g_revO, g_lis, ↓g_lisO, g_kS, g_LR, g_kLR, h_fld, h_prop, h_meth, h_callO, h_mk, h_isi, h_gfld, h_gprop, h_gisi, h_isC, h_kMeth, ↓h_methR, h_kCallO, ↓h_notR, h_arN, h_tLst, h_asgH, h_srcT, h_max, h_min, e_fz, e_fzF, f_aug, ↓f_augK, h_mkS, k_mkS, k_mkST, e_fmt, e_js, k_js, e_js0, q_callK, q_strO, q_reprO, q_isCint, q_isCbl, q_isCstr, q_isCtup, q_isClst, q_isCnon, q_intB, q_intI, li_0, li_1, li_2, li_3, li_4, li_5, li_6, li_7, li_8, li_9, li_10, li_11, li_12, li_13, List.set, heq, e8, e9]
  | false =>
    rw [hE] at heq
    obtain ⟨v, t1, h1, h2, h3, h4⟩ := take_new 3 h (tl s tu Ls) hb (by decide) (small_log (by decide) (by decide))
    by_cases hv : 0 < v
    · have e8 := new_part (tu := tu) (x := some (.ref n)) (y := y) (z := some (.str w)) h4 hp (by omega)
      have e9 := put_word (tu := tu) (Ls := Ls) (ws := []) (w := w) (x := some (.ref n)) (y := y) (m := 0) h4 ⟨Nat.zero_le _, fun v hv => by cases hv⟩ (by omega)
      have dv : decide (0 < v) = true := decide_eq_true hv
      refine ⟨t1, Ls ++ [[w]], ?_, h4, hp.new hw⟩
      simp only [List.nil_append] at e9
      simp only [e_bnd, ↓e_bok, e_bexc, e_ret, e_nox, ↓e_nok, e_cst, e_yes, e_m2, e_m1, e_tst, e_chn, e_and, e_or, e_not, e_vand, e_vor, e_vnot, e_mif, e_anil, e_acons, e_mC, e_call, e_mM, e_sl, e_ono, e_oso, e_dic1, ↓k_tst, ↓k_chnT, ↓k_chnF, ↓k_andT, ↓k_andF, ↓k_orT, ↓k_orF, ↓k_not, ↓k_oso, ↓k_asg, e_seq, ↓e_snx, ↓e_srt, ↓e_sbk, ↓e_sct, ↓e_lok, e_nxs, e_bks, e_cts, e_ex, e_rt, e_set, e_if, e_par, e_asg, f_setix, f_augix, e_sFor, e_forfix, e_src, e_rng1, e_enum, e_lc, e_cmpfix, f_get, ↓f_oo, ↓f_o1, f_ixR, f_ixO, f_ixL, f_ixSl, f_ixT, f_lenR, f_lenO, f_augR, f_setR, f_setO, f_goO, f_run, ↓f_rt, ↓f_nx, v_lenL, v_lenT, v_lenSl, v_addI, v_addII, v_sub, v_neg, v_eqI, v_eqS, v_eqB, v_neI, v_neS, v_lt, v_le, v_gt, v_ge, at_lit, ix_lit', Option.map_some, List.map_cons, List.map_nil, List.length_cons, List.length_nil, List.length_map, List.cons_append, List.nil_append, List.replicate, List.getElem?_cons_zero, List.getElem?_cons_succ, List.set_cons_zero, List.set_cons_succ, List.set_set, f_isi, f_isiO, f_isiB, v_slL, v_slSl, v_abs, v_max, v_min, v_kF, v_srcL, v_srcS, decide_true, decide_false, ↓reduceIte, Bool.false_eq_true, Bool.true_eq_false, Bool.not_true, Bool.not_false, Nat.reduceAdd, Nat.reduceSub, Nat.reduceLT, ↓u_oS, u_mul, u_mulS, u_div, u_mod, u_addS, u_addL, u_slS, u_ixS, u_lenS, u_str, u_kLst, u_kTup, u_kLstS, u_rng, u_upper, u_tNm, u_tTup, u_tNil, u_tCns, ↓u_tcR, f_isTS, wipeD, beq_self_eq_true, and_self, true_and, and_true, Int.reduceLT, Nat.reduceLeDiff, Int.reduceLE, Int.reduceNeg, Int.reduceToNat, Int.reduceAdd, g_src, ↓g_srcO, g_enu, ↓g_enuO, g_isT, ↓g_isTO, g_app, ↓g_appO, g_rev, ↓g_revO, g_lis, ↓g_lisO, g_kS, g_LR, g_kLR, h_fld, h_prop, h_meth, h_callO, h_mk, h_isi, h_gfld, h_gprop, h_gisi, h_isC, h_kMeth, ↓h_methR, h_kCallO, ↓h_notR, h_arN, h_tLst, h_asgH, h_srcT, h_max, h_min, e_fz, e_fzF, f_aug, ↓f_augK, h_mkS, k_mkS, k_mkST, e_fmt, e_js, k_js, e_js0, q_callK, q_strO, q_reprO, q_isCint, q_isCbl, q_isCstr, q_isCtup, q_isClst, q_isCnon, q_intB, q_intI, li_0, li_1, li_2, li_3, li_4, li_5, li_6, li_7, li_8, li_9, li_10, li_11, li_12, li_13, List.set, heq, h1, dv, e8, e9]
    · have dv : decide (0 < v) = false := decide_eq_false hv
      have hne : Ls ≠ [] := fun z => by rw [z] at hE; cases hE
      obtain ⟨Ls', ws, rfl⟩ : ∃ Ls' ws, Ls = Ls' ++ [ws] := ⟨Ls.dropLast, Ls.getLast hne, (List.dropLast_concat_getLast hne).symm⟩
      have e9 := put_word (tu := tu) (Ls := Ls') (ws := ws) (w := w) (x := some (.ref n)) (y := y) h4 (hp.ws ws (List.mem_append.mpr (.inr (List.mem_singleton.mpr rfl)))) (by omega)
      refine ⟨t1, Ls' ++ [ws ++ [w]], ?_, h4, hp.put hw⟩
      simp only [e_bnd, ↓e_bok, e_bexc, e_ret, e_nox, ↓e_nok, e_cst, e_yes, e_m2, e_m1, e_tst, e_chn, e_and, e_or, e_not, e_vand, e_vor, e_vnot, e_mif, e_anil, e_acons, e_mC, e_call, e_mM, e_sl, e_ono, e_oso, e_dic1, ↓k_tst, ↓k_chnT, ↓k_chnF, ↓k_andT, ↓k_andF, ↓k_orT, ↓k_orF, ↓k_not, ↓k_oso, ↓k_asg, e_seq, ↓e_snx, ↓e_srt, ↓e_sbk, ↓e_sct, ↓e_lok, e_nxs, e_bks, e_cts, e_ex, e_rt, e_set, e_if, e_par, e_asg, f_setix, f_augix, e_sFor, e_forfix, e_src, e_rng1, e_enum, e_lc, e_cmpfix, f_get, ↓f_oo, ↓f_o1, f_ixR, f_ixO, f_ixL, f_ixSl, f_ixT, f_lenR, f_lenO, f_augR, f_setR, f_setO, f_goO, f_run, ↓f_rt, ↓f_nx, v_lenL, v_lenT, v_lenSl, v_addI, v_addII, v_sub, v_neg, v_eqI, v_eqS, v_eqB, v_neI, v_neS, v_lt, v_le, v_gt, v_ge, at_lit, ix_lit', Option.map_some, List.map_cons, List.map_nil, List.length_cons, List.length_nil, List.length_map, List.cons_append, List.nil_append, List.replicate, List.getElem?_cons_zero, List.getElem?_cons_succ, List.set_cons_zero, List.set_cons_succ, List.set_set, f_isi, f_isiO, f_isiB, v_slL, v_slSl, v_abs, v_max, v_min, v_kF, v_srcL, v_srcS, decide_true, decide_false, ↓reduceIte, Bool.false_eq_true, Bool.true_eq_false, Bool.not_true, Bool.not_false, Nat.reduceAdd, Nat.reduceSub, Nat.reduceLT, ↓u_oS, u_mul, u_mulS, u_div, u_mod, u_addS, u_addL, u_slS, u_ixS, u_lenS, u_str, u_kLst, u_kTup, u_kLstS, u_rng, u_upper, u_tNm, u_tTup, u_tNil, u_tCns, ↓u_tcR, f_isTS, wipeD, beq_self_eq_true, and_self, true_and, and_true, Int.reduceLT, Nat.reduceLeDiff, Int.reduceLE, Int.reduceNeg, Int.reduceToNat, Int.reduceAdd, g_src, ↓g_srcO, g_enu, ↓g_enuO, g_isT, ↓g_isTO, g_app, ↓g_appO, g_rev, ↓g_revO, g_lis, ↓g_lisO, g_kS, g_LR, g_kLR, h_fld, h_prop, h_meth, h_callO, h_mk, h_isi, h_gfld, h_gprop, h_gisi, h_isC, h_kMeth, ↓h_methR, h_kCallO, ↓h_notR, h_arN, h_tLst, h_asgH, h_srcT, h_max, h_min, e_fz, e_fzF, f_aug, ↓f_augK, h_mkS, k_mkS, k_mkST, e_fmt, e_js, k_js, e_js0, q_callK, q_strO, q_reprO, q_isCint, q_isCbl, q_isCstr, q_isCtup, q_isClst, q_isCnon, q_intB, q_intI, li_0, li_1, li_2, li_3, li_4, li_5, li_6, li_7, li_8, li_9, li_10, li_11, li_12, li_13, List.set, heq, h1, dv, e9]
theorem part_loop {s t : Sto} {n b m : Nat} {tu : List Str} {y z : Option D} (h : Kp s t n b) (hb : b + tu.length ≤ 1000000000000) (ht : Wd tu m) (hm : m ≤ 90) :
    ∃ t1 Ls z1, S_l_plan_6 [some (.ref n), y, z, some (.ref s.length), some (.ref (s.length + 1))] (t ++ tl s tu []) = .go .nx [some (.ref n), y, z1, some (.ref s.length), some (.ref (s.length + 1))] (t1 ++ tl s tu Ls) ∧ Kp s t1 n (b + tu.length) ∧ PW Ls tu.length := by
  have hl := ht.1
  obtain ⟨σ2, s2, h1, h2⟩ := forS_sto (n := s.length) (l := tu.length) (ds := tu.map D.str) (body := bdy (tNm 2) (sSeq S_l_plan_7 S_l_plan_9)) (σ := [some (.ref n), y, z, some (.ref s.length), some (.ref (s.length + 1))]) (s := t ++ tl s tu [])
    (fun k σ' s' => ∃ t1 Ls z1, σ' = [some (.ref n), y, z1, some (.ref s.length), some (.ref (s.length + 1))] ∧ s' = t1 ++ tl s tu Ls ∧ Kp s t1 n (b + k) ∧ PW Ls k ∧ k ≤ tu.length) (List.length_map ..).symm
    (fun k σ' s' ⟨t1, Ls, z1, e1, e2, k1, p1, l1⟩ => by subst e2; exact new_at0 k1)
    (fun k d σ' s' ⟨t1, Ls, z1, e1, e2, k1, p1, l1⟩ hd => by
      rw [List.getElem?_map] at hd
      cases hx : tu[k]? with
      | none => rw [hx] at hd; cases hd
      | some w =>
        rw [hx] at hd
        cases hd
        subst e1 e2
        have hk : k < tu.length := (List.getElem?_eq_some_iff.mp hx).1
        obtain ⟨t2, Ls2, e3, k2, p2⟩ := part_step (tu := tu) (y := y) (z := z1) k1 (by omega) p1 (by omega) (ht.2 w (List.mem_of_getElem? hx))
        exact ⟨_, _, e3, t2, Ls2, _, rfl, rfl, k2, p2, by omega⟩)
    ⟨t, [], z, rfl, rfl, h, ⟨Nat.zero_le _, fun _ hv => by cases hv⟩, Nat.zero_le _⟩
  obtain ⟨t1, Ls, z1, e1, e2, k1, p1, l1⟩ := h2
  rw [List.length_map] at k1 p1
  subst e1 e2
  refine ⟨t1, Ls, z1, ?_, k1, p1⟩
  have g0 : (t ++ tl s tu [])[s.length]? = some (.lst (tu.map D.str)) := new_at0 h
  unfold S_l_plan_6
  simp only [e_bnd, ↓e_bok, e_bexc, e_ret, e_nox, ↓e_nok, e_cst, e_yes, e_m2, e_m1, e_tst, e_chn, e_and, e_or, e_not, e_vand, e_vor, e_vnot, e_mif, e_anil, e_acons, e_mC, e_call, e_mM, e_sl, e_ono, e_oso, e_dic1, ↓k_tst, ↓k_chnT, ↓k_chnF, ↓k_andT, ↓k_andF, ↓k_orT, ↓k_orF, ↓k_not, ↓k_oso, ↓k_asg, e_seq, ↓e_snx, ↓e_srt, ↓e_sbk, ↓e_sct, ↓e_lok, e_nxs, e_bks, e_cts, e_ex, e_rt, e_set, e_if, e_par, e_asg, f_setix, f_augix, e_sFor, e_forfix, e_src, e_rng1, e_enum, e_lc, e_cmpfix, f_get, ↓f_oo, ↓f_o1, f_ixR, f_ixO, f_ixL, f_ixSl, f_ixT, f_lenR, f_lenO, f_augR, f_setR, f_setO, f_goO, f_run, ↓f_rt, ↓f_nx, v_lenL, v_lenT, v_lenSl, v_addI, v_addII, v_sub, v_neg, v_eqI, v_eqS, v_eqB, v_neI, v_neS, v_lt, v_le, v_gt, v_ge, at_lit, ix_lit', Option.map_some, List.map_cons, List.map_nil, List.length_cons, List.length_nil, List.length_map, List.cons_append, List.nil_append, List.replicate, List.getElem?_cons_zero, List.getElem?_cons_succ, List.set_cons_zero, List.set_cons_succ, List.set_set, f_isi, f_isiO, f_isiB, v_slL, v_slSl, v_abs, v_max, v_min, v_kF, v_srcL, v_srcS, decide_true, decide_false, ↓reduceIte, Bool.false_eq_true, Bool.true_eq_false, Bool.not_true, Bool.not_false, Nat.reduceAdd, Nat.reduceSub, Nat.reduceLT, ↓u_oS, u_mul, u_mulS, u_div, u_mod, u_addS, u_addL, u_slS, u_ixS, u_lenS, u_str, u_kLst, u_kTup, u_kLstS, u_rng, u_upper, u_tNm, u_tTup, u_tNil, u_tCns, ↓u_tcR, f_isTS, wipeD, beq_self_eq_true, and_self, true_and, and_true, Int.reduceLT, Nat.reduceLeDiff, Int.reduceLE, Int.reduceNeg, Int.reduceToNat, Int.reduceAdd, g_src, ↓g_srcO, g_enu, ↓g_enuO, g_isT, ↓g_isTO, g_app, ↓g_appO, g_rev, ↓g_revO, g_lis, ↓g_lisO, g_kS, g_LR, g_kLR, h_fld, h_prop, h_meth, h_callO, h_mk, h_isi, h_gfld, h_gprop, h_gisi, h_isC, h_kMeth, ↓h_methR, h_kCallO, ↓h_notR, h_arN, h_tLst, h_asgH, h_srcT, h_max, h_min, e_fz, e_fzF, f_aug, ↓f_augK, h_mkS, k_mkS, k_mkST, e_fmt, e_js, k_js, e_js0, q_callK, q_strO, q_reprO, q_isCint, q_isCbl, q_isCstr, q_isCtup, q_isClst, q_isCnon, q_intB, q_intI, g0]
  exact h1

theorem add_strs (xs ys : List Str) (s : Sto) (h : xs.length + ys.length ≤ lim) : dAddT (.lst (xs.map D.str)) (.lst (ys.map D.str)) s = .ok (.lst ((xs ++ ys).map D.str)) s := by
  show dAdd (.lst (xs.map D.str)) (.lst (ys.map D.str)) s = _
  unfold dAdd
  simp only [asL]
  rw [if_pos (by rw [List.length_map, List.length_map]; exact h), List.map_append]
theorem mul_str (z : Str) (b : Bool) (s : Sto) : dMul (.lst [.str z]) (.int (if b = true then 1 else 0)) s = .ok (.lst ((if b = true then [z] else []).map D.str)) s := by
  cases b <;> rfl
theorem first_words {s t : Sto} {n b : Nat} (h : Kp s t n b) (hb : b + 10 ≤ 1000000000000) :
    ∃ t1 ws, sSeq S_l_plan_1 S_l_plan_2 [some (.ref n), none, none, none, none] t = .go .nx [some (.ref n), some (.lst (ws.map D.str)), none, none, none] t1 ∧ Kp s t1 n (b + 2) ∧ Wd ws 4 := by
  obtain ⟨v, t1, h1, h2, h3, h4⟩ := take_kp 2 h (by omega) (by decide) (by decide)
  obtain ⟨u, t2, k1, k2, k3, k4⟩ := take_kp 4 h4 (by omega) (by decide) (by decide)
  have m1 := mul_str (Str.ofString "check") (v == 0) t1
  have m2 := mul_str (Str.ofString "follow") (u == 0) t2
  have w1 : Wd (if (v == 0) = true then [Str.ofString "check"] else []) 1 := by
    split
    · exact ⟨by decide, by decide +kernel⟩
    · exact ⟨by decide, fun _ h => by cases h⟩
  have w2 : Wd (if (u == 0) = true then [Str.ofString "follow"] else []) 1 := by
    split
    · exact ⟨by decide, by decide +kernel⟩
    · exact ⟨by decide, fun _ h => by cases h⟩
  generalize (if (v == 0) = true then [Str.ofString "check"] else []) = A at m1 w1
  generalize (if (u == 0) = true then [Str.ofString "follow"] else []) = B at m2 w2
  have l1 := w1.1
  have l2 := w2.1
  have a1 := add_strs [Str.ofString "effect", Str.ofString "finish"] A t1 (by show 2 + A.length ≤ 1000000; omega)
  have a2 := add_strs ([Str.ofString "effect", Str.ofString "finish"] ++ A) B t2 (by rw [List.length_append]; show 2 + A.length + B.length ≤ 1000000; omega)
  have w0 : ∀ w ∈ [Str.ofString "effect", Str.ofString "finish"], w ∈ wd4 := by decide +kernel
  have w3 : Wd ([Str.ofString "effect", Str.ofString "finish"] ++ A) 3 := by
    refine ⟨by simp only [List.length_append, List.length_cons, List.length_nil]; omega, fun w hw => ?_⟩
    rcases List.mem_append.mp hw with hw | hw
    · exact w0 w hw
    · exact w1.2 w hw
  generalize [Str.ofString "effect", Str.ofString "finish"] ++ A = C at a1 a2 w3
  have w4 : Wd (C ++ B) 4 := by
    refine ⟨by have := w3.1; rw [List.length_append]; omega, fun w hw => ?_⟩
    rcases List.mem_append.mp hw with hw | hw
    · exact w3.2 w hw
    · exact w2.2 w hw
  generalize C ++ B = E at a2 w4
  refine ⟨t2, E, ?_, k4, w4⟩
  · unfold S_l_plan_1 S_l_plan_2
    have e1 : ([Str.ofString "effect", Str.ofString "finish"] : List Str).map D.str = [.str "effect", .str "finish"] := rfl
    rw [e1] at a1
    simp only [e_bnd, ↓e_bok, e_bexc, e_ret, e_nox, ↓e_nok, e_cst, e_yes, e_m2, e_m1, e_tst, e_chn, e_and, e_or, e_not, e_vand, e_vor, e_vnot, e_mif, e_anil, e_acons, e_mC, e_call, e_mM, e_sl, e_ono, e_oso, e_dic1, ↓k_tst, ↓k_chnT, ↓k_chnF, ↓k_andT, ↓k_andF, ↓k_orT, ↓k_orF, ↓k_not, ↓k_oso, ↓k_asg, e_seq, ↓e_snx, ↓e_srt, ↓e_sbk, ↓e_sct, ↓e_lok, e_nxs, e_bks, e_cts, e_ex, e_rt, e_set, e_if, e_par, e_asg, f_setix, f_augix, e_sFor, e_forfix, e_src, e_rng1, e_enum, e_lc, e_cmpfix, f_get, ↓f_oo, ↓f_o1, f_ixR, f_ixO, f_ixL, f_ixSl, f_ixT, f_lenR, f_lenO, f_augR, f_setR, f_setO, f_goO, f_run, ↓f_rt, ↓f_nx, v_lenL, v_lenT, v_lenSl, v_addI, v_addII, v_sub, v_neg, v_eqI, v_eqS, v_eqB, v_neI, v_neS, v_lt, v_le, v_gt, v_ge, at_lit, ix_lit', Option.map_some, List.map_cons, List.map_nil, List.length_cons, List.length_nil, List.length_map, List.cons_append, List.nil_append, List.replicate, List.getElem?_cons_zero, List.getElem?_cons_succ, List.set_cons_zero, List.set_cons_succ, List.set_set, f_isi, f_isiO, f_isiB, v_slL, v_slSl, v_abs, v_max, v_min, v_kF, v_srcL, v_srcS, decide_true, decide_false, ↓reduceIte, Bool.false_eq_true, Bool.true_eq_false, Bool.not_true, Bool.not_false, Nat.reduceAdd, Nat.reduceSub, Nat.reduceLT, ↓u_oS, u_mul, u_mulS, u_div, u_mod, u_addS, u_slS, u_ixS, u_lenS, u_str, u_kLst, u_kTup, u_kLstS, u_rng, u_upper, u_tNm, u_tTup, u_tNil, u_tCns, ↓u_tcR, f_isTS, wipeD, beq_self_eq_true, and_self, true_and, and_true, Int.reduceLT, Nat.reduceLeDiff, Int.reduceLE, Int.reduceNeg, Int.reduceToNat, Int.reduceAdd, g_src, ↓g_srcO, g_enu, ↓g_enuO, g_isT, ↓g_isTO, g_app, ↓g_appO, g_rev, ↓g_revO, g_lis, ↓g_lisO, g_kS, g_LR, g_kLR, h_fld, h_prop, h_meth, h_callO, h_mk, h_isi, h_gfld, h_gprop, h_gisi, h_isC, h_kMeth, ↓h_methR, h_kCallO, ↓h_notR, h_arN, h_tLst, h_asgH, h_srcT, h_max, h_min, e_fz, e_fzF, f_aug, ↓f_augK, h_mkS, k_mkS, k_mkST, e_fmt, e_js, k_js, e_js0, q_callK, q_strO, q_reprO, q_isCint, q_isCbl, q_isCstr, q_isCtup, q_isClst, q_isCnon, q_intB, q_intI, li_0, li_1, li_2, li_3, li_4, li_5, li_6, li_7, li_8, li_9, li_10, li_11, li_12, li_13, List.set, h1, k1, m1, m2, a1, a2]

def lD (ws : List Str) : D := .lst (ws.map D.str)
theorem frz_strs (n : Nat) (s : Sto) (f : Nat) (ws : List Str) : allM (frz n s (f + 1)) (ws.map D.str) = some (ws.map D.str) := allM_map fun x _ => rfl
theorem frz_parts {s t : Sto} {n b : Nat} {tu : List Str} {Ls : List (List Str)} (h : Kp s t n b) : allM (frz s.length (t ++ tl s tu Ls) 19) (rfs (s.length + 2) Ls.length) = some (Ls.map lD) := by
  have : allM (frz s.length (t ++ tl s tu Ls) 19) (rfs (s.length + 2) Ls.length) = some ((List.range Ls.length).map fun i => lD (Ls[i]?.getD [])) := by
    unfold rfs
    refine allM_map fun i hi => ?_
    have hlt := List.mem_range.mp hi
    unfold frz
    simp only
    rw [if_neg (by omega)]
    simp only [gi h, List.getElem?_eq_getElem hlt, Option.map_some, lO, frz_strs, Option.getD_some]
    rfl
  rw [this, rng_get]
theorem allM_cons {α β : Type} {f : α → Option β} {x : α} {xs : List α} {y : β} {ys : List β} (h : f x = some y) (hs : allM f xs = some ys) : allM f (x :: xs) = some (y :: ys) := by
  unfold allM
  rw [h, hs]
theorem seq_assoc (a b c : SM) (σ : EV) (s : Sto) : sSeq (sSeq a b) c σ s = sSeq a (sSeq b c) σ s := by
  unfold sSeq
  cases a σ s with
  | go fl σ' s' => cases fl <;> rfl
  | exc _ _ _ _ => rfl
  | bad => rfl
theorem l_plan_ok {s : Sto} {n b : Nat} (h : Bag s n b) (hb : b + 20 ≤ 1000000000000) : ∃ t Ls, m_l_plan [.ref n] s = .ok (.lst (.lst [.str "take"] :: Ls.map lD)) t ∧ Kp s t n (b + 10) ∧ PW Ls 4 := by
  obtain ⟨t1, ws, e1, k1, d1⟩ := first_words (Kp.refl h) (by omega)
  have hl1 := d1.1
  have e3 : S_l_plan_3 [some (.ref n), some (.lst (ws.map D.str)), none, none, none] t1 = .go .nx [some (.ref n), some (.lst (ws.map D.str)), none, some (.ref s.length), some (.ref (s.length + 1))] (t1 ++ tl s [] []) := by
    unfold S_l_plan_3
    have hlen : t1.length = s.length := k1.len
    simp only [e_bnd, ↓e_bok, e_bexc, e_ret, e_nox, ↓e_nok, e_cst, e_yes, e_m2, e_m1, e_tst, e_chn, e_and, e_or, e_not, e_vand, e_vor, e_vnot, e_mif, e_anil, e_acons, e_mC, e_call, e_mM, e_sl, e_ono, e_oso, e_dic1, ↓k_tst, ↓k_chnT, ↓k_chnF, ↓k_andT, ↓k_andF, ↓k_orT, ↓k_orF, ↓k_not, ↓k_oso, ↓k_asg, e_seq, ↓e_snx, ↓e_srt, ↓e_sbk, ↓e_sct, ↓e_lok, e_nxs, e_bks, e_cts, e_ex, e_rt, e_set, e_if, e_par, e_asg, f_setix, f_augix, e_sFor, e_forfix, e_src, e_rng1, e_enum, e_lc, e_cmpfix, f_get, ↓f_oo, ↓f_o1, f_ixR, f_ixO, f_ixL, f_ixSl, f_ixT, f_lenR, f_lenO, f_augR, f_setR, f_setO, f_goO, f_run, ↓f_rt, ↓f_nx, v_lenL, v_lenT, v_lenSl, v_addI, v_addII, v_sub, v_neg, v_eqI, v_eqS, v_eqB, v_neI, v_neS, v_lt, v_le, v_gt, v_ge, at_lit, ix_lit', Option.map_some, List.map_cons, List.map_nil, List.length_cons, List.length_nil, List.length_map, List.cons_append, List.nil_append, List.replicate, List.getElem?_cons_zero, List.getElem?_cons_succ, List.set_cons_zero, List.set_cons_succ, List.set_set, f_isi, f_isiO, f_isiB, v_slL, v_slSl, v_abs, v_max, v_min, v_kF, v_srcL, v_srcS, decide_true, decide_false, ↓reduceIte, Bool.false_eq_true, Bool.true_eq_false, Bool.not_true, Bool.not_false, Nat.reduceAdd, Nat.reduceSub, Nat.reduceLT, ↓u_oS, u_mul, u_mulS, u_div, u_mod, u_addS, u_addL, u_slS, u_ixS, u_lenS, u_str, u_kLst, u_kTup, u_kLstS, u_rng, u_upper, u_tNm, u_tTup, u_tNil, u_tCns, ↓u_tcR, f_isTS, wipeD, beq_self_eq_true, and_self, true_and, and_true, Int.reduceLT, Nat.reduceLeDiff, Int.reduceLE, Int.reduceNeg, Int.reduceToNat, Int.reduceAdd, g_src, ↓g_srcO, g_enu, ↓g_enuO, g_isT, ↓g_isTO, g_app, ↓g_appO, g_rev, ↓g_revO, g_lis, ↓g_lisO, g_kS, g_LR, g_kLR, h_fld, h_prop, h_meth, h_callO, h_mk, h_isi, h_gfld, h_gprop, h_gisi, h_isC, h_kMeth, ↓h_methR, h_kCallO, ↓h_notR, h_arN, h_tLst, h_asgH, h_srcT, h_max, h_min, e_fz, e_fzF, f_aug, ↓f_augK, h_mkS, k_mkS, k_mkST, e_fmt, e_js, k_js, e_js0, q_callK, q_strO, q_reprO, q_isCint, q_isCbl, q_isCstr, q_isCtup, q_isClst, q_isCnon, q_intB, q_intI, li_0, li_1, li_2, li_3, li_4, li_5, li_6, li_7, li_8, li_9, li_10, li_11, li_12, li_13, kNew, List.set, List.length_append, hlen, List.append_assoc]
    rfl
  obtain ⟨t2, tu, x2, e4, k2, d2⟩ := ins_loop (WS := .lst (ws.map D.str)) (s := s) [.lst []] ws t1 (b + 2) [] none 0 k1 (by omega) ⟨Nat.zero_le _, fun _ hv => by cases hv⟩ (by omega) d1.2
  have e4' : S_l_plan_4 [some (.ref n), some (.lst (ws.map D.str)), none, some (.ref s.length), some (.ref (s.length + 1))] (t1 ++ tl s [] []) = .go .nx [some (.ref n), some (.lst (ws.map D.str)), x2, some (.ref s.length), some (.ref (s.length + 1))] (t2 ++ tl s tu []) := by
    unfold S_l_plan_4
    simp only [e_bnd, ↓e_bok, e_bexc, e_ret, e_nox, ↓e_nok, e_cst, e_yes, e_m2, e_m1, e_tst, e_chn, e_and, e_or, e_not, e_vand, e_vor, e_vnot, e_mif, e_anil, e_acons, e_mC, e_call, e_mM, e_sl, e_ono, e_oso, e_dic1, ↓k_tst, ↓k_chnT, ↓k_chnF, ↓k_andT, ↓k_andF, ↓k_orT, ↓k_orF, ↓k_not, ↓k_oso, ↓k_asg, e_seq, ↓e_snx, ↓e_srt, ↓e_sbk, ↓e_sct, ↓e_lok, e_nxs, e_bks, e_cts, e_ex, e_rt, e_set, e_if, e_par, e_asg, f_setix, f_augix, e_sFor, e_forfix, e_src, e_rng1, e_enum, e_lc, e_cmpfix, f_get, ↓f_oo, ↓f_o1, f_ixR, f_ixO, f_ixL, f_ixSl, f_ixT, f_lenR, f_lenO, f_augR, f_setR, f_setO, f_goO, f_run, ↓f_rt, ↓f_nx, v_lenL, v_lenT, v_lenSl, v_addI, v_addII, v_sub, v_neg, v_eqI, v_eqS, v_eqB, v_neI, v_neS, v_lt, v_le, v_gt, v_ge, at_lit, ix_lit', Option.map_some, List.map_cons, List.map_nil, List.length_cons, List.length_nil, List.length_map, List.cons_append, List.nil_append, List.replicate, List.getElem?_cons_zero, List.getElem?_cons_succ, List.set_cons_zero, List.set_cons_succ, List.set_set, f_isi, f_isiO, f_isiB, v_slL, v_slSl, v_abs, v_max, v_min, v_kF, v_srcL, v_srcS, decide_true, decide_false, ↓reduceIte, Bool.false_eq_true, Bool.true_eq_false, Bool.not_true, Bool.not_false, Nat.reduceAdd, Nat.reduceSub, Nat.reduceLT, ↓u_oS, u_mul, u_mulS, u_div, u_mod, u_addS, u_addL, u_slS, u_ixS, u_lenS, u_str, u_kLst, u_kTup, u_kLstS, u_rng, u_upper, u_tNm, u_tTup, u_tNil, u_tCns, ↓u_tcR, f_isTS, wipeD, beq_self_eq_true, and_self, true_and, and_true, Int.reduceLT, Nat.reduceLeDiff, Int.reduceLE, Int.reduceNeg, Int.reduceToNat, Int.reduceAdd, g_src, ↓g_srcO, g_enu, ↓g_enuO, g_isT, ↓g_isTO, g_app, ↓g_appO, g_rev, ↓g_revO, g_lis, ↓g_lisO, g_kS, g_LR, g_kLR, h_fld, h_prop, h_meth, h_callO, h_mk, h_isi, h_gfld, h_gprop, h_gisi, h_isC, h_kMeth, ↓h_methR, h_kCallO, ↓h_notR, h_arN, h_tLst, h_asgH, h_srcT, h_max, h_min, e_fz, e_fzF, f_aug, ↓f_augK, h_mkS, k_mkS, k_mkST, e_fmt, e_js, k_js, e_js0, q_callK, q_strO, q_reprO, q_isCint, q_isCbl, q_isCstr, q_isCtup, q_isClst, q_isCnon, q_intB, q_intI]
    exact e4
  rw [Nat.zero_add] at d2
  have hl2 := d2.1
  obtain ⟨t3, Ls, z3, e6, k3, p3⟩ := part_loop (y := some (.lst (ws.map D.str))) (z := x2) k2 (by omega) d2 (by omega)
  refine ⟨t3, Ls, ?_, k3.more (by omega), ⟨by have := p3.len; omega, fun v hv => ⟨by have := (p3.ws v hv).1; omega, (p3.ws v hv).2⟩⟩⟩
  have g1 := gp (tu := tu) (Ls := Ls) k3
  have hpl := p3.len
  have ha : dAddT (.lst [.lst [.str "take"]]) (.ref (s.length + 1)) (t3 ++ tl s tu Ls) = .ok (.lst (.lst [.str "take"] :: rfs (s.length + 2) Ls.length)) (t3 ++ tl s tu Ls) := by
    show dAdd (.lst [.lst [.str "take"]]) (.ref (s.length + 1)) (t3 ++ tl s tu Ls) = _
    unfold dAdd
    simp only [asL, g1]
    rw [if_pos (by rw [rfs_len]; show 1 + Ls.length ≤ 1000000; omega)]
    rfl
  have hf : frzR s (.ok (.lst (.lst [.str "take"] :: rfs (s.length + 2) Ls.length)) (t3 ++ tl s tu Ls)) = .ok (.lst (.lst [.str "take"] :: Ls.map lD)) t3 := by
    rw [frz_ok (d' := .lst (.lst [.str "take"] :: Ls.map lD)) (k3.keeps.app _) ?_, k3.take]
    have hm := allM_cons (f := frz s.length (t3 ++ tl s tu Ls) 19) (x := D.lst [.str "take"]) (y := D.lst [.str "take"]) rfl (frz_parts (tu := tu) k3)
    show (allM (frz s.length (t3 ++ tl s tu Ls) 19) (D.lst [.str "take"] :: rfs (s.length + 2) Ls.length)).map D.lst = _
    rw [hm]
    rfl
  have e10 : S_l_plan_10 [some (.ref n), some (.lst (ws.map D.str)), z3, some (.ref s.length), some (.ref (s.length + 1))] (t3 ++ tl s tu Ls) = .go (.rt (.lst (.lst [.str "take"] :: rfs (s.length + 2) Ls.length))) [some (.ref n), some (.lst (ws.map D.str)), z3, some (.ref s.length), some (.ref (s.length + 1))] (t3 ++ tl s tu Ls) := by
    unfold S_l_plan_10
    simp only [e_bnd, ↓e_bok, e_bexc, e_ret, e_nox, ↓e_nok, e_cst, e_yes, e_m2, e_m1, e_tst, e_chn, e_and, e_or, e_not, e_vand, e_vor, e_vnot, e_mif, e_anil, e_acons, e_mC, e_call, e_mM, e_sl, e_ono, e_oso, e_dic1, ↓k_tst, ↓k_chnT, ↓k_chnF, ↓k_andT, ↓k_andF, ↓k_orT, ↓k_orF, ↓k_not, ↓k_oso, ↓k_asg, e_seq, ↓e_snx, ↓e_srt, ↓e_sbk, ↓e_sct, ↓e_lok, e_nxs, e_bks, e_cts, e_ex, e_rt, e_set, e_if, e_par, e_asg, f_setix, f_augix, e_sFor, e_forfix, e_src, e_rng1, e_enum, e_lc, e_cmpfix, f_get, ↓f_oo, ↓f_o1, f_ixR, f_ixO, f_ixL, f_ixSl, f_ixT, f_lenR, f_lenO, f_augR, f_setR, f_setO, f_goO, f_run, ↓f_rt, ↓f_nx, v_lenL, v_lenT, v_lenSl, v_addI, v_addII, v_sub, v_neg, v_eqI, v_eqS, v_eqB, v_neI, v_neS, v_lt, v_le, v_gt, v_ge, at_lit, ix_lit', Option.map_some, List.map_cons, List.map_nil, List.length_cons, List.length_nil, List.length_map, List.cons_append, List.nil_append, List.replicate, List.getElem?_cons_zero, List.getElem?_cons_succ, List.set_cons_zero, List.set_cons_succ, List.set_set, f_isi, f_isiO, f_isiB, v_slL, v_slSl, v_abs, v_max, v_min, v_kF, v_srcL, v_srcS, decide_true, decide_false, ↓reduceIte, Bool.false_eq_true, Bool.true_eq_false, Bool.not_true, Bool.not_false, Nat.reduceAdd, Nat.reduceSub, Nat.reduceLT, ↓u_oS, u_mul, u_mulS, u_div, u_mod, u_addS, u_slS, u_ixS, u_lenS, u_str, u_kLst, u_kTup, u_kLstS, u_rng, u_upper, u_tNm, u_tTup, u_tNil, u_tCns, ↓u_tcR, f_isTS, wipeD, beq_self_eq_true, and_self, true_and, and_true, Int.reduceLT, Nat.reduceLeDiff, Int.reduceLE, Int.reduceNeg, Int.reduceToNat, Int.reduceAdd, g_src, ↓g_srcO, g_enu, ↓g_enuO, g_isT, ↓g_isTO, g_app, ↓g_appO, g_rev, ↓g_revO, g_lis, ↓g_lisO, g_kS, g_LR, g_kLR, h_fld, h_prop, h_meth, h_callO, h_mk, h_isi, h_gfld, h_gprop, h_gisi, h_isC, h_kMeth, ↓h_methR, h_kCallO, ↓h_notR, h_arN, h_tLst, h_asgH, h_srcT, h_max, h_min, e_fz, e_fzF, f_aug, ↓f_augK, h_mkS, k_mkS, k_mkST, e_fmt, e_js, k_js, e_js0, q_callK, q_strO, q_reprO, q_isCint, q_isCbl, q_isCstr, q_isCtup, q_isClst, q_isCnon, q_intB, q_intI, li_0, li_1, li_2, li_3, li_4, li_5, li_6, li_7, li_8, li_9, li_10, li_11, li_12, li_13, ha]
  have ea : sSeq S_l_plan_1 (sSeq S_l_plan_2 (sSeq S_l_plan_3 (sSeq S_l_plan_4 (sSeq S_l_plan_6 S_l_plan_10)))) [some (.ref n), none, none, none, none] s = .go (.rt (.lst (.lst [.str "take"] :: rfs (s.length + 2) Ls.length))) [some (.ref n), some (.lst (ws.map D.str)), z3, some (.ref s.length), some (.ref (s.length + 1))] (t3 ++ tl s tu Ls) := by
    rw [← seq_assoc]
    generalize sSeq S_l_plan_1 S_l_plan_2 = A at e1 ⊢
    simp only [e_bnd, ↓e_bok, e_bexc, e_ret, e_nox, ↓e_nok, e_cst, e_yes, e_m2, e_m1, e_tst, e_chn, e_and, e_or, e_not, e_vand, e_vor, e_vnot, e_mif, e_anil, e_acons, e_mC, e_call, e_mM, e_sl, e_ono, e_oso, e_dic1, ↓k_tst, ↓k_chnT, ↓k_chnF, ↓k_andT, ↓k_andF, ↓k_orT, ↓k_orF, ↓k_not, ↓k_oso, ↓k_asg, e_seq, ↓e_snx, ↓e_srt, ↓e_sbk, ↓e_sct, ↓e_lok, e_nxs, e_bks, e_cts, e_ex, e_rt, e_set, e_if, e_par, e_asg, f_setix, f_augix, e_sFor, e_forfix, e_src, e_rng1, e_enum, e_lc, e_cmpfix, f_get, ↓f_oo, ↓f_o1, f_ixR, f_ixO, f_ixL, f_ixSl, f_ixT, f_lenR, f_lenO, f_augR, f_setR, f_setO, f_goO, f_run, ↓f_rt, ↓f_nx, v_lenL, v_lenT, v_lenSl, v_addI, v_addII, v_sub, v_neg, v_eqI, v_eqS, v_eqB, v_neI, v_neS, v_lt, v_le, v_gt, v_ge, at_lit, ix_lit', Option.map_some, List.map_cons, List.map_nil, List.length_cons, List.length_nil, List.length_map, List.cons_append, List.nil_append, List.replicate, List.getElem?_cons_zero, List.getElem?_cons_succ, List.set_cons_zero, List.set_cons_succ, List.set_set, f_isi, f_isiO, f_isiB, v_slL, v_slSl, v_abs, v_max, v_min, v_kF, v_srcL, v_srcS, decide_true, decide_false, ↓reduceIte, Bool.false_eq_true, Bool.true_eq_false, Bool.not_true, Bool.not_false, Nat.reduceAdd, Nat.reduceSub, Nat.reduceLT, ↓u_oS, u_mul, u_mulS, u_div, u_mod, u_addS, u_addL, u_slS, u_ixS, u_lenS, u_str, u_kLst, u_kTup, u_kLstS, u_rng, u_upper, u_tNm, u_tTup, u_tNil, u_tCns, ↓u_tcR, f_isTS, wipeD, beq_self_eq_true, and_self, true_and, and_true, Int.reduceLT, Nat.reduceLeDiff, Int.reduceLE, Int.reduceNeg, Int.reduceToNat, Int.reduceAdd, g_src, ↓g_srcO, g_enu, ↓g_enuO, g_isT, ↓g_isTO, g_app, ↓g_appO, g_rev, ↓g_revO, g_lis, ↓g_lisO, g_kS, g_LR, g_kLR, h_fld, h_prop, h_meth, h_callO, h_mk, h_isi, h_gfld, h_gprop, h_gisi, h_isC, h_kMeth, ↓h_methR, h_kCallO, ↓h_notR, h_arN, h_tLst, h_asgH, h_srcT, h_max, h_min, e_fz, e_fzF, f_aug, ↓f_augK, h_mkS, k_mkS, k_mkST, e_fmt, e_js, k_js, e_js0, q_callK, q_strO, q_reprO, q_isCint, q_isCbl, q_isCstr, q_isCtup, q_isClst, q_isCnon, q_intB, q_intI, e1, e3, e4', e6, e10]
  unfold m_l_plan B_l_plan
  generalize sSeq S_l_plan_1 (sSeq S_l_plan_2 (sSeq S_l_plan_3 (sSeq S_l_plan_4 (sSeq S_l_plan_6 S_l_plan_10)))) = BB at ea ⊢
  simp only [e_bnd, ↓e_bok, e_bexc, e_ret, e_nox, ↓e_nok, e_cst, e_yes, e_m2, e_m1, e_tst, e_chn, e_and, e_or, e_not, e_vand, e_vor, e_vnot, e_mif, e_anil, e_acons, e_mC, e_call, e_mM, e_sl, e_ono, e_oso, e_dic1, ↓k_tst, ↓k_chnT, ↓k_chnF, ↓k_andT, ↓k_andF, ↓k_orT, ↓k_orF, ↓k_not, ↓k_oso, ↓k_asg, e_seq, ↓e_snx, ↓e_srt, ↓e_sbk, ↓e_sct, ↓e_lok, e_nxs, e_bks, e_cts, e_ex, e_rt, e_set, e_if, e_par, e_asg, f_setix, f_augix, e_sFor, e_forfix, e_src, e_rng1, e_enum, e_lc, e_cmpfix, f_get, ↓f_oo, ↓f_o1, f_ixR, f_ixO, f_ixL, f_ixSl, f_ixT, f_lenR, f_lenO, f_augR, f_setR, f_setO, f_goO, f_run, ↓f_rt, ↓f_nx, v_lenL, v_lenT, v_lenSl, v_addI, v_addII, v_sub, v_neg, v_eqI, v_eqS, v_eqB, v_neI, v_neS, v_lt, v_le, v_gt, v_ge, at_lit, ix_lit', Option.map_some, List.map_cons, List.map_nil, List.length_cons, List.length_nil, List.length_map, List.cons_append, List.nil_append, List.replicate, List.getElem?_cons_zero, List.getElem?_cons_succ, List.set_cons_zero, List.set_cons_succ, List.set_set, f_isi, f_isiO, f_isiB, v_slL, v_slSl, v_abs, v_max, v_min, v_kF, v_srcL, v_srcS, decide_true, decide_false, ↓reduceIte, Bool.false_eq_true, Bool.true_eq_false, Bool.not_true, Bool.not_false, Nat.reduceAdd, Nat.reduceSub, Nat.reduceLT, ↓u_oS, u_mul, u_mulS, u_div, u_mod, u_addS, u_addL, u_slS, u_ixS, u_lenS, u_str, u_kLst, u_kTup, u_kLstS, u_rng, u_upper, u_tNm, u_tTup, u_tNil, u_tCns, ↓u_tcR, f_isTS, wipeD, beq_self_eq_true, and_self, true_and, and_true, Int.reduceLT, Nat.reduceLeDiff, Int.reduceLE, Int.reduceNeg, Int.reduceToNat, Int.reduceAdd, g_src, ↓g_srcO, g_enu, ↓g_enuO, g_isT, ↓g_isTO, g_app, ↓g_appO, g_rev, ↓g_revO, g_lis, ↓g_lisO, g_kS, g_LR, g_kLR, h_fld, h_prop, h_meth, h_callO, h_mk, h_isi, h_gfld, h_gprop, h_gisi, h_isC, h_kMeth, ↓h_methR, h_kCallO, ↓h_notR, h_arN, h_tLst, h_asgH, h_srcT, h_max, h_min, e_fz, e_fzF, f_aug, ↓f_augK, h_mkS, k_mkS, k_mkST, e_fmt, e_js, k_js, e_js0, q_callK, q_strO, q_reprO, q_isCint, q_isCbl, q_isCstr, q_isCtup, q_isClst, q_isCnon, q_intB, q_intI, ea, hf]

/-! ### place_of -/
def tD (ws : List Str) : D := .tup (ws.map D.str)
def fst1 (p : List Str → Bool) : Nat → List (List Str) → Option Nat
  | _, [] => none
  | k, x :: xs => if p x = true then some k else fst1 p (k + 1) xs
def oD : Option Nat → D
  | some i => .int (i : Nat)
  | none => .non
theorem in_tD (w : Str) (ws : List Str) (s : Sto) : dInD (.str w) (tD ws) s = .ok (.bl (decide (w ∈ ws))) s := by
  unfold dInD isInD isIn tD
  simp only [allM_map_str]
theorem place_loop {s : Sto} {w : Str} {P : D} : ∀ (Qs : List (List Str)) (k : Nat) (x y : Option D),
    ∃ σ, forL (bdy (tTup (tCns (tNm 2) (tCns (tNm 3) tNil))) S_place_of_2) (Qs.mapIdx fun i ws => .tup [.int ((i + k : Nat) : Int), tD ws]) [some P, some (.str w), x, y] s = .go (match fst1 (fun ws => decide (w ∈ ws)) k Qs with | some i => .rt (.int (i : Nat)) | none => .nx) σ s
  | [], k, x, y => ⟨_, rfl⟩
  | q :: Qs, k, x, y => by
    have hin := in_tD w q s
    have hb : bdy (tTup (tCns (tNm 2) (tCns (tNm 3) tNil))) S_place_of_2 (.tup [.int ((0 + k : Nat) : Int), tD q]) [some P, some (.str w), x, y] s = .go (if decide (w ∈ q) = true then .rt (.int (k : Nat)) else .nx) [some P, some (.str w), some (.int (k : Nat)), some (tD q)] s := by
      rw [Nat.zero_add]
      unfold bdy S_place_of_2
      cases hq : decide (w ∈ q) with
      | true =>
        rw [hq] at hin
        simp only [e_bnd, ↓e_bok, e_bexc, e_ret, e_nox, ↓e_nok, e_cst, e_yes, e_m2, e_m1, e_tst, e_chn, e_and, e_or, e_not, e_vand, e_vor, e_vnot, e_mif, e_anil, e_acons, e_mC, e_call, e_mM, e_sl, e_ono, e_oso, e_dic1, ↓k_tst, ↓k_chnT, ↓k_chnF, ↓k_andT, ↓k_andF, ↓k_orT, ↓k_orF, ↓k_not, ↓k_oso, ↓k_asg, e_seq, ↓e_snx, ↓e_srt, ↓e_sbk, ↓e_sct, ↓e_lok, e_nxs, e_bks, e_cts, e_ex, e_rt, e_set, e_if, e_par, e_asg, f_setix, f_augix, e_sFor, e_forfix, e_src, e_rng1, e_enum, e_lc, e_cmpfix, f_get, ↓f_oo, ↓f_o1, f_ixR, f_ixO, f_ixL, f_ixSl, f_ixT, f_lenR, f_lenO, f_augR, f_setR, f_setO, f_goO, f_run, ↓f_rt, ↓f_nx, v_lenL, v_lenT, v_lenSl, v_addI, v_addII, v_sub, v_neg, v_eqI, v_eqS, v_eqB, v_neI, v_neS, v_lt, v_le, v_gt, v_ge, at_lit, ix_lit', Option.map_some, List.map_cons, List.map_nil, List.length_cons, List.length_nil, List.length_map, List.cons_append, List.nil_append, List.replicate, List.getElem?_cons_zero, List.getElem?_cons_succ, List.set_cons_zero, List.set_cons_succ, List.set_set, f_isi, f_isiO, f_isiB, v_slL, v_slSl, v_abs, v_max, v_min, v_kF, v_srcL, v_srcS, decide_true, decide_false, ↓reduceIte, Bool.false_eq_true, Bool.true_eq_false, Bool.not_true, Bool.not_false, Nat.reduceAdd, Nat.reduceSub, Nat.reduceLT, ↓u_oS, u_mul, u_mulS, u_div, u_mod, u_addS, u_addL, u_slS, u_ixS, u_lenS, u_str, u_kLst, u_kTup, u_kLstS, u_rng, u_upper, u_tNm, u_tTup, u_tNil, u_tCns, ↓u_tcR, f_isTS, wipeD, beq_self_eq_true, and_self, true_and, and_true, Int.reduceLT, Nat.reduceLeDiff, Int.reduceLE, Int.reduceNeg, Int.reduceToNat, Int.reduceAdd, g_src, ↓g_srcO, g_enu, ↓g_enuO, g_isT, ↓g_isTO, g_app, ↓g_appO, g_rev, ↓g_revO, g_lis, ↓g_lisO, g_kS, g_LR, g_kLR, h_fld, h_prop, h_meth, h_callO, h_mk, h_isi, h_gfld, h_gprop, h_gisi, h_isC, h_kMeth, ↓h_methR, h_kCallO, ↓h_notR, h_arN, h_tLst, h_asgH, h_srcT, h_max, h_min, e_fz, e_fzF, f_aug, ↓f_augK, h_mkS, k_mkS, k_mkST, e_fmt, e_js, k_js, e_js0, q_callK, q_strO, q_reprO, q_isCint, q_isCbl, q_isCstr, q_isCtup, q_isClst, q_isCnon, q_intB, q_intI, List.set, hin, S_place_of_3]
      | false =>
        rw [hq] at hin
        simp only [e_bnd, ↓e_bok, e_bexc, e_ret, e_nox, ↓e_nok, e_cst, e_yes, e_m2, e_m1, e_tst, e_chn, e_and, e_or, e_not, e_vand, e_vor, e_vnot, e_mif, e_anil, e_acons, e_mC, e_call, e_mM, e_sl, e_ono, e_oso, e_dic1, ↓k_tst, ↓k_chnT, ↓k_chnF, ↓k_andT, ↓k_andF, ↓k_orT, ↓k_orF, ↓k_not, ↓k_oso, ↓k_asg, e_seq, ↓e_snx, ↓e_srt, ↓e_sbk, ↓e_sct, ↓e_lok, e_nxs, e_bks, e_cts, e_ex, e_rt, e_set, e_if, e_par, e_asg, f_setix, f_augix, e_sFor, e_forfix, e_src, e_rng1, e_enum, e_lc, e_cmpfix, f_get, ↓f_oo, ↓f_o1, f_ixR, f_ixO, f_ixL, f_ixSl, f_ixT, f_lenR, f_lenO, f_augR, f_setR, f_setO, f_goO, f_run, ↓f_rt, ↓f_nx, v_lenL, v_lenT, v_lenSl, v_addI, v_addII, v_sub, v_neg, v_eqI, v_eqS, v_eqB, v_neI, v_neS, v_lt, v_le, v_gt, v_ge, at_lit, ix_lit', Option.map_some, List.map_cons, List.map_nil, List.length_cons, List.length_nil, List.length_map, List.cons_append, List.nil_append, List.replicate, List.getElem?_cons_zero, List.getElem?_cons_succ, List.set_cons_zero, List.set_cons_succ, List.set_set, f_isi, f_isiO, f_isiB, v_slL, v_slSl, v_abs, v_max, v_min, v_kF, v_srcL, v_srcS, decide_true, decide_false, ↓reduceIte, Bool.false_eq_true, Bool.true_eq_false, Bool.not_true, Bool.not_false, Nat.reduceAdd, Nat.reduceSub, Nat.reduceLT, ↓u_oS, u_mul, u_mulS, u_div, u_mod, u_addS, u_addL, u_slS, u_ixS, u_lenS, u_str, u_kLst, u_kTup, u_kLstS, u_rng, u_upper, u_tNm, u_tTup, u_tNil, u_tCns, ↓u_tcR, f_isTS, wipeD, beq_self_eq_true, and_self, true_and, and_true, Int.reduceLT, Nat.reduceLeDiff, Int.reduceLE, Int.reduceNeg, Int.reduceToNat, Int.reduceAdd, g_src, ↓g_srcO, g_enu, ↓g_enuO, g_isT, ↓g_isTO, g_app, ↓g_appO, g_rev, ↓g_revO, g_lis, ↓g_lisO, g_kS, g_LR, g_kLR, h_fld, h_prop, h_meth, h_callO, h_mk, h_isi, h_gfld, h_gprop, h_gisi, h_isC, h_kMeth, ↓h_methR, h_kCallO, ↓h_notR, h_arN, h_tLst, h_asgH, h_srcT, h_max, h_min, e_fz, e_fzF, f_aug, ↓f_augK, h_mkS, k_mkS, k_mkST, e_fmt, e_js, k_js, e_js0, q_callK, q_strO, q_reprO, q_isCint, q_isCbl, q_isCstr, q_isCtup, q_isClst, q_isCnon, q_intB, q_intI, List.set, hin, S_place_of_3]
    rw [List.mapIdx_cons]
    unfold forL fst1
    rw [hb]
    cases hq : decide (w ∈ q) with
    | true => exact ⟨_, rfl⟩
    | false =>
      obtain ⟨σ, h⟩ := place_loop (s := s) (w := w) (P := P) Qs (k + 1) (some (.int (k : Nat))) (some (tD q))
      refine ⟨σ, ?_⟩
      have e : (fun i (ws : List Str) => D.tup [.int (((i + 1) + k : Nat) : Int), tD ws]) = fun i ws => D.tup [.int ((i + (k + 1) : Nat) : Int), tD ws] := by
        funext i ws
        rw [show i + 1 + k = i + (k + 1) by omega]
      simp only [e]
      exact h
theorem place_F {s : Sto} (Qs : List (List Str)) (w : Str) : m_place_of [.lst (Qs.map tD), .str w] s = .ok (oD (fst1 (fun ws => decide (w ∈ ws)) 0 Qs)) s := by
  obtain ⟨σ, h⟩ := place_loop (s := s) (w := w) (P := .lst (Qs.map tD)) Qs 0 none none
  have e1 : enumD (Qs.map tD) = Qs.mapIdx fun i ws => .tup [.int ((i + 0 : Nat) : Int), tD ws] := by
    unfold enumD
    apply List.ext_getElem?
    intro i
    rw [List.getElem?_mapIdx, List.getElem?_mapIdx, List.getElem?_map]
    cases Qs[i]? <;> rfl
  have h1 : S_place_of_1 [some (.lst (Qs.map tD)), some (.str w), none, none] s = .go (match fst1 (fun ws => decide (w ∈ ws)) 0 Qs with | some i => .rt (.int (i : Nat)) | none => .nx) σ s := by
    unfold S_place_of_1
    simp only [e_bnd, ↓e_bok, e_bexc, e_ret, e_nox, ↓e_nok, e_cst, e_yes, e_m2, e_m1, e_tst, e_chn, e_and, e_or, e_not, e_vand, e_vor, e_vnot, e_mif, e_anil, e_acons, e_mC, e_call, e_mM, e_sl, e_ono, e_oso, e_dic1, ↓k_tst, ↓k_chnT, ↓k_chnF, ↓k_andT, ↓k_andF, ↓k_orT, ↓k_orF, ↓k_not, ↓k_oso, ↓k_asg, e_seq, ↓e_snx, ↓e_srt, ↓e_sbk, ↓e_sct, ↓e_lok, e_nxs, e_bks, e_cts, e_ex, e_rt, e_set, e_if, e_par, e_asg, f_setix, f_augix, e_sFor, e_forfix, e_src, e_rng1, e_enum, e_lc, e_cmpfix, f_get, ↓f_oo, ↓f_o1, f_ixR, f_ixO, f_ixL, f_ixSl, f_ixT, f_lenR, f_lenO, f_augR, f_setR, f_setO, f_goO, f_run, ↓f_rt, ↓f_nx, v_lenL, v_lenT, v_lenSl, v_addI, v_addII, v_sub, v_neg, v_eqI, v_eqS, v_eqB, v_neI, v_neS, v_lt, v_le, v_gt, v_ge, at_lit, ix_lit', Option.map_some, List.map_cons, List.map_nil, List.length_cons, List.length_nil, List.length_map, List.cons_append, List.nil_append, List.replicate, List.getElem?_cons_zero, List.getElem?_cons_succ, List.set_cons_zero, List.set_cons_succ, List.set_set, f_isi, f_isiO, f_isiB, v_slL, v_slSl, v_abs, v_max, v_min, v_kF, v_srcL, v_srcS, decide_true, decide_false, ↓reduceIte, Bool.false_eq_true, Bool.true_eq_false, Bool.not_true, Bool.not_false, Nat.reduceAdd, Nat.reduceSub, Nat.reduceLT, ↓u_oS, u_mul, u_mulS, u_div, u_mod, u_addS, u_addL, u_slS, u_ixS, u_lenS, u_str, u_kLst, u_kTup, u_kLstS, u_rng, u_upper, u_tNm, u_tTup, u_tNil, u_tCns, ↓u_tcR, f_isTS, wipeD, beq_self_eq_true, and_self, true_and, and_true, Int.reduceLT, Nat.reduceLeDiff, Int.reduceLE, Int.reduceNeg, Int.reduceToNat, Int.reduceAdd, g_src, ↓g_srcO, g_enu, ↓g_enuO, g_isT, ↓g_isTO, g_app, ↓g_appO, g_rev, ↓g_revO, g_lis, ↓g_lisO, g_kS, g_LR, g_kLR, h_fld, h_prop, h_meth, h_callO, h_mk, h_isi, h_gfld, h_gprop, h_gisi, h_isC, h_kMeth, ↓h_methR, h_kCallO, ↓h_notR, h_arN, h_tLst, h_asgH, h_srcT, h_max, h_min, e_fz, e_fzF, f_aug, ↓f_augK, h_mkS, k_mkS, k_mkST, e_fmt, e_js, k_js, e_js0, q_callK, q_strO, q_reprO, q_isCint, q_isCbl, q_isCstr, q_isCtup, q_isClst, q_isCnon, q_intB, q_intI, kEnum]
    rw [e1]
    exact h
  unfold m_place_of B_place_of S_place_of_4
  cases hf : fst1 (fun ws => decide (w ∈ ws)) 0 Qs with
  | some i =>
    rw [hf] at h1
    simp only [e_bnd, ↓e_bok, e_bexc, e_ret, e_nox, ↓e_nok, e_cst, e_yes, e_m2, e_m1, e_tst, e_chn, e_and, e_or, e_not, e_vand, e_vor, e_vnot, e_mif, e_anil, e_acons, e_mC, e_call, e_mM, e_sl, e_ono, e_oso, e_dic1, ↓k_tst, ↓k_chnT, ↓k_chnF, ↓k_andT, ↓k_andF, ↓k_orT, ↓k_orF, ↓k_not, ↓k_oso, ↓k_asg, e_seq, ↓e_snx, ↓e_srt, ↓e_sbk, ↓e_sct, ↓e_lok, e_nxs, e_bks, e_cts, e_ex, e_rt, e_set, e_if, e_par, e_asg, f_setix, f_augix, e_sFor, e_forfix, e_src, e_rng1, e_enum, e_lc, e_cmpfix, f_get, ↓f_oo, ↓f_o1, f_ixR, f_ixO, f_ixL, f_ixSl, f_ixT, f_lenR, f_lenO, f_augR, f_setR, f_setO, f_goO, f_run, ↓f_rt, ↓f_nx, v_lenL, v_lenT, v_lenSl, v_addI, v_addII, v_sub, v_neg, v_eqI, v_eqS, v_eqB, v_neI, v_neS, v_lt, v_le, v_gt, v_ge, at_lit, ix_lit', Option.map_some, List.map_cons, List.map_nil, List.length_cons, List.length_nil, List.length_map, List.cons_append, List.nil_append, List.replicate, List.getElem?_cons_zero, List.getElem?_cons_succ, List.set_cons_zero, List.set_cons_succ, List.set_set, f_isi, f_isiO, f_isiB, v_slL, v_slSl, v_abs, v_max, v_min, v_kF, v_srcL, v_srcS, decide_true, decide_false, ↓reduceIte, Bool.false_eq_true, Bool.true_eq_false, Bool.not_true, Bool.not_false, Nat.reduceAdd, Nat.reduceSub, Nat.reduceLT, ↓u_oS, u_mul, u_mulS, u_div, u_mod, u_addS, u_addL, u_slS, u_ixS, u_lenS, u_str, u_kLst, u_kTup, u_kLstS, u_rng, u_upper, u_tNm, u_tTup, u_tNil, u_tCns, ↓u_tcR, f_isTS, wipeD, beq_self_eq_true, and_self, true_and, and_true, Int.reduceLT, Nat.reduceLeDiff, Int.reduceLE, Int.reduceNeg, Int.reduceToNat, Int.reduceAdd, g_src, ↓g_srcO, g_enu, ↓g_enuO, g_isT, ↓g_isTO, g_app, ↓g_appO, g_rev, ↓g_revO, g_lis, ↓g_lisO, g_kS, g_LR, g_kLR, h_fld, h_prop, h_meth, h_callO, h_mk, h_isi, h_gfld, h_gprop, h_gisi, h_isC, h_kMeth, ↓h_methR, h_kCallO, ↓h_notR, h_arN, h_tLst, h_asgH, h_srcT, h_max, h_min, e_fz, e_fzF, f_aug, ↓f_augK, h_mkS, k_mkS, k_mkST, e_fmt, e_js, k_js, e_js0, q_callK, q_strO, q_reprO, q_isCint, q_isCbl, q_isCstr, q_isCtup, q_isClst, q_isCnon, q_intB, q_intI, h1, oD]
  | none =>
    rw [hf] at h1
    simp only [e_bnd, ↓e_bok, e_bexc, e_ret, e_nox, ↓e_nok, e_cst, e_yes, e_m2, e_m1, e_tst, e_chn, e_and, e_or, e_not, e_vand, e_vor, e_vnot, e_mif, e_anil, e_acons, e_mC, e_call, e_mM, e_sl, e_ono, e_oso, e_dic1, ↓k_tst, ↓k_chnT, ↓k_chnF, ↓k_andT, ↓k_andF, ↓k_orT, ↓k_orF, ↓k_not, ↓k_oso, ↓k_asg, e_seq, ↓e_snx, ↓e_srt, ↓e_sbk, ↓e_sct, ↓e_lok, e_nxs, e_bks, e_cts, e_ex, e_rt, e_set, e_if, e_par, e_asg, f_setix, f_augix, e_sFor, e_forfix, e_src, e_rng1, e_enum, e_lc, e_cmpfix, f_get, ↓f_oo, ↓f_o1, f_ixR, f_ixO, f_ixL, f_ixSl, f_ixT, f_lenR, f_lenO, f_augR, f_setR, f_setO, f_goO, f_run, ↓f_rt, ↓f_nx, v_lenL, v_lenT, v_lenSl, v_addI, v_addII, v_sub, v_neg, v_eqI, v_eqS, v_eqB, v_neI, v_neS, v_lt, v_le, v_gt, v_ge, at_lit, ix_lit', Option.map_some, List.map_cons, List.map_nil, List.length_cons, List.length_nil, List.length_map, List.cons_append, List.nil_append, List.replicate, List.getElem?_cons_zero, List.getElem?_cons_succ, List.set_cons_zero, List.set_cons_succ, List.set_set, f_isi, f_isiO, f_isiB, v_slL, v_slSl, v_abs, v_max, v_min, v_kF, v_srcL, v_srcS, decide_true, decide_false, ↓reduceIte, Bool.false_eq_true, Bool.true_eq_false, Bool.not_true, Bool.not_false, Nat.reduceAdd, Nat.reduceSub, Nat.reduceLT, ↓u_oS, u_mul, u_mulS, u_div, u_mod, u_addS, u_addL, u_slS, u_ixS, u_lenS, u_str, u_kLst, u_kTup, u_kLstS, u_rng, u_upper, u_tNm, u_tTup, u_tNil, u_tCns, ↓u_tcR, f_isTS, wipeD, beq_self_eq_true, and_self, true_and, and_true, Int.reduceLT, Nat.reduceLeDiff, Int.reduceLE, Int.reduceNeg, Int.reduceToNat, Int.reduceAdd, g_src, ↓g_srcO, g_enu, ↓g_enuO, g_isT, ↓g_isTO, g_app, ↓g_appO, g_rev, ↓g_revO, g_lis, ↓g_lisO, g_kS, g_LR, g_kLR, h_fld, h_prop, h_meth, h_callO, h_mk, h_isi, h_gfld, h_gprop, h_gisi, h_isC, h_kMeth, ↓h_methR, h_kCallO, ↓h_notR, h_arN, h_tLst, h_asgH, h_srcT, h_max, h_min, e_fz, e_fzF, f_aug, ↓f_augK, h_mkS, k_mkS, k_mkST, e_fmt, e_js, k_js, e_js0, q_callK, q_strO, q_reprO, q_isCint, q_isCbl, q_isCstr, q_isCtup, q_isClst, q_isCnon, q_intB, q_intI, h1, oD]
/-- the due index -/
theorem due_head {p : List Str → Bool} : ∀ (Qs : List (List Str)) (k : Nat), ((List.range' k Qs.length).filter fun i => p (Qs[i - k]?.getD [])).head? = fst1 p k Qs
  | [], k => rfl
  | q :: Qs, k => by
    have ih := due_head (p := p) Qs (k + 1)
    rw [List.length_cons, List.range'_succ, List.filter_cons]
    have e0 : p ((q :: Qs)[k - k]?.getD []) = p q := by rw [Nat.sub_self]; rfl
    have e1 : ((List.range' (k + 1) Qs.length).filter fun i => p ((q :: Qs)[i - k]?.getD [])) = (List.range' (k + 1) Qs.length).filter fun i => p (Qs[i - (k + 1)]?.getD []) := by
      refine List.filter_congr fun i hi => ?_
      have hk : k + 1 ≤ i := (List.mem_range'_1.mp hi).1
      rw [show i - k = (i - (k + 1)) + 1 by omega, List.getElem?_cons_succ]
    rw [e0, e1]
    unfold fst1
    cases p q
    · exact ih
    · rfl

def due (w : Str) (Qs : List (List Str)) : List Nat := (List.range Qs.length).filter fun i => decide (w ∈ Qs[i]?.getD [])
theorem rng_ok {n : Nat} (h : n ≤ 100) : -(2 ^ 62) ≤ (n : Int) ∧ (n : Int) < 2 ^ 62 := by
  have e : (2 : Int) ^ 62 = 4611686018427387904 := by decide
  rw [e]
  omega
theorem due_F {s : Sto} {w : Str} {Qs : List (List Str)} {x0 x1 x2 x6 x7 x8 x9 x10 : Option D} (hl : Qs.length ≤ 100) :
    S_law_6 [x0, x1, x2, some (.lst (Qs.map tD)), some (.lst (Qs.map tD)), some (.str w), x6, x7, x8, x9, x10] s = .go .nx [x0, x1, x2, some (.lst (Qs.map tD)), some (.lst (Qs.map tD)), some (.str w), x6, some (.lst ((due w Qs).map (fun k : Nat => D.int (0 + k)) ++ [.non])), x8, x9, x10] s := by
  have hc : cmpL (tNm 10) T_law_6_23 E_law_6_23 [x0, x1, x2, some (.lst (Qs.map tD)), some (.lst (Qs.map tD)), some (.str w), x6, x7, x8, x9, none] ((List.range Qs.length).map fun k : Nat => D.int (0 + k)) [] s = .ok ((due w Qs).map fun k : Nat => D.int (0 + k)) s := by
    refine cmpL_flt (g := tNm 10) (t := T_law_6_23) (e := E_law_6_23) (f := fun k : Nat => D.int (0 + k)) (b := fun i => decide (w ∈ Qs[i]?.getD [])) s (List.range Qs.length) [] (by rw [List.length_range]; show 0 + Qs.length ≤ 1000000; omega) fun i hi => ⟨_, rfl, ?_, ?_⟩
    · have hlt := List.mem_range.mp hi
      have hx : dIx (.lst (Qs.map tD)) (.int (0 + (i : Int))) s = .ok (tD Qs[i]) s := by
        unfold dIx
        simp only [asLL, asL]
        have : atI (Qs.map tD) (0 + (i : Int)) = some (tD Qs[i]) := by
          unfold atI ixN
          rw [if_pos (by omega), if_pos (by rw [List.length_map]; omega)]
          show (Qs.map tD)[(0 + (i : Int)).toNat]? = _
          rw [show (0 + (i : Int)).toNat = i by omega, List.getElem?_map, List.getElem?_eq_getElem hlt]; rfl
        rw [this]
      have hin := in_tD w Qs[i] s
      unfold T_law_6_23
      rw [List.getElem?_eq_getElem hlt]
      simp only [e_bnd, ↓e_bok, e_bexc, e_ret, e_nox, ↓e_nok, e_cst, e_yes, e_m2, e_m1, e_tst, e_chn, e_and, e_or, e_not, e_vand, e_vor, e_vnot, e_mif, e_anil, e_acons, e_mC, e_call, e_mM, e_sl, e_ono, e_oso, e_dic1, ↓k_tst, ↓k_chnT, ↓k_chnF, ↓k_andT, ↓k_andF, ↓k_orT, ↓k_orF, ↓k_not, ↓k_oso, ↓k_asg, e_seq, ↓e_snx, ↓e_srt, ↓e_sbk, ↓e_sct, ↓e_lok, e_nxs, e_bks, e_cts, e_ex, e_rt, e_set, e_if, e_par, e_asg, f_setix, f_augix, e_sFor, e_forfix, e_src, e_rng1, e_enum, e_lc, e_cmpfix, f_get, ↓f_oo, ↓f_o1, f_ixR, f_ixO, f_ixSl, f_ixT, f_lenR, f_lenO, f_augR, f_setR, f_setO, f_goO, f_run, ↓f_rt, ↓f_nx, v_lenL, v_lenT, v_lenSl, v_addI, v_addII, v_sub, v_neg, v_eqI, v_eqS, v_eqB, v_neI, v_neS, v_lt, v_le, v_gt, v_ge, at_lit, ix_lit', Option.map_some, List.map_cons, List.map_nil, List.length_cons, List.length_nil, List.length_map, List.cons_append, List.nil_append, List.replicate, List.getElem?_cons_zero, List.getElem?_cons_succ, List.set_cons_zero, List.set_cons_succ, List.set_set, f_isi, f_isiO, f_isiB, v_slL, v_slSl, v_abs, v_max, v_min, v_kF, v_srcL, v_srcS, decide_true, decide_false, ↓reduceIte, Bool.false_eq_true, Bool.true_eq_false, Bool.not_true, Bool.not_false, Nat.reduceAdd, Nat.reduceSub, Nat.reduceLT, ↓u_oS, u_mul, u_mulS, u_div, u_mod, u_addS, u_addL, u_slS, u_ixS, u_lenS, u_str, u_kLst, u_kTup, u_kLstS, u_rng, u_upper, u_tNm, u_tTup, u_tNil, u_tCns, ↓u_tcR, f_isTS, wipeD, beq_self_eq_true, and_self, true_and, and_true, Int.reduceLT, Nat.reduceLeDiff, Int.reduceLE, Int.reduceNeg, Int.reduceToNat, Int.reduceAdd, g_src, ↓g_srcO, g_enu, ↓g_enuO, g_isT, ↓g_isTO, g_app, ↓g_appO, g_rev, ↓g_revO, g_lis, ↓g_lisO, g_kS, g_LR, g_kLR, h_fld, h_prop, h_meth, h_callO, h_mk, h_isi, h_gfld, h_gprop, h_gisi, h_isC, h_kMeth, ↓h_methR, h_kCallO, ↓h_notR, h_arN, h_tLst, h_asgH, h_srcT, h_max, h_min, e_fz, e_fzF, f_aug, ↓f_augK, h_mkS, k_mkS, k_mkST, e_fmt, e_js, k_js, e_js0, q_callK, q_strO, q_reprO, q_isCint, q_isCbl, q_isCstr, q_isCtup, q_isClst, q_isCnon, q_intB, q_intI, List.set, hx, hin, Option.getD_some]
    · unfold E_law_6_23
      simp only [e_bnd, ↓e_bok, e_bexc, e_ret, e_nox, ↓e_nok, e_cst, e_yes, e_m2, e_m1, e_tst, e_chn, e_and, e_or, e_not, e_vand, e_vor, e_vnot, e_mif, e_anil, e_acons, e_mC, e_call, e_mM, e_sl, e_ono, e_oso, e_dic1, ↓k_tst, ↓k_chnT, ↓k_chnF, ↓k_andT, ↓k_andF, ↓k_orT, ↓k_orF, ↓k_not, ↓k_oso, ↓k_asg, e_seq, ↓e_snx, ↓e_srt, ↓e_sbk, ↓e_sct, ↓e_lok, e_nxs, e_bks, e_cts, e_ex, e_rt, e_set, e_if, e_par, e_asg, f_setix, f_augix, e_sFor, e_forfix, e_src, e_rng1, e_enum, e_lc, e_cmpfix, f_get, ↓f_oo, ↓f_o1, f_ixR, f_ixO, f_ixL, f_ixSl, f_ixT, f_lenR, f_lenO, f_augR, f_setR, f_setO, f_goO, f_run, ↓f_rt, ↓f_nx, v_lenL, v_lenT, v_lenSl, v_addI, v_addII, v_sub, v_neg, v_eqI, v_eqS, v_eqB, v_neI, v_neS, v_lt, v_le, v_gt, v_ge, at_lit, ix_lit', Option.map_some, List.map_cons, List.map_nil, List.length_cons, List.length_nil, List.length_map, List.cons_append, List.nil_append, List.replicate, List.getElem?_cons_zero, List.getElem?_cons_succ, List.set_cons_zero, List.set_cons_succ, List.set_set, f_isi, f_isiO, f_isiB, v_slL, v_slSl, v_abs, v_max, v_min, v_kF, v_srcL, v_srcS, decide_true, decide_false, ↓reduceIte, Bool.false_eq_true, Bool.true_eq_false, Bool.not_true, Bool.not_false, Nat.reduceAdd, Nat.reduceSub, Nat.reduceLT, ↓u_oS, u_mul, u_mulS, u_div, u_mod, u_addS, u_addL, u_slS, u_ixS, u_lenS, u_str, u_kLst, u_kTup, u_kLstS, u_rng, u_upper, u_tNm, u_tTup, u_tNil, u_tCns, ↓u_tcR, f_isTS, wipeD, beq_self_eq_true, and_self, true_and, and_true, Int.reduceLT, Nat.reduceLeDiff, Int.reduceLE, Int.reduceNeg, Int.reduceToNat, Int.reduceAdd, g_src, ↓g_srcO, g_enu, ↓g_enuO, g_isT, ↓g_isTO, g_app, ↓g_appO, g_rev, ↓g_revO, g_lis, ↓g_lisO, g_kS, g_LR, g_kLR, h_fld, h_prop, h_meth, h_callO, h_mk, h_isi, h_gfld, h_gprop, h_gisi, h_isC, h_kMeth, ↓h_methR, h_kCallO, ↓h_notR, h_arN, h_tLst, h_asgH, h_srcT, h_max, h_min, e_fz, e_fzF, f_aug, ↓f_augK, h_mkS, k_mkS, k_mkST, e_fmt, e_js, k_js, e_js0, q_callK, q_strO, q_reprO, q_isCint, q_isCbl, q_isCstr, q_isCtup, q_isClst, q_isCnon, q_intB, q_intI, List.set]
  have hr : rng 0 ((Qs.length : Nat) : Int) = (List.range Qs.length).map fun k : Nat => D.int (0 + k) := by
    unfold rng
    rw [Int.sub_zero, Int.toNat_natCast]
  have hdl : (due w Qs).length ≤ 100 := by
    have := List.length_filter_le (fun i => decide (w ∈ Qs[i]?.getD [])) (List.range Qs.length)
    rw [List.length_range] at this
    unfold due; omega
  have ha : dAddT (.lst ((due w Qs).map fun k : Nat => D.int (0 + k))) (.lst [.non]) s = .ok (.lst ((due w Qs).map (fun k : Nat => D.int (0 + k)) ++ [.non])) s := by
    show dAdd (.lst ((due w Qs).map fun k : Nat => D.int (0 + k))) (.lst [.non]) s = _
    unfold dAdd
    simp only [asL]
    rw [if_pos (by rw [List.length_map]; show _ + 1 ≤ 1000000; omega)]
  have hkr := k_rng (s := s) ((Qs.length : Nat) : Int) (rng_ok hl)
  have hm : mLc [10] (mRng1 (mC cLen (aCons (vGet 3) aNil))) (tNm 10) T_law_6_23 E_law_6_23 kF [x0, x1, x2, some (.lst (Qs.map tD)), some (.lst (Qs.map tD)), some (.str w), x6, x7, x8, x9, x10] s = .ok (.lst ((due w Qs).map fun k : Nat => D.int (0 + k))) s := by
    have hlen : cLen [.lst (Qs.map tD)] s = .ok (.int ((Qs.length : Nat) : Int)) s := by
      unfold cLen
      simp only [asLL, asL, List.length_map]
    unfold mLc
    have e1 : mRng1 (mC cLen (aCons (vGet 3) aNil)) [x0, x1, x2, some (.lst (Qs.map tD)), some (.lst (Qs.map tD)), some (.str w), x6, x7, x8, x9, x10] s = .ok (fix ((List.range Qs.length).map fun k : Nat => D.int (0 + k))) s := by
      rw [e_rng1, ← hr, ← hkr]
      have e2 : mC cLen (aCons (vGet 3) aNil) [x0, x1, x2, some (.lst (Qs.map tD)), some (.lst (Qs.map tD)), some (.str w), x6, x7, x8, x9, x10] s = .ok (.int ((Qs.length : Nat) : Int)) s := by
        simp only [e_mC, e_acons, e_anil, f_get, ↓f_oo, ↓f_o1, e_bnd, ↓e_bok, e_ret, e_nox, List.getElem?_cons_zero, List.getElem?_cons_succ, hlen, ↓e_nok]
      rw [e2]
      exact bnd_ok _ _ _
    rw [e_bnd, e1, bnd_ok]
    simp only [e_bnd, e_nox, e_cmpfix, wipeD, List.set, List.set_cons_zero, List.set_cons_succ, hc, ↓e_nok, ↓e_bok, v_kF, kF, e_ret]
  unfold S_law_6
  generalize mLc [10] (mRng1 (mC cLen (aCons (vGet 3) aNil))) (tNm 10) T_law_6_23 E_law_6_23 kF = MX at hm ⊢
  simp only [e_bnd, ↓e_bok, e_bexc, e_ret, e_nox, ↓e_nok, e_cst, e_yes, e_m2, e_m1, e_tst, e_chn, e_and, e_or, e_not, e_vand, e_vor, e_vnot, e_mif, e_anil, e_acons, e_mC, e_call, e_mM, e_sl, e_ono, e_oso, e_dic1, ↓k_tst, ↓k_chnT, ↓k_chnF, ↓k_andT, ↓k_andF, ↓k_orT, ↓k_orF, ↓k_not, ↓k_oso, ↓k_asg, e_seq, ↓e_snx, ↓e_srt, ↓e_sbk, ↓e_sct, ↓e_lok, e_nxs, e_bks, e_cts, e_ex, e_rt, e_set, e_if, e_par, e_asg, f_setix, f_augix, e_sFor, e_forfix, e_src, e_rng1, e_enum, e_lc, e_cmpfix, f_get, ↓f_oo, ↓f_o1, f_ixR, f_ixO, f_ixL, f_ixSl, f_ixT, f_lenR, f_lenO, f_augR, f_setR, f_setO, f_goO, f_run, ↓f_rt, ↓f_nx, v_lenL, v_lenT, v_lenSl, v_addI, v_addII, v_sub, v_neg, v_eqI, v_eqS, v_eqB, v_neI, v_neS, v_lt, v_le, v_gt, v_ge, at_lit, ix_lit', Option.map_some, List.map_cons, List.map_nil, List.length_cons, List.length_nil, List.length_map, List.cons_append, List.nil_append, List.replicate, List.getElem?_cons_zero, List.getElem?_cons_succ, List.set_cons_zero, List.set_cons_succ, List.set_set, f_isi, f_isiO, f_isiB, v_slL, v_slSl, v_abs, v_max, v_min, v_kF, v_srcL, v_srcS, decide_true, decide_false, ↓reduceIte, Bool.false_eq_true, Bool.true_eq_false, Bool.not_true, Bool.not_false, Nat.reduceAdd, Nat.reduceSub, Nat.reduceLT, ↓u_oS, u_mul, u_mulS, u_div, u_mod, u_addS, u_slS, u_ixS, u_lenS, u_str, u_kLst, u_kTup, u_kLstS, u_upper, u_tNm, u_tTup, u_tNil, u_tCns, ↓u_tcR, f_isTS, wipeD, beq_self_eq_true, and_self, true_and, and_true, Int.reduceLT, Nat.reduceLeDiff, Int.reduceLE, Int.reduceNeg, Int.reduceToNat, Int.reduceAdd, g_src, ↓g_srcO, g_enu, ↓g_enuO, g_isT, ↓g_isTO, g_app, ↓g_appO, g_rev, ↓g_revO, g_lis, ↓g_lisO, g_kS, g_LR, g_kLR, h_fld, h_prop, h_meth, h_callO, h_mk, h_isi, h_gfld, h_gprop, h_gisi, h_isC, h_kMeth, ↓h_methR, h_kCallO, ↓h_notR, h_arN, h_tLst, h_asgH, h_srcT, h_max, h_min, e_fz, e_fzF, f_aug, ↓f_augK, h_mkS, k_mkS, k_mkST, e_fmt, e_js, k_js, e_js0, q_callK, q_strO, q_reprO, q_isCint, q_isCbl, q_isCstr, q_isCtup, q_isClst, q_isCnon, q_intB, q_intI, li_0, li_1, li_2, li_3, li_4, li_5, li_6, li_7, li_8, li_9, li_10, li_11, li_12, li_13, List.set, hm, ha]

theorem gd_oD (o : Option Nat) (s : Sto) (h : ∀ i, o = some i → i ≤ 100) : m_l_alike [oD o, oD o] s = .ok (.bl true) s := by
  have hr : ∃ z, cRepr [oD o] s = .ok (.str z) s := by
    cases o with
    | none => exact ⟨_, rfl⟩
    | some i =>
      have hi := h i rfl
      have h60 : ((i : Nat) : Int).natAbs < 10 ^ 60 := Nat.lt_of_le_of_lt (show ((i : Nat) : Int).natAbs ≤ 100 by omega) (by decide)
      have hg : Gd 70 (.int (i : Nat)) := by
        refine ⟨rfl, ?_, Nat.zero_le _, ?_⟩
        · show decide (((i : Nat) : Int).natAbs.log2 < 1920) = true
          refine decide_eq_true ?_
          by_cases hz : ((i : Nat) : Int).natAbs = 0
          · rw [hz]; decide
          · exact Nat.lt_trans ((Nat.log2_lt hz).mpr (show ((i : Nat) : Int).natAbs < 2 ^ 7 by omega)) (by decide)
        · have := (TxB.int h60 (by decide)).len
          show (Str.ofString (toString ((i : Nat) : Int))).length ≤ 70
          omega
      exact ⟨_, hg.repr (by decide) s⟩
  obtain ⟨z, hz⟩ := hr
  have he : dEq (oD o) (oD o) s = .ok (.bl true) s := by
    cases o with
    | none => rfl
    | some i => unfold dEq dEqB sEq oD; simp
  unfold m_l_alike B_l_alike S_l_alike_1
  simp only [e_bnd, ↓e_bok, e_bexc, e_ret, e_nox, ↓e_nok, e_cst, e_yes, e_m2, e_m1, e_tst, e_chn, e_and, e_or, e_not, e_vand, e_vor, e_vnot, e_mif, e_anil, e_acons, e_mC, e_call, e_mM, e_sl, e_ono, e_oso, e_dic1, ↓k_tst, ↓k_chnT, ↓k_chnF, ↓k_andT, ↓k_andF, ↓k_orT, ↓k_orF, ↓k_not, ↓k_oso, ↓k_asg, e_seq, ↓e_snx, ↓e_srt, ↓e_sbk, ↓e_sct, ↓e_lok, e_nxs, e_bks, e_cts, e_ex, e_rt, e_set, e_if, e_par, e_asg, f_setix, f_augix, e_sFor, e_forfix, e_src, e_rng1, e_enum, e_lc, e_cmpfix, f_get, ↓f_oo, ↓f_o1, f_ixR, f_ixO, f_ixL, f_ixSl, f_ixT, f_lenR, f_lenO, f_augR, f_setR, f_setO, f_goO, f_run, ↓f_rt, ↓f_nx, v_lenL, v_lenT, v_lenSl, v_addI, v_addII, v_sub, v_neg, v_eqI, v_eqS, v_eqB, v_neI, v_neS, v_lt, v_le, v_gt, v_ge, at_lit, ix_lit', Option.map_some, List.map_cons, List.map_nil, List.length_cons, List.length_nil, List.length_map, List.cons_append, List.nil_append, List.replicate, List.getElem?_cons_zero, List.getElem?_cons_succ, List.set_cons_zero, List.set_cons_succ, List.set_set, f_isi, f_isiO, f_isiB, v_slL, v_slSl, v_abs, v_max, v_min, v_kF, v_srcL, v_srcS, decide_true, decide_false, ↓reduceIte, Bool.false_eq_true, Bool.true_eq_false, Bool.not_true, Bool.not_false, Nat.reduceAdd, Nat.reduceSub, Nat.reduceLT, ↓u_oS, u_mul, u_mulS, u_div, u_mod, u_addS, u_addL, u_slS, u_ixS, u_lenS, u_str, u_kLst, u_kTup, u_kLstS, u_rng, u_upper, u_tNm, u_tTup, u_tNil, u_tCns, ↓u_tcR, f_isTS, wipeD, beq_self_eq_true, and_self, true_and, and_true, Int.reduceLT, Nat.reduceLeDiff, Int.reduceLE, Int.reduceNeg, Int.reduceToNat, Int.reduceAdd, g_src, ↓g_srcO, g_enu, ↓g_enuO, g_isT, ↓g_isTO, g_app, ↓g_appO, g_rev, ↓g_revO, g_lis, ↓g_lisO, g_kS, g_LR, g_kLR, h_fld, h_prop, h_meth, h_callO, h_mk, h_isi, h_gfld, h_gprop, h_gisi, h_isC, h_kMeth, ↓h_methR, h_kCallO, ↓h_notR, h_arN, h_tLst, h_asgH, h_srcT, h_max, h_min, e_fz, e_fzF, f_aug, ↓f_augK, h_mkS, k_mkS, k_mkST, e_fmt, e_js, k_js, e_js0, q_callK, q_strO, q_reprO, q_isCint, q_isCbl, q_isCstr, q_isCtup, q_isClst, q_isCnon, q_intB, q_intI, hz, he]

theorem tD_of (ws : List Str) : tD ws = ofP (.tuple (ws.map PyData.str)) := by
  unfold tD
  rw [ofP, ofPs_map, List.map_map]
  rfl
def plP (Qs : List (List Str)) : PyData := .list (Qs.map fun ws => .tuple (ws.map PyData.str))
theorem plP_of (Qs : List (List Str)) : ofP (plP Qs) = .lst (Qs.map tD) := by
  unfold plP
  rw [ofP, ofPs_map, List.map_map]
  congr 1
  refine List.map_congr_left fun ws _ => ?_
  exact (tD_of ws).symm
theorem fst1_le {p : List Str → Bool} : ∀ (Qs : List (List Str)) (k i : Nat), fst1 p k Qs = some i → i < k + Qs.length
  | [], k, i, h => by cases h
  | q :: Qs, k, i, h => by
    unfold fst1 at h
    rw [List.length_cons]
    split at h
    · cases h; omega
    · have := fst1_le Qs (k + 1) i h; omega
theorem due_at (w : Str) (Qs : List (List Str)) (s : Sto) : dIx (.lst ((due w Qs).map (fun k : Nat => D.int (0 + k)) ++ [.non])) (.int 0) s = .ok (oD (fst1 (fun ws => decide (w ∈ ws)) 0 Qs)) s := by
  have hd := due_head (p := fun ws => decide (w ∈ ws)) Qs 0
  have e : ((List.range' 0 Qs.length).filter fun i => decide (w ∈ Qs[i - 0]?.getD [])) = due w Qs := by
    unfold due
    rw [List.range_eq_range']
    rfl
  rw [e] at hd
  rw [← hd]
  cases due w Qs with
  | nil => rfl
  | cons x xs =>
    rw [List.map_cons, List.cons_append]
    have : ∀ (d : D) (ds : List D), dIx (.lst (d :: ds)) (.int 0) s = .ok d s := fun d ds => by
      unfold dIx
      simp only [asLL, asL, atI, ixN, Int.le_refl, if_true, List.length_cons, Int.toNat_zero, List.getElem?_cons_zero]
      rw [if_pos (by omega)]
      rfl
    rw [this, Int.zero_add]
    rfl

theorem word_step {s : Sto} {w : Str} {Qs : List (List Str)} {k : Nat} {x0 x1 x2 x5 x6 x7 x8 x9 x10 : Option D} (hl : Qs.length ≤ 100) (hg : Gd k (plP Qs)) :
    ∃ y, bdy (tNm 5) (sSeq S_law_6 S_law_7) (.str w) [x0, x1, x2, some (.lst (Qs.map tD)), some (.lst (Qs.map tD)), x5, x6, x7, x8, x9, x10] s = .go .nx [x0, x1, x2, some (.lst (Qs.map tD)), some (.lst (Qs.map tD)), some (.str w), x6, y, x8, x9, x10] s := by
  have e6 := due_F (s := s) (w := w) (x0 := x0) (x1 := x1) (x2 := x2) (x6 := x6) (x7 := x7) (x8 := x8) (x9 := x9) (x10 := x10) hl
  have ep := place_F (s := s) Qs w
  have ed := due_at w Qs s
  have ea := gd_oD (fst1 (fun ws => decide (w ∈ ws)) 0 Qs) s (fun i hi => by have := fst1_le Qs 0 i hi; omega)
  have en : dNe (.lst (Qs.map tD)) (.lst (Qs.map tD)) s = .ok (.bl false) s := by
    rw [← plP_of]
    exact ne_same (hg.dat s) (hg.dat s) hg.lay
  generalize (due w Qs).map (fun k : Nat => D.int (0 + k)) ++ [.non] = dd at e6 ed
  refine ⟨some (.lst dd), ?_⟩
  refine x_bdy (σ1 := [x0, x1, x2, some (.lst (Qs.map tD)), some (.lst (Qs.map tD)), some (.str w), x6, x7, x8, x9, x10]) ?_ ?_
  · (repeat' first | with_reducible assumption | with_reducible exact x_cst _ | with_reducible exact x_yes | with_reducible exact x_nil | with_reducible exact x_ono | with_reducible exact x_nx | with_reducible exact x_bk | with_reducible exact x_ct | with_reducible exact x_srt _ | with_reducible exact set_0 | with_reducible apply set_S | with_reducible apply x_T rfl | with_reducible apply x_F rfl | with_reducible apply x_T (by assumption) | with_reducible apply x_F (by assumption) | with_reducible apply x_nT rfl | with_reducible apply x_nF rfl | with_reducible apply x_nT (by assumption) | with_reducible apply x_nF (by assumption) | ((with_reducible apply x_get); exact rfl) | with_reducible apply x_m2 | with_reducible apply x_m1 | with_reducible apply x_tst | with_reducible apply x_not | with_reducible apply x_and | with_reducible apply x_or | with_reducible apply x_vnot | with_reducible apply x_vand | with_reducible apply x_vor | with_reducible apply x_mif | with_reducible apply x_chn | with_reducible apply x_chn2 | with_reducible apply x_cons | with_reducible apply x_bnd | with_reducible apply x_mC | with_reducible apply x_call | with_reducible apply x_mM | with_reducible apply x_sl | with_reducible apply x_oso | with_reducible apply x_rev | with_reducible apply x_src | with_reducible apply x_enu | with_reducible apply x_rng | with_reducible apply x_lc | with_reducible apply x_fld | with_reducible apply x_snx | with_reducible apply x_seq | with_reducible apply x_ex | with_reducible apply x_rt | with_reducible apply x_set | with_reducible apply x_par | with_reducible apply x_if | with_reducible apply x_asg | with_reducible apply x_for | with_reducible apply x_run | with_reducible apply x_bdy | with_reducible exact v_addI _ _ | with_reducible exact v_addII _ _ | with_reducible exact v_sub _ _ | with_reducible exact v_neg _ | with_reducible exact v_eqI _ _ | with_reducible exact v_eqS _ _ | with_reducible exact v_eqB _ _ | with_reducible exact v_neI _ _ | with_reducible exact v_neS _ _ | with_reducible exact v_lt _ _ | with_reducible exact v_le _ _ | with_reducible exact v_gt _ _ | with_reducible exact v_ge _ _ | with_reducible exact x_addTI _ _ | with_reducible exact x_slT _ _ _ | with_reducible exact x_slL _ _ _ | with_reducible exact v_lenL _ | with_reducible exact v_lenT _ | with_reducible exact v_lenSl _ | with_reducible exact v_kF _ | with_reducible exact v_srcL _ | with_reducible exact h_srcT _ | with_reducible exact v_abs _ | with_reducible exact v_max _ _ | with_reducible exact v_min _ _ | with_reducible exact g_kS _ | with_reducible apply x_asgH | with_reducible apply x_hTup | with_reducible exact x_hsNil | with_reducible apply x_hsCns | with_reducible apply x_hIx | with_reducible apply x_hNm | with_reducible apply x_hFld | with_reducible apply x_setix | ((with_reducible apply x_aug); exact rfl) | with_reducible apply x_fzF | with_reducible apply x_fzE | ((with_reducible apply x_T); decide) | ((with_reducible apply x_F); decide) | with_reducible exact x_ok | with_reducible exact x_go | with_reducible apply x_tNm | with_reducible apply x_tTup | with_reducible apply x_tLst | with_reducible exact x_tNil | with_reducible apply x_tCns | with_reducible exact xl_0 | with_reducible exact xl_1 | with_reducible exact xl_2 | with_reducible exact xl_3 | with_reducible exact xl_4 | with_reducible exact xl_5 | with_reducible exact xt_lst | with_reducible exact xt_sls | with_reducible exact xt_str | with_reducible exact f_rt _ | with_reducible exact f_nx | ((with_reducible apply wipe_of); simp only [wipeD, List.set_cons_zero, List.set_cons_succ]; exact rfl) | ((with_reducible apply env_of); simp only [List.map_cons, List.map_nil, List.length_cons, List.length_nil, Nat.reduceAdd, Nat.reduceSub, List.replicate, List.cons_append, List.nil_append]; exact rfl) | ((with_reducible apply x_isi); exact rfl) | ((with_reducible apply k_rng); decide) | ((with_reducible apply x_kLst); simp only [List.length_cons, List.length_nil]; decide) | ((with_reducible apply x_kTup); simp only [List.length_cons, List.length_nil]; decide) | ((with_reducible apply x_kLstS); simp only [List.length_cons, List.length_nil]; decide))
  refine x_seq e6 (x_snx ?_)
  unfold S_law_7
  (repeat' first | with_reducible assumption | with_reducible exact x_cst _ | with_reducible exact x_yes | with_reducible exact x_nil | with_reducible exact x_ono | with_reducible exact x_nx | with_reducible exact x_bk | with_reducible exact x_ct | with_reducible exact x_srt _ | with_reducible exact set_0 | with_reducible apply set_S | with_reducible apply x_T rfl | with_reducible apply x_F rfl | with_reducible apply x_T (by assumption) | with_reducible apply x_F (by assumption) | with_reducible apply x_nT rfl | with_reducible apply x_nF rfl | with_reducible apply x_nT (by assumption) | with_reducible apply x_nF (by assumption) | ((with_reducible apply x_get); exact rfl) | with_reducible apply x_m2 | with_reducible apply x_m1 | with_reducible apply x_tst | with_reducible apply x_not | with_reducible apply x_and | with_reducible apply x_or | with_reducible apply x_vnot | with_reducible apply x_vand | with_reducible apply x_vor | with_reducible apply x_mif | with_reducible apply x_chn | with_reducible apply x_chn2 | with_reducible apply x_cons | with_reducible apply x_bnd | with_reducible apply x_mC | with_reducible apply x_call | with_reducible apply x_mM | with_reducible apply x_sl | with_reducible apply x_oso | with_reducible apply x_rev | with_reducible apply x_src | with_reducible apply x_enu | with_reducible apply x_rng | with_reducible apply x_lc | with_reducible apply x_fld | with_reducible apply x_snx | with_reducible apply x_seq | with_reducible apply x_ex | with_reducible apply x_rt | with_reducible apply x_set | with_reducible apply x_par | with_reducible apply x_if | with_reducible apply x_asg | with_reducible apply x_for | with_reducible apply x_run | with_reducible apply x_bdy | with_reducible exact v_addI _ _ | with_reducible exact v_addII _ _ | with_reducible exact v_sub _ _ | with_reducible exact v_neg _ | with_reducible exact v_eqI _ _ | with_reducible exact v_eqS _ _ | with_reducible exact v_eqB _ _ | with_reducible exact v_neI _ _ | with_reducible exact v_neS _ _ | with_reducible exact v_lt _ _ | with_reducible exact v_le _ _ | with_reducible exact v_gt _ _ | with_reducible exact v_ge _ _ | with_reducible exact x_addTI _ _ | with_reducible exact x_slT _ _ _ | with_reducible exact x_slL _ _ _ | with_reducible exact v_lenL _ | with_reducible exact v_lenT _ | with_reducible exact v_lenSl _ | with_reducible exact v_kF _ | with_reducible exact v_srcL _ | with_reducible exact h_srcT _ | with_reducible exact v_abs _ | with_reducible exact v_max _ _ | with_reducible exact v_min _ _ | with_reducible exact g_kS _ | with_reducible apply x_asgH | with_reducible apply x_hTup | with_reducible exact x_hsNil | with_reducible apply x_hsCns | with_reducible apply x_hIx | with_reducible apply x_hNm | with_reducible apply x_hFld | with_reducible apply x_setix | ((with_reducible apply x_aug); exact rfl) | with_reducible apply x_fzF | with_reducible apply x_fzE | ((with_reducible apply x_T); decide) | ((with_reducible apply x_F); decide) | with_reducible exact x_ok | with_reducible exact x_go | with_reducible apply x_tNm | with_reducible apply x_tTup | with_reducible apply x_tLst | with_reducible exact x_tNil | with_reducible apply x_tCns | with_reducible exact xl_0 | with_reducible exact xl_1 | with_reducible exact xl_2 | with_reducible exact xl_3 | with_reducible exact xl_4 | with_reducible exact xl_5 | with_reducible exact xt_lst | with_reducible exact xt_sls | with_reducible exact xt_str | with_reducible exact f_rt _ | with_reducible exact f_nx | ((with_reducible apply wipe_of); simp only [wipeD, List.set_cons_zero, List.set_cons_succ]; exact rfl) | ((with_reducible apply env_of); simp only [List.map_cons, List.map_nil, List.length_cons, List.length_nil, Nat.reduceAdd, Nat.reduceSub, List.replicate, List.cons_append, List.nil_append]; exact rfl) | ((with_reducible apply x_isi); exact rfl) | ((with_reducible apply k_rng); decide) | ((with_reducible apply x_kLst); simp only [List.length_cons, List.length_nil]; decide) | ((with_reducible apply x_kTup); simp only [List.length_cons, List.length_nil]; decide) | ((with_reducible apply x_kLstS); simp only [List.length_cons, List.length_nil]; decide))

/-! ### data of bounded weight and depth -/
structure GP (k d : Nat) (p : PyData) : Prop where
  lay : p.canLay0 = true
  shw : p.showable = true
  dp : p.depth ≤ d
  wt : RQ.wt p ≤ k
structure GX (k d : Nat) (xs : List PyData) : Prop where
  it : ∀ x ∈ xs, x.canLay0 = true ∧ x.showable = true ∧ x.depth ≤ d
  w : 4 + wts xs ≤ k
def GV (k d : Nat) (x : D) : Prop := ∃ p, x = ofP p ∧ GP k d p
def GD (k d : Nat) (X : List D) : Prop := ∃ xs : List PyData, X = xs.map ofP ∧ GX k d xs
theorem GP.gd {k d : Nat} {p : PyData} (h : GP k d p) (hd : d ≤ 9) : Gd k p := ⟨h.lay, h.shw, Nat.le_trans h.dp hd, h.wt⟩
theorem GV.more {k d k' d' : Nat} {x : D} (h : GV k d x) (hk : k ≤ k') (hd : d ≤ d') : GV k' d' x := by
  obtain ⟨p, e, h1, h2, h3, h4⟩ := h
  exact ⟨p, e, h1, h2, by omega, by omega⟩
theorem GD.more {k d k' d' : Nat} {x : List D} (h : GD k d x) (hk : k ≤ k') (hd : d ≤ d') : GD k' d' x := by
  obtain ⟨p, e, h1, h2⟩ := h
  exact ⟨p, e, fun x hx => ⟨(h1 x hx).1, (h1 x hx).2.1, by have := (h1 x hx).2.2; omega⟩, by omega⟩
theorem GD.app {k l d : Nat} {X Y : List D} (h : GD k d X) (g : GD l d Y) : GD (k + l) d (X ++ Y) := by
  obtain ⟨xs, rfl, h1, h2⟩ := h
  obtain ⟨ys, rfl, g1, g2⟩ := g
  refine ⟨xs ++ ys, (List.map_append ..).symm, fun x hx => (List.mem_append.mp hx).elim (h1 x) (g1 x), by rw [wts_app]; omega⟩
theorem GD.one {k d : Nat} {x : D} (h : GV k d x) : GD (k + 6) d [x] := by
  obtain ⟨p, rfl, h1, h2, h3, h4⟩ := h
  refine ⟨[p], rfl, fun x hx => by rw [List.mem_singleton.mp hx]; exact ⟨h1, h2, h3⟩, ?_⟩
  show 4 + (RQ.wt p + 2 + 0) ≤ k + 6
  omega
theorem GD.nil {d : Nat} : GD 4 d [] := ⟨[], rfl, ⟨fun x hx => (by cases hx), Nat.le_refl _⟩⟩
theorem GX.sub {k d : Nat} {xs ys : List PyData} (h : GX k d xs) (hs : List.Sublist ys xs) : GX k d ys :=
  ⟨fun x hx => h.it x (hs.subset hx), by have := wts_sub hs; have := h.w; omega⟩
theorem GD.cut {k d : Nat} {X : List D} (h : GD k d X) (lo hi : Option Int) : GD k d (cutD X lo hi) := by
  obtain ⟨xs, rfl, h1⟩ := h
  refine ⟨cutA xs lo hi, cutD_map .., h1.sub ?_⟩
  unfold cutA
  exact (List.take_sublist ..).trans (List.drop_sublist ..)
theorem GD.rev {k d : Nat} {X : List D} (h : GD k d X) : GD k d X.reverse := by
  obtain ⟨xs, rfl, h1, h2⟩ := h
  exact ⟨xs.reverse, (List.map_reverse ..).symm, fun x hx => h1 x (List.mem_reverse.mp hx), by rw [wts_rev]; exact h2⟩
theorem GD.len {k d : Nat} {X : List D} (h : GD k d X) : 2 * X.length + 4 ≤ k := by
  obtain ⟨xs, rfl, h1, h2⟩ := h
  have := wts_len xs
  rw [List.length_map]; omega
theorem GD.mem {k d : Nat} {X : List D} {x : D} (h : GD k d X) (hx : x ∈ X) : GV k d x := by
  obtain ⟨xs, rfl, h1, h2⟩ := h
  obtain ⟨p, hp, rfl⟩ := List.mem_map.mp hx
  obtain ⟨a, b, c⟩ := h1 p hp
  exact ⟨p, rfl, a, b, c, by have := wt_mem hp; omega⟩
theorem gx_all {k d : Nat} {xs : List PyData} (h : GX k d xs) : PyData.canLayAll0 xs = true ∧ PyData.showableAll xs = true ∧ PyData.depthAll xs ≤ d :=
  ⟨lay_all_iff.mpr fun x hx => (h.it x hx).1, shw_all_iff.mpr fun x hx => (h.it x hx).2.1, dep_all_le.mpr fun x hx => (h.it x hx).2.2⟩
theorem GX.lst {k d : Nat} {xs : List PyData} (h : GX k d xs) : GP k (d + 1) (.list xs) := by
  have e : PyData.depth (.list xs) = PyData.depthAll xs + 1 := by first | rfl | (show 1 + _ = _; omega)
  obtain ⟨h1, h2, h3⟩ := gx_all h
  exact ⟨h1, h2, by omega, h.w⟩
theorem GX.tup {k d : Nat} {xs : List PyData} (h : GX k d xs) : GP k (d + 1) (.tuple xs) := by
  have e : PyData.depth (.tuple xs) = PyData.depthAll xs + 1 := by first | rfl | (show 1 + _ = _; omega)
  obtain ⟨h1, h2, h3⟩ := gx_all h
  exact ⟨h1, h2, by omega, h.w⟩
theorem GD.lst {k d : Nat} {X : List D} (h : GD k d X) : GV k (d + 1) (.lst X) := by
  obtain ⟨xs, rfl, h1⟩ := h
  exact ⟨.list xs, by rw [ofP, ofPs_map], h1.lst⟩
theorem GD.tup {k d : Nat} {X : List D} (h : GD k d X) : GV k (d + 1) (.tup X) := by
  obtain ⟨xs, rfl, h1⟩ := h
  exact ⟨.tuple xs, by rw [ofP, ofPs_map], h1.tup⟩
/-- the length test of a sum -/
theorem len_ok {X Y : List D} {k l d e : Nat} (h : GD k d X) (g : GD l e Y) (hk : k + l ≤ 1000000) : X.length + Y.length ≤ lim := by
  have := h.len
  have := g.len
  show _ ≤ 1000000
  omega
theorem GD.ix {k d : Nat} {X : List D} {i : Int} (h : GD k d X) (h0 : 0 ≤ i) (h1 : i < X.length) (s : Sto) : ∃ x, dIx (.lst X) (.int i) s = .ok x s ∧ GV k d x := by
  have hl : i.toNat < X.length := by omega
  refine ⟨X[i.toNat], ?_, h.mem (List.getElem_mem hl)⟩
  exact v_ixL X i (by rw [at_nat _ h0, List.getElem?_eq_getElem hl])
theorem str_gv {z : Str} (h : (PyData.str z).canLay0 = true) (k : Nat) (hk : 10 * z.length + 2 ≤ k) : GV k 0 (.str z) := ⟨.str z, rfl, h, rfl, Nat.zero_le _, hk⟩
def oddL : List D := [.str "take", .str "check", .str "follow", .str "effect", .str "Finish", .str "", .non, .int 1, .bl true, .tup [.str "effect"], .lst [.str "check"], .str "effect+follow"]
theorem odd_gv : ∀ x ∈ oddL, GV 140 1 x := by
  intro x hx
  have g1 : ∀ (z : Str), (PyData.str z).canLay0 = true → z.length ≤ 13 → GV 140 1 (.str z) := fun z h hl => (str_gv h 140 (by omega)).more (Nat.le_refl _) (by omega)
  unfold oddL at hx
  simp only [List.mem_cons, List.not_mem_nil, or_false] at hx
  rcases hx with rfl | rfl | rfl | rfl | rfl | rfl | rfl | rfl | rfl | rfl | rfl | rfl
  · exact g1 _ (by decide +kernel) (by decide +kernel)
  · exact g1 _ (by decide +kernel) (by decide +kernel)
  · exact g1 _ (by decide +kernel) (by decide +kernel)
  · exact g1 _ (by decide +kernel) (by decide +kernel)
  · exact g1 _ (by decide +kernel) (by decide +kernel)
  · exact g1 _ (by decide +kernel) (by decide +kernel)
  · exact ⟨.none, rfl, rfl, rfl, by decide, by decide⟩
  · exact ⟨.int 1, rfl, rfl, by decide +kernel, by decide, by decide +kernel⟩
  · exact ⟨.bool true, rfl, rfl, rfl, by decide, by decide⟩
  · exact ⟨.tuple [.str "effect"], rfl, by decide +kernel, rfl, by decide, by decide +kernel⟩
  · exact ⟨.list [.str "check"], rfl, by decide +kernel, rfl, by decide, by decide +kernel⟩
  · exact g1 _ (by decide +kernel) (by decide +kernel)

theorem join_lay : ∀ ws : List Str, (∀ w ∈ ws, (PyData.str w).canLay0 = true) → (PyData.str (Str.join "+" ws)).canLay0 = true
  | [], _ => by decide +kernel
  | [x], h => h x List.mem_cons_self
  | x :: y :: r, h => by
    have ih := join_lay (y :: r) fun w hw => h w (List.mem_cons_of_mem _ hw)
    have hx := h x List.mem_cons_self
    have e : (Str.join "+" (x :: y :: r)) = x ++ ("+" : Str) ++ Str.join "+" (y :: r) := rfl
    rw [e]
    have hx' : x.cps.all (· < 0x110000) = true := hx
    have ih' : (Str.join "+" (y :: r)).cps.all (· < 0x110000) = true := ih
    show (x.cps ++ ("+" : Str).cps ++ (Str.join "+" (y :: r)).cps).all (· < 0x110000) = true
    rw [Array.all_append, Array.all_append, hx', ih']
    decide +kernel
theorem join_wt : ∀ ws : List Str, 10 * (Str.join "+" ws).length ≤ wts (ws.map PyData.str) + 20 * ws.length
  | [] => by decide
  | [x] => by
    show 10 * x.length ≤ (10 * x.length + 2 + 2 + 0) + 20 * 1
    omega
  | x :: y :: r => by
    have ih := join_wt (y :: r)
    have e : (Str.join "+" (x :: y :: r)) = x ++ ("+" : Str) ++ Str.join "+" (y :: r) := rfl
    rw [e, slen_app', slen_app', List.map_cons, wts]
    have h1 : ("+" : Str).length = 1 := rfl
    have h2 : RQ.wt (PyData.str x) = 10 * x.length + 2 := rfl
    simp only [List.length_cons] at ih ⊢
    omega
theorem sum_wts (ws : List Str) : (ws.map (·.length)).sum ≤ wts (ws.map PyData.str) := by
  induction ws with
  | nil => exact Nat.zero_le _
  | cons w ws ih =>
    rw [List.map_cons, List.sum_cons, List.map_cons, wts]
    have h2 : RQ.wt (PyData.str w) = 10 * w.length + 2 := rfl
    omega
theorem spart_ok {s0 s : Sto} {n b k : Nat} {ws : List Str} (h : Kp s0 s n b) (hb : b + 10 ≤ 1000000000000) (hg : GX k 0 (ws.map PyData.str)) (hk : k ≤ 25000) :
    ∃ x s1, m_l_spoilt_part [.ref n, .tup (ws.map D.str)] s = .ok x s1 ∧ Kp s0 s1 n (b + 3) ∧ GV (12 * k + 200) 2 x := by
  have hw : GD k 0 (ws.map D.str) := ⟨_, by rw [List.map_map]; rfl, hg⟩
  have hl := hw.len
  rw [List.length_map] at hl
  obtain ⟨a, s1, a1, a2, a3, a4⟩ := take_kp ((ws.length : Int) + 1) h (by omega) (by omega) (by
    have h1 : ((ws.length : Int) + 1).natAbs < 2 ^ 20 := by omega
    exact Nat.lt_trans ((Nat.log2_lt (by omega)).mpr h1) (by decide))
  obtain ⟨o, s2, o1, o2, o3, o4⟩ := take_kp 12 a4 (by omega) (by decide) (by decide)
  obtain ⟨c, s3, c1, c2, c3, c4⟩ := take_kp 9 o4 (by omega) (by decide) (by decide)
  generalize hW : ws.map D.str = W at *
  have oddix : ∃ y, dIx (.lst oddL) (.int o) s2 = .ok y s2 ∧ GV 140 1 y := by
    have hl : o.toNat < oddL.length := by show o.toNat < 12; omega
    refine ⟨oddL[o.toNat], ?_, odd_gv _ (List.getElem_mem hl)⟩
    exact v_ixL oddL o (by rw [at_nat _ o2, List.getElem?_eq_getElem hl])
  obtain ⟨y, y1, y2⟩ := oddix
  have hw1 := hw.more (Nat.le_refl _) (show 0 ≤ 1 by omega)
  have gy := GD.one y2
  have p1 := ((hw1.cut none (some a)).app gy).app (hw1.cut (some a) none)
  have p2 := ((hw1.cut none (some a)).app gy).app (hw1.cut (some (a + 1)) none)
  have p3 := (hw1.cut none (some a)).app (hw1.cut (some (a + 1)) none)
  have p4 := hw1.rev
  have p5 := hw1.app (hw1.cut none (some 1))
  have l1 := len_ok (hw1.cut none (some a)) gy (by omega)
  have l2 := len_ok ((hw1.cut none (some a)).app gy) (hw1.cut (some a) none) (by omega)
  have l3 := len_ok ((hw1.cut none (some a)).app gy) (hw1.cut (some (a + 1)) none) (by omega)
  have l4 := len_ok (hw1.cut none (some a)) (hw1.cut (some (a + 1)) none) (by omega)
  have l5 := len_ok hw1 (hw1.cut none (some 1)) (by omega)
  have hj : mJoin (.str "+") [.tup W] s2 = .ok (.str (Str.join "+" ws)) s2 := by
    unfold mJoin
    rw [← hW]
    simp only [allM_map_str]
    have h1 := sum_wts ws
    have h2 : ("+" : Str).length = 1 := rfl
    have h3 := hg.w
    rw [if_pos (by show _ ≤ 1000000; rw [h2]; omega), join_eq]
  have hjl := join_wt ws
  have hjw : GV (12 * k + 200) 2 (.str (Str.join "+" ws)) := by
    refine (str_gv (join_lay ws fun w hw => (hg.it (.str w) (List.mem_map.mpr ⟨w, hw, rfl⟩)).1) _ ?_).more (Nat.le_refl _) (by omega)
    have := hg.w
    omega
  have hall : ∀ x ∈ [D.tup (cutD W none (some a) ++ [y] ++ cutD W (some a) none), .tup (cutD W none (some a) ++ [y] ++ cutD W (some (a + 1)) none), .tup (cutD W none (some a) ++ cutD W (some (a + 1)) none)] ++ [.tup W.reverse, .tup (W ++ cutD W none (some 1)), .lst W, .tup [], .str (Str.join "+" ws), y], GV (12 * k + 200) 2 x := by
    intro x hx
    simp only [List.cons_append, List.nil_append, List.mem_cons, List.not_mem_nil, or_false] at hx
    rcases hx with rfl | rfl | rfl | rfl | rfl | rfl | rfl | rfl | rfl
    · exact p1.tup.more (by omega) (Nat.le_refl _)
    · exact p2.tup.more (by omega) (Nat.le_refl _)
    · exact p3.tup.more (by omega) (Nat.le_refl _)
    · exact p4.tup.more (by omega) (Nat.le_refl _)
    · exact p5.tup.more (by omega) (Nat.le_refl _)
    · exact hw1.lst.more (by omega) (Nat.le_refl _)
    · exact (GD.nil (d := 1)).tup.more (by omega) (Nat.le_refl _)
    · exact hjw
    · exact GV.more y2 (by omega) (by omega)
  have hix : ∃ x, dIx (.lst ([D.tup (cutD W none (some a) ++ [y] ++ cutD W (some a) none), .tup (cutD W none (some a) ++ [y] ++ cutD W (some (a + 1)) none), .tup (cutD W none (some a) ++ cutD W (some (a + 1)) none)] ++ [.tup W.reverse, .tup (W ++ cutD W none (some 1)), .lst W, .tup [], .str (Str.join "+" ws), y])) (.int c) s3 = .ok x s3 ∧ GV (12 * k + 200) 2 x := by
    generalize hL : [D.tup (cutD W none (some a) ++ [y] ++ cutD W (some a) none), .tup (cutD W none (some a) ++ [y] ++ cutD W (some (a + 1)) none), .tup (cutD W none (some a) ++ cutD W (some (a + 1)) none)] ++ [.tup W.reverse, .tup (W ++ cutD W none (some 1)), .lst W, .tup [], .str (Str.join "+" ws), y] = L at *
    have hl : c.toNat < L.length := by rw [← hL]; show c.toNat < 9; omega
    refine ⟨L[c.toNat], ?_, hall _ (List.getElem_mem hl)⟩
    exact v_ixL L c (by rw [at_nat _ c2, List.getElem?_eq_getElem hl])
  obtain ⟨x, x1, x2⟩ := hix
  have hWl : W.length = ws.length := by rw [← hW, List.length_map]
  have t1 : m_l_take [.ref n, .int ((W.length : Int) + 1)] s = .ok (.int a) s1 := by rw [hWl]; exact a1
  have z1 := x_addTp (s := s2) l1
  have z2 := x_addTp (s := s2) l2
  have z3 := x_addTp (s := s2) l3
  have z4 := x_addTp (s := s2) l4
  have z5 := x_addTp (s := s2) l5
  have z6 := x_addL (s := s2) (a := [D.tup (cutD W none (some a) ++ [y] ++ cutD W (some a) none), .tup (cutD W none (some a) ++ [y] ++ cutD W (some (a + 1)) none), .tup (cutD W none (some a) ++ cutD W (some (a + 1)) none)]) (b := [.tup W.reverse, .tup (W ++ cutD W none (some 1)), .lst W, .tup [], .str (Str.join "+" ws), y]) (by show 9 ≤ 1000000; decide)
  have z7 : dRev (.tup W) s2 = .ok (.tup W.reverse) s2 := rfl
  have z8 : cList kF [.tup W] s2 = .ok (.lst W) s2 := rfl
  refine ⟨x, s3, ?_, c4, x2⟩
  unfold m_l_spoilt_part B_l_spoilt_part S_l_spoilt_part_1 S_l_spoilt_part_2 S_l_spoilt_part_3 S_l_spoilt_part_4 S_l_spoilt_part_5
  unfold oddL at y1
  (repeat' first | with_reducible assumption | with_reducible exact x_cst _ | with_reducible exact x_yes | with_reducible exact x_nil | with_reducible exact x_ono | with_reducible exact x_nx | with_reducible exact x_bk | with_reducible exact x_ct | with_reducible exact x_srt _ | with_reducible exact set_0 | with_reducible apply set_S | with_reducible apply x_T rfl | with_reducible apply x_F rfl | with_reducible apply x_T (by assumption) | with_reducible apply x_F (by assumption) | with_reducible apply x_nT rfl | with_reducible apply x_nF rfl | with_reducible apply x_nT (by assumption) | with_reducible apply x_nF (by assumption) | ((with_reducible apply x_get); exact rfl) | with_reducible apply x_m2 | with_reducible apply x_m1 | with_reducible apply x_tst | with_reducible apply x_not | with_reducible apply x_and | with_reducible apply x_or | with_reducible apply x_vnot | with_reducible apply x_vand | with_reducible apply x_vor | with_reducible apply x_mif | with_reducible apply x_chn | with_reducible apply x_chn2 | with_reducible apply x_cons | with_reducible apply x_bnd | with_reducible apply x_mC | with_reducible apply x_call | with_reducible apply x_mM | with_reducible apply x_sl | with_reducible apply x_oso | with_reducible apply x_rev | with_reducible apply x_src | with_reducible apply x_enu | with_reducible apply x_rng | with_reducible apply x_lc | with_reducible apply x_fld | with_reducible apply x_snx | with_reducible apply x_seq | with_reducible apply x_ex | with_reducible apply x_rt | with_reducible apply x_set | with_reducible apply x_par | with_reducible apply x_if | with_reducible apply x_asg | with_reducible apply x_for | with_reducible apply x_run | with_reducible apply x_bdy | with_reducible exact v_addI _ _ | with_reducible exact v_addII _ _ | with_reducible exact v_sub _ _ | with_reducible exact v_neg _ | with_reducible exact v_eqI _ _ | with_reducible exact v_eqS _ _ | with_reducible exact v_eqB _ _ | with_reducible exact v_neI _ _ | with_reducible exact v_neS _ _ | with_reducible exact v_lt _ _ | with_reducible exact v_le _ _ | with_reducible exact v_gt _ _ | with_reducible exact v_ge _ _ | with_reducible exact x_addTI _ _ | with_reducible exact x_slT _ _ _ | with_reducible exact x_slL _ _ _ | with_reducible exact v_lenL _ | with_reducible exact v_lenT _ | with_reducible exact v_lenSl _ | with_reducible exact v_kF _ | with_reducible exact v_srcL _ | with_reducible exact h_srcT _ | with_reducible exact v_abs _ | with_reducible exact v_max _ _ | with_reducible exact v_min _ _ | with_reducible exact g_kS _ | with_reducible apply x_asgH | with_reducible apply x_hTup | with_reducible exact x_hsNil | with_reducible apply x_hsCns | with_reducible apply x_hIx | with_reducible apply x_hNm | with_reducible apply x_hFld | with_reducible apply x_setix | ((with_reducible apply x_aug); exact rfl) | with_reducible apply x_fzF | with_reducible apply x_fzE | ((with_reducible apply x_T); decide) | ((with_reducible apply x_F); decide) | with_reducible exact x_ok | with_reducible exact x_go | with_reducible apply x_tNm | with_reducible apply x_tTup | with_reducible apply x_tLst | with_reducible exact x_tNil | with_reducible apply x_tCns | with_reducible exact xl_0 | with_reducible exact xl_1 | with_reducible exact xl_2 | with_reducible exact xl_3 | with_reducible exact xl_4 | with_reducible exact xl_5 | with_reducible exact xt_lst | with_reducible exact xt_sls | with_reducible exact xt_str | with_reducible exact f_rt _ | with_reducible exact f_nx | ((with_reducible apply wipe_of); simp only [wipeD, List.set_cons_zero, List.set_cons_succ]; exact rfl) | ((with_reducible apply env_of); simp only [List.map_cons, List.map_nil, List.length_cons, List.length_nil, Nat.reduceAdd, Nat.reduceSub, List.replicate, List.cons_append, List.nil_append]; exact rfl) | ((with_reducible apply x_isi); exact rfl) | ((with_reducible apply k_rng); decide) | ((with_reducible apply x_kLst); simp only [List.length_cons, List.length_nil]; decide) | ((with_reducible apply x_kTup); simp only [List.length_cons, List.length_nil]; decide) | ((with_reducible apply x_kLstS); simp only [List.length_cons, List.length_nil]; decide))

/-! ### _law_spoilt -/
theorem pl_of : ∀ (d : Nat) (p : PyData), p.canLay0 = true → p.depth ≤ d → Pl (d + 1) (ofP p)
  | d, .none, _, _ => .non
  | d, .bool b, _, _ => .bl b
  | d, .int i, _, _ => .int i
  | d, .str x, _, _ => .str x
  | d, .dict _, h, _ => by cases h
  | 0, .list xs, _, h => by
    have : 1 + PyData.depthAll xs ≤ 0 ∨ PyData.depthAll xs + 1 ≤ 0 := by first | exact .inl h | exact .inr h
    omega
  | 0, .tuple xs, _, h => by
    have : 1 + PyData.depthAll xs ≤ 0 ∨ PyData.depthAll xs + 1 ≤ 0 := by first | exact .inl h | exact .inr h
    omega
  | d + 1, .list xs, hl, h => by
    have h' : 1 + PyData.depthAll xs ≤ d + 1 ∨ PyData.depthAll xs + 1 ≤ d + 1 := by first | exact .inl h | exact .inr h
    rw [ofP, ofPs_map]
    refine .lst fun x hx => ?_
    obtain ⟨p, hp, rfl⟩ := List.mem_map.mp hx
    exact pl_of d p (lay_mem hl hp) (by have := depth_mem hp; omega)
  | d + 1, .tuple xs, hl, h => by
    have h' : 1 + PyData.depthAll xs ≤ d + 1 ∨ PyData.depthAll xs + 1 ≤ d + 1 := by first | exact .inl h | exact .inr h
    rw [ofP, ofPs_map]
    refine .tup fun x hx => ?_
    obtain ⟨p, hp, rfl⟩ := List.mem_map.mp hx
    exact pl_of d p (lay_mem hl hp) (by have := depth_mem hp; omega)
theorem GV.pl {k d : Nat} {x : D} (h : GV k d x) : Pl (d + 1) x := by
  obtain ⟨p, rfl, h1, h2, h3, h4⟩ := h
  exact pl_of d p h1 h3
def GR (k d : Nat) (x : D) : Prop := x = .dic [] ∨ GV k d x
theorem GR.pl {k d : Nat} {x : D} (h : GR k d x) : Pl (d + 1) x := by
  rcases h with rfl | h
  · exact .dic fun x hx => by cases hx
  · exact h.pl
theorem idx_ok {k d : Nat} {P : List D} {i : Int} (h : GD k d P) (h0 : 0 ≤ i) (h1 : i < P.length) (s : Sto) : ∃ x, dIx (.lst P) (.int i) s = .ok x s ∧ GV k d x := h.ix h0 h1 s
theorem wayL {s : Sto} {k d n : Nat} {P : List D} (hg : GD k d P) (hd : 2 ≤ d) : ∀ x ∈ [D.non, .tup P, .dic [], .str "take effect finish", .int 5, .lst [], .lst [.lst P], .lst [.tup [.str "take"]]], GR (15 * k + 300) (d + 2) x := by
  intro x hx
  simp only [List.mem_cons, List.not_mem_nil, or_false] at hx
  rcases hx with rfl | rfl | rfl | rfl | rfl | rfl | rfl | rfl
  · exact .inr ⟨.none, rfl, rfl, rfl, Nat.zero_le _, by show 4 ≤ _; omega⟩
  · exact .inr (hg.tup.more (by omega) (by omega))
  · exact .inl rfl
  · exact .inr ((str_gv (by decide +kernel) 300 (by decide +kernel)).more (by omega) (by omega))
  · exact .inr ⟨.int 5, rfl, rfl, by decide +kernel, Nat.zero_le _, Nat.le_trans (show RQ.wt (.int 5) ≤ 300 by decide +kernel) (by omega)⟩
  · exact .inr ((GD.nil (d := 0)).lst.more (by omega) (by omega))
  · exact .inr ((GD.one hg.lst).lst.more (by omega) (by omega))
  · refine .inr (GV.more (k := 300) (d := 2) ⟨.list [.tuple [.str "take"]], rfl, by decide +kernel, rfl, by decide, by decide +kernel⟩ (by omega) (by omega))
theorem sp_way0 {s0 s : Sto} {n b k d : Nat} {P : List D} {w a c : Int} (h : Kp s0 s n b) (hb : b + 10 ≤ 1000000000000) (hg : GD k d P) (hd : 2 ≤ d) :
    ∃ x t, S_l_spoilt_4 [some (.ref n), some (.lst P), some (.int w), some (.int a), some (.int c), none, none] s = .go (.rt x) [some (.ref n), some (.lst P), some (.int w), some (.int a), some (.int c), none, none] t ∧ Kp s0 t n (b + 1) ∧ GR (15 * k + 300) (d + 2) x := by
  obtain ⟨o, s1, o1, o2, o3, o4⟩ := take_kp 8 h (by omega) (by decide) (by decide)
  have hL := wayL (s := s) (n := n) hg hd
  have hix : ∃ x, dIx (.lst [D.non, .tup P, .dic [], .str "take effect finish", .int 5, .lst [], .lst [.lst P], .lst [.tup [.str "take"]]]) (.int o) s1 = .ok x s1 ∧ GR (15 * k + 300) (d + 2) x := by
    generalize hE : [D.non, .tup P, .dic [], .str "take effect finish", .int 5, .lst [], .lst [.lst P], .lst [.tup [.str "take"]]] = L at *
    have hl : o.toNat < L.length := by rw [← hE]; show o.toNat < 8; omega
    refine ⟨L[o.toNat], ?_, hL _ (List.getElem_mem hl)⟩
    exact v_ixL L o (by rw [at_nat _ o2, List.getElem?_eq_getElem hl])
  obtain ⟨x, x1, x2⟩ := hix
  have hct : cTuple [.lst P] s = .ok (.tup P) s := rfl
  refine ⟨x, s1, ?_, o4, x2⟩
  unfold S_l_spoilt_4
  (repeat' first | with_reducible assumption | with_reducible exact x_cst _ | with_reducible exact x_yes | with_reducible exact x_nil | with_reducible exact x_ono | with_reducible exact x_nx | with_reducible exact x_bk | with_reducible exact x_ct | with_reducible exact x_srt _ | with_reducible exact set_0 | with_reducible apply set_S | with_reducible apply x_T rfl | with_reducible apply x_F rfl | with_reducible apply x_T (by assumption) | with_reducible apply x_F (by assumption) | with_reducible apply x_nT rfl | with_reducible apply x_nF rfl | with_reducible apply x_nT (by assumption) | with_reducible apply x_nF (by assumption) | ((with_reducible apply x_get); exact rfl) | with_reducible apply x_m2 | with_reducible apply x_m1 | with_reducible apply x_tst | with_reducible apply x_not | with_reducible apply x_and | with_reducible apply x_or | with_reducible apply x_vnot | with_reducible apply x_vand | with_reducible apply x_vor | with_reducible apply x_mif | with_reducible apply x_chn | with_reducible apply x_chn2 | with_reducible apply x_cons | with_reducible apply x_bnd | with_reducible apply x_mC | with_reducible apply x_call | with_reducible apply x_mM | with_reducible apply x_sl | with_reducible apply x_oso | with_reducible apply x_rev | with_reducible apply x_src | with_reducible apply x_enu | with_reducible apply x_rng | with_reducible apply x_lc | with_reducible apply x_fld | with_reducible apply x_snx | with_reducible apply x_seq | with_reducible apply x_ex | with_reducible apply x_rt | with_reducible apply x_set | with_reducible apply x_par | with_reducible apply x_if | with_reducible apply x_asg | with_reducible apply x_for | with_reducible apply x_run | with_reducible apply x_bdy | with_reducible exact v_addI _ _ | with_reducible exact v_addII _ _ | with_reducible exact v_sub _ _ | with_reducible exact v_neg _ | with_reducible exact v_eqI _ _ | with_reducible exact v_eqS _ _ | with_reducible exact v_eqB _ _ | with_reducible exact v_neI _ _ | with_reducible exact v_neS _ _ | with_reducible exact v_lt _ _ | with_reducible exact v_le _ _ | with_reducible exact v_gt _ _ | with_reducible exact v_ge _ _ | with_reducible exact x_addTI _ _ | with_reducible exact x_slT _ _ _ | with_reducible exact x_slL _ _ _ | with_reducible exact v_lenL _ | with_reducible exact v_lenT _ | with_reducible exact v_lenSl _ | with_reducible exact v_kF _ | with_reducible exact v_srcL _ | with_reducible exact h_srcT _ | with_reducible exact v_abs _ | with_reducible exact v_max _ _ | with_reducible exact v_min _ _ | with_reducible exact g_kS _ | with_reducible apply x_asgH | with_reducible apply x_hTup | with_reducible exact x_hsNil | with_reducible apply x_hsCns | with_reducible apply x_hIx | with_reducible apply x_hNm | with_reducible apply x_hFld | with_reducible apply x_setix | ((with_reducible apply x_aug); exact rfl) | with_reducible apply x_fzF | with_reducible apply x_fzE | ((with_reducible apply x_T); decide) | ((with_reducible apply x_F); decide) | with_reducible exact x_ok | with_reducible exact x_go | with_reducible apply x_tNm | with_reducible apply x_tTup | with_reducible apply x_tLst | with_reducible exact x_tNil | with_reducible apply x_tCns | with_reducible exact xl_0 | with_reducible exact xl_1 | with_reducible exact xl_2 | with_reducible exact xl_3 | with_reducible exact xl_4 | with_reducible exact xl_5 | with_reducible exact xt_lst | with_reducible exact xt_sls | with_reducible exact xt_str | with_reducible exact f_rt _ | with_reducible exact f_nx | ((with_reducible apply wipe_of); simp only [wipeD, List.set_cons_zero, List.set_cons_succ]; exact rfl) | ((with_reducible apply env_of); simp only [List.map_cons, List.map_nil, List.length_cons, List.length_nil, Nat.reduceAdd, Nat.reduceSub, List.replicate, List.cons_append, List.nil_append]; exact rfl) | ((with_reducible apply x_isi); exact rfl) | ((with_reducible apply k_rng); decide) | ((with_reducible apply x_kLst); simp only [List.length_cons, List.length_nil]; decide) | ((with_reducible apply x_kTup); simp only [List.length_cons, List.length_nil]; decide) | ((with_reducible apply x_kLstS); simp only [List.length_cons, List.length_nil]; decide))
theorem sp_way4 {s0 s : Sto} {n b k d : Nat} {P : List D} {w a c : Int} (h : Kp s0 s n b) (hb : b + 10 ≤ 1000000000000) (hg : GD k d P) (hd : 2 ≤ d) (hk : k ≤ 25000) :
    ∃ x t, S_l_spoilt_14 [some (.ref n), some (.lst P), some (.int w), some (.int a), some (.int c), none, none] s = .go (.rt x) [some (.ref n), some (.lst P), some (.int w), some (.int a), some (.int c), none, none] t ∧ Kp s0 t n (b + 1) ∧ GR (15 * k + 300) (d + 2) x := by
  obtain ⟨o, s1, o1, o2, o3, o4⟩ := take_kp 4 h (by omega) (by decide) (by decide)
  have g0 : GD 300 d [.tup [.str "check"], .tup [.str "follow"], .tup [.str "take"], .tup []] := by
    refine GD.more (k := 300) (d := 2) ⟨[.tuple [.str "check"], .tuple [.str "follow"], .tuple [.str "take"], .tuple []], rfl, ⟨?_, by decide +kernel⟩⟩ (Nat.le_refl _) hd
    intro x hx
    simp only [List.mem_cons, List.not_mem_nil, or_false] at hx
    rcases hx with rfl | rfl | rfl | rfl
    · exact ⟨by decide +kernel, rfl, by decide⟩
    · exact ⟨by decide +kernel, rfl, by decide⟩
    · exact ⟨by decide +kernel, rfl, by decide⟩
    · exact ⟨by decide +kernel, rfl, by decide⟩
  have g1 := (g0.cut (some o) none).cut none (some 1)
  have z1 := x_addL (s := s1) (len_ok hg g1 (by omega))
  refine ⟨_, s1, ?_, o4, .inr ((hg.app g1).lst.more (by omega) (by omega))⟩
  unfold S_l_spoilt_14
  (repeat' first | with_reducible assumption | with_reducible exact x_cst _ | with_reducible exact x_yes | with_reducible exact x_nil | with_reducible exact x_ono | with_reducible exact x_nx | with_reducible exact x_bk | with_reducible exact x_ct | with_reducible exact x_srt _ | with_reducible exact set_0 | with_reducible apply set_S | with_reducible apply x_T rfl | with_reducible apply x_F rfl | with_reducible apply x_T (by assumption) | with_reducible apply x_F (by assumption) | with_reducible apply x_nT rfl | with_reducible apply x_nF rfl | with_reducible apply x_nT (by assumption) | with_reducible apply x_nF (by assumption) | ((with_reducible apply x_get); exact rfl) | with_reducible apply x_m2 | with_reducible apply x_m1 | with_reducible apply x_tst | with_reducible apply x_not | with_reducible apply x_and | with_reducible apply x_or | with_reducible apply x_vnot | with_reducible apply x_vand | with_reducible apply x_vor | with_reducible apply x_mif | with_reducible apply x_chn | with_reducible apply x_chn2 | with_reducible apply x_cons | with_reducible apply x_bnd | with_reducible apply x_mC | with_reducible apply x_call | with_reducible apply x_mM | with_reducible apply x_sl | with_reducible apply x_oso | with_reducible apply x_rev | with_reducible apply x_src | with_reducible apply x_enu | with_reducible apply x_rng | with_reducible apply x_lc | with_reducible apply x_fld | with_reducible apply x_snx | with_reducible apply x_seq | with_reducible apply x_ex | with_reducible apply x_rt | with_reducible apply x_set | with_reducible apply x_par | with_reducible apply x_if | with_reducible apply x_asg | with_reducible apply x_for | with_reducible apply x_run | with_reducible apply x_bdy | with_reducible exact v_addI _ _ | with_reducible exact v_addII _ _ | with_reducible exact v_sub _ _ | with_reducible exact v_neg _ | with_reducible exact v_eqI _ _ | with_reducible exact v_eqS _ _ | with_reducible exact v_eqB _ _ | with_reducible exact v_neI _ _ | with_reducible exact v_neS _ _ | with_reducible exact v_lt _ _ | with_reducible exact v_le _ _ | with_reducible exact v_gt _ _ | with_reducible exact v_ge _ _ | with_reducible exact x_addTI _ _ | with_reducible exact x_slT _ _ _ | with_reducible exact x_slL _ _ _ | with_reducible exact v_lenL _ | with_reducible exact v_lenT _ | with_reducible exact v_lenSl _ | with_reducible exact v_kF _ | with_reducible exact v_srcL _ | with_reducible exact h_srcT _ | with_reducible exact v_abs _ | with_reducible exact v_max _ _ | with_reducible exact v_min _ _ | with_reducible exact g_kS _ | with_reducible apply x_asgH | with_reducible apply x_hTup | with_reducible exact x_hsNil | with_reducible apply x_hsCns | with_reducible apply x_hIx | with_reducible apply x_hNm | with_reducible apply x_hFld | with_reducible apply x_setix | ((with_reducible apply x_aug); exact rfl) | with_reducible apply x_fzF | with_reducible apply x_fzE | ((with_reducible apply x_T); decide) | ((with_reducible apply x_F); decide) | with_reducible exact x_ok | with_reducible exact x_go | with_reducible apply x_tNm | with_reducible apply x_tTup | with_reducible apply x_tLst | with_reducible exact x_tNil | with_reducible apply x_tCns | with_reducible exact xl_0 | with_reducible exact xl_1 | with_reducible exact xl_2 | with_reducible exact xl_3 | with_reducible exact xl_4 | with_reducible exact xl_5 | with_reducible exact xt_lst | with_reducible exact xt_sls | with_reducible exact xt_str | with_reducible exact f_rt _ | with_reducible exact f_nx | ((with_reducible apply wipe_of); simp only [wipeD, List.set_cons_zero, List.set_cons_succ]; exact rfl) | ((with_reducible apply env_of); simp only [List.map_cons, List.map_nil, List.length_cons, List.length_nil, Nat.reduceAdd, Nat.reduceSub, List.replicate, List.cons_append, List.nil_append]; exact rfl) | ((with_reducible apply x_isi); exact rfl) | ((with_reducible apply k_rng); decide) | ((with_reducible apply x_kLst); simp only [List.length_cons, List.length_nil]; decide) | ((with_reducible apply x_kTup); simp only [List.length_cons, List.length_nil]; decide) | ((with_reducible apply x_kLstS); simp only [List.length_cons, List.length_nil]; decide))
theorem sp_way1 {s : Sto} {n k d : Nat} {P : List D} {w a c : Int} (hg : GD k d P) (hd : 2 ≤ d) (hk : k ≤ 25000) :
    ∃ x, S_l_spoilt_6 [some (.ref n), some (.lst P), some (.int w), some (.int a), some (.int c), none, none] s = .go (.rt x) [some (.ref n), some (.lst P), some (.int w), some (.int a), some (.int c), none, none] s ∧ GR (15 * k + 300) (d + 2) x := by
  have z1 := x_addL (s := s) (len_ok (hg.cut none (some a)) (hg.cut (some (a + 1)) none) (by omega))
  refine ⟨_, ?_, .inr (((hg.cut none (some a)).app (hg.cut (some (a + 1)) none)).lst.more (by omega) (by omega))⟩
  unfold S_l_spoilt_6
  (repeat' first | with_reducible assumption | with_reducible exact x_cst _ | with_reducible exact x_yes | with_reducible exact x_nil | with_reducible exact x_ono | with_reducible exact x_nx | with_reducible exact x_bk | with_reducible exact x_ct | with_reducible exact x_srt _ | with_reducible exact set_0 | with_reducible apply set_S | with_reducible apply x_T rfl | with_reducible apply x_F rfl | with_reducible apply x_T (by assumption) | with_reducible apply x_F (by assumption) | with_reducible apply x_nT rfl | with_reducible apply x_nF rfl | with_reducible apply x_nT (by assumption) | with_reducible apply x_nF (by assumption) | ((with_reducible apply x_get); exact rfl) | with_reducible apply x_m2 | with_reducible apply x_m1 | with_reducible apply x_tst | with_reducible apply x_not | with_reducible apply x_and | with_reducible apply x_or | with_reducible apply x_vnot | with_reducible apply x_vand | with_reducible apply x_vor | with_reducible apply x_mif | with_reducible apply x_chn | with_reducible apply x_chn2 | with_reducible apply x_cons | with_reducible apply x_bnd | with_reducible apply x_mC | with_reducible apply x_call | with_reducible apply x_mM | with_reducible apply x_sl | with_reducible apply x_oso | with_reducible apply x_rev | with_reducible apply x_src | with_reducible apply x_enu | with_reducible apply x_rng | with_reducible apply x_lc | with_reducible apply x_fld | with_reducible apply x_snx | with_reducible apply x_seq | with_reducible apply x_ex | with_reducible apply x_rt | with_reducible apply x_set | with_reducible apply x_par | with_reducible apply x_if | with_reducible apply x_asg | with_reducible apply x_for | with_reducible apply x_run | with_reducible apply x_bdy | with_reducible exact v_addI _ _ | with_reducible exact v_addII _ _ | with_reducible exact v_sub _ _ | with_reducible exact v_neg _ | with_reducible exact v_eqI _ _ | with_reducible exact v_eqS _ _ | with_reducible exact v_eqB _ _ | with_reducible exact v_neI _ _ | with_reducible exact v_neS _ _ | with_reducible exact v_lt _ _ | with_reducible exact v_le _ _ | with_reducible exact v_gt _ _ | with_reducible exact v_ge _ _ | with_reducible exact x_addTI _ _ | with_reducible exact x_slT _ _ _ | with_reducible exact x_slL _ _ _ | with_reducible exact v_lenL _ | with_reducible exact v_lenT _ | with_reducible exact v_lenSl _ | with_reducible exact v_kF _ | with_reducible exact v_srcL _ | with_reducible exact h_srcT _ | with_reducible exact v_abs _ | with_reducible exact v_max _ _ | with_reducible exact v_min _ _ | with_reducible exact g_kS _ | with_reducible apply x_asgH | with_reducible apply x_hTup | with_reducible exact x_hsNil | with_reducible apply x_hsCns | with_reducible apply x_hIx | with_reducible apply x_hNm | with_reducible apply x_hFld | with_reducible apply x_setix | ((with_reducible apply x_aug); exact rfl) | with_reducible apply x_fzF | with_reducible apply x_fzE | ((with_reducible apply x_T); decide) | ((with_reducible apply x_F); decide) | with_reducible exact x_ok | with_reducible exact x_go | with_reducible apply x_tNm | with_reducible apply x_tTup | with_reducible apply x_tLst | with_reducible exact x_tNil | with_reducible apply x_tCns | with_reducible exact xl_0 | with_reducible exact xl_1 | with_reducible exact xl_2 | with_reducible exact xl_3 | with_reducible exact xl_4 | with_reducible exact xl_5 | with_reducible exact xt_lst | with_reducible exact xt_sls | with_reducible exact xt_str | with_reducible exact f_rt _ | with_reducible exact f_nx | ((with_reducible apply wipe_of); simp only [wipeD, List.set_cons_zero, List.set_cons_succ]; exact rfl) | ((with_reducible apply env_of); simp only [List.map_cons, List.map_nil, List.length_cons, List.length_nil, Nat.reduceAdd, Nat.reduceSub, List.replicate, List.cons_append, List.nil_append]; exact rfl) | ((with_reducible apply x_isi); exact rfl) | ((with_reducible apply k_rng); decide) | ((with_reducible apply x_kLst); simp only [List.length_cons, List.length_nil]; decide) | ((with_reducible apply x_kTup); simp only [List.length_cons, List.length_nil]; decide) | ((with_reducible apply x_kLstS); simp only [List.length_cons, List.length_nil]; decide))
theorem sp_way2 {s : Sto} {n k d : Nat} {P : List D} {w a c : Int} (hg : GD k d P) (hd : 2 ≤ d) (hk : k ≤ 25000) :
    ∃ x, S_l_spoilt_8 [some (.ref n), some (.lst P), some (.int w), some (.int a), some (.int c), none, none] s = .go (.rt x) [some (.ref n), some (.lst P), some (.int w), some (.int a), some (.int c), none, none] s ∧ GR (15 * k + 300) (d + 2) x := by
  have g1 := (hg.cut none (some a)).app (hg.cut (some a) (some (a + 1)))
  have z1 := x_addL (s := s) (len_ok (hg.cut none (some a)) (hg.cut (some a) (some (a + 1))) (by omega))
  have z2 := x_addL (s := s) (len_ok g1 (hg.cut (some a) none) (by omega))
  refine ⟨_, ?_, .inr ((g1.app (hg.cut (some a) none)).lst.more (by omega) (by omega))⟩
  unfold S_l_spoilt_8
  (repeat' first | with_reducible assumption | with_reducible exact x_cst _ | with_reducible exact x_yes | with_reducible exact x_nil | with_reducible exact x_ono | with_reducible exact x_nx | with_reducible exact x_bk | with_reducible exact x_ct | with_reducible exact x_srt _ | with_reducible exact set_0 | with_reducible apply set_S | with_reducible apply x_T rfl | with_reducible apply x_F rfl | with_reducible apply x_T (by assumption) | with_reducible apply x_F (by assumption) | with_reducible apply x_nT rfl | with_reducible apply x_nF rfl | with_reducible apply x_nT (by assumption) | with_reducible apply x_nF (by assumption) | ((with_reducible apply x_get); exact rfl) | with_reducible apply x_m2 | with_reducible apply x_m1 | with_reducible apply x_tst | with_reducible apply x_not | with_reducible apply x_and | with_reducible apply x_or | with_reducible apply x_vnot | with_reducible apply x_vand | with_reducible apply x_vor | with_reducible apply x_mif | with_reducible apply x_chn | with_reducible apply x_chn2 | with_reducible apply x_cons | with_reducible apply x_bnd | with_reducible apply x_mC | with_reducible apply x_call | with_reducible apply x_mM | with_reducible apply x_sl | with_reducible apply x_oso | with_reducible apply x_rev | with_reducible apply x_src | with_reducible apply x_enu | with_reducible apply x_rng | with_reducible apply x_lc | with_reducible apply x_fld | with_reducible apply x_snx | with_reducible apply x_seq | with_reducible apply x_ex | with_reducible apply x_rt | with_reducible apply x_set | with_reducible apply x_par | with_reducible apply x_if | with_reducible apply x_asg | with_reducible apply x_for | with_reducible apply x_run | with_reducible apply x_bdy | with_reducible exact v_addI _ _ | with_reducible exact v_addII _ _ | with_reducible exact v_sub _ _ | with_reducible exact v_neg _ | with_reducible exact v_eqI _ _ | with_reducible exact v_eqS _ _ | with_reducible exact v_eqB _ _ | with_reducible exact v_neI _ _ | with_reducible exact v_neS _ _ | with_reducible exact v_lt _ _ | with_reducible exact v_le _ _ | with_reducible exact v_gt _ _ | with_reducible exact v_ge _ _ | with_reducible exact x_addTI _ _ | with_reducible exact x_slT _ _ _ | with_reducible exact x_slL _ _ _ | with_reducible exact v_lenL _ | with_reducible exact v_lenT _ | with_reducible exact v_lenSl _ | with_reducible exact v_kF _ | with_reducible exact v_srcL _ | with_reducible exact h_srcT _ | with_reducible exact v_abs _ | with_reducible exact v_max _ _ | with_reducible exact v_min _ _ | with_reducible exact g_kS _ | with_reducible apply x_asgH | with_reducible apply x_hTup | with_reducible exact x_hsNil | with_reducible apply x_hsCns | with_reducible apply x_hIx | with_reducible apply x_hNm | with_reducible apply x_hFld | with_reducible apply x_setix | ((with_reducible apply x_aug); exact rfl) | with_reducible apply x_fzF | with_reducible apply x_fzE | ((with_reducible apply x_T); decide) | ((with_reducible apply x_F); decide) | with_reducible exact x_ok | with_reducible exact x_go | with_reducible apply x_tNm | with_reducible apply x_tTup | with_reducible apply x_tLst | with_reducible exact x_tNil | with_reducible apply x_tCns | with_reducible exact xl_0 | with_reducible exact xl_1 | with_reducible exact xl_2 | with_reducible exact xl_3 | with_reducible exact xl_4 | with_reducible exact xl_5 | with_reducible exact xt_lst | with_reducible exact xt_sls | with_reducible exact xt_str | with_reducible exact f_rt _ | with_reducible exact f_nx | ((with_reducible apply wipe_of); simp only [wipeD, List.set_cons_zero, List.set_cons_succ]; exact rfl) | ((with_reducible apply env_of); simp only [List.map_cons, List.map_nil, List.length_cons, List.length_nil, Nat.reduceAdd, Nat.reduceSub, List.replicate, List.cons_append, List.nil_append]; exact rfl) | ((with_reducible apply x_isi); exact rfl) | ((with_reducible apply k_rng); decide) | ((with_reducible apply x_kLst); simp only [List.length_cons, List.length_nil]; decide) | ((with_reducible apply x_kTup); simp only [List.length_cons, List.length_nil]; decide) | ((with_reducible apply x_kLstS); simp only [List.length_cons, List.length_nil]; decide))

theorem wts_set : ∀ (xs : List PyData) (i : Nat) (p : PyData), wts (xs.set i p) ≤ wts xs + wt p + 2
  | [], i, p => by simp [wts]
  | x :: xs, 0, p => by rw [List.set_cons_zero, wts, wts]; omega
  | x :: xs, i + 1, p => by have := wts_set xs i p; rw [List.set_cons_succ, wts, wts]; omega
theorem GD.set {k l d : Nat} {X : List D} {x : D} (h : GD k d X) (g : GV l d x) (i : Nat) : GD (k + l + 2) d (X.set i x) := by
  obtain ⟨xs, rfl, h1, h2⟩ := h
  obtain ⟨p, rfl, g1, g2, g3, g4⟩ := g
  refine ⟨xs.set i p, (List.map_set ..).symm, fun y hy => ?_, by have := wts_set xs i p; omega⟩
  rcases List.mem_or_eq_of_mem_set hy with hy | rfl
  · exact h1 y hy
  · exact ⟨g1, g2, g3⟩
theorem ixN_nat {n : Nat} {i : Int} (h0 : 0 ≤ i) (h1 : i < n) : ixN n i = some i.toNat := by
  unfold ixN
  rw [if_pos h0, if_pos h1]
theorem set_at_end {s : Sto} {P : List D} {i : Int} {v : D} (h0 : 0 ≤ i) (h1 : i < P.length) : dSetL (.ref s.length) (.int i) v (s ++ [.lst P]) = some (s ++ [.lst (P.set i.toNat v)]) := by
  unfold dSetL
  simp only [lst_end, ixN_nat h0 h1, set_end, Option.map_some]
theorem ix_end {s : Sto} {P : List D} {i : Int} {x : D} {s' : Sto} (h : dIx (.lst P) (.int i) s' = .ok x s') : dIx (.ref s.length) (.int i) (s ++ [.lst P]) = .ok x (s ++ [.lst P]) := by
  unfold dIx at h ⊢
  simp only [asLL, asL, get_end] at h ⊢
  cases e : atI P i with
  | none => rw [e] at h; cases h
  | some y => rw [e] at h; cases h; rfl
theorem sp_way3 {s : Sto} {n k d : Nat} {P : List D} {w a c : Int} (hg : GD k d P) (hd : 2 ≤ d) (hk : k ≤ 25000) (a0 : 0 ≤ a) (a1 : a < P.length) (c0 : 0 ≤ c) (c1 : c < P.length) :
    ∃ P' σ', sSeq S_l_spoilt_10 (sSeq S_l_spoilt_11 S_l_spoilt_12) [some (.ref n), some (.lst P), some (.int w), some (.int a), some (.int c), none, none] s = .go (.rt (.ref s.length)) σ' (s ++ [.lst P']) ∧ GD (15 * k + 300) d P' := by
  obtain ⟨x, x1, x2⟩ := hg.ix a0 a1 s
  obtain ⟨y, y1, y2⟩ := hg.ix c0 c1 s
  have x3 := ix_end (s := s) x1
  have y3 := ix_end (s := s) y1
  have hs1 := set_at_end (s := s) (v := y) a0 a1
  have hs2 := set_at_end (s := s) (P := P.set a.toNat y) (v := x) c0 (by rw [List.length_set]; exact c1)
  refine ⟨(P.set a.toNat y).set c.toNat x, [some (.ref n), some (.lst P), some (.int w), some (.int a), some (.int c), some (.ref s.length), none], ?_, ((hg.set y2 _).set x2 _).more (by omega) (Nat.le_refl _)⟩
  have hcl : cList kS [.lst P] s = .ok (.ref s.length) (s ++ [.lst P]) := rfl
  unfold S_l_spoilt_10 S_l_spoilt_11 S_l_spoilt_12
  (repeat' first | with_reducible assumption | with_reducible exact x_cst _ | with_reducible exact x_yes | with_reducible exact x_nil | with_reducible exact x_ono | with_reducible exact x_nx | with_reducible exact x_bk | with_reducible exact x_ct | with_reducible exact x_srt _ | with_reducible exact set_0 | with_reducible apply set_S | with_reducible apply x_T rfl | with_reducible apply x_F rfl | with_reducible apply x_T (by assumption) | with_reducible apply x_F (by assumption) | with_reducible apply x_nT rfl | with_reducible apply x_nF rfl | with_reducible apply x_nT (by assumption) | with_reducible apply x_nF (by assumption) | ((with_reducible apply x_get); exact rfl) | with_reducible apply x_m2 | with_reducible apply x_m1 | with_reducible apply x_tst | with_reducible apply x_not | with_reducible apply x_and | with_reducible apply x_or | with_reducible apply x_vnot | with_reducible apply x_vand | with_reducible apply x_vor | with_reducible apply x_mif | with_reducible apply x_chn | with_reducible apply x_chn2 | with_reducible apply x_cons | with_reducible apply x_bnd | with_reducible apply x_mC | with_reducible apply x_call | with_reducible apply x_mM | with_reducible apply x_sl | with_reducible apply x_oso | with_reducible apply x_rev | with_reducible apply x_src | with_reducible apply x_enu | with_reducible apply x_rng | with_reducible apply x_lc | with_reducible apply x_fld | with_reducible apply x_snx | with_reducible apply x_seq | with_reducible apply x_ex | with_reducible apply x_rt | with_reducible apply x_set | with_reducible apply x_par | with_reducible apply x_if | with_reducible apply x_asg | with_reducible apply x_for | with_reducible apply x_run | with_reducible apply x_bdy | with_reducible exact v_addI _ _ | with_reducible exact v_addII _ _ | with_reducible exact v_sub _ _ | with_reducible exact v_neg _ | with_reducible exact v_eqI _ _ | with_reducible exact v_eqS _ _ | with_reducible exact v_eqB _ _ | with_reducible exact v_neI _ _ | with_reducible exact v_neS _ _ | with_reducible exact v_lt _ _ | with_reducible exact v_le _ _ | with_reducible exact v_gt _ _ | with_reducible exact v_ge _ _ | with_reducible exact x_addTI _ _ | with_reducible exact x_slT _ _ _ | with_reducible exact x_slL _ _ _ | with_reducible exact v_lenL _ | with_reducible exact v_lenT _ | with_reducible exact v_lenSl _ | with_reducible exact v_kF _ | with_reducible exact v_srcL _ | with_reducible exact h_srcT _ | with_reducible exact v_abs _ | with_reducible exact v_max _ _ | with_reducible exact v_min _ _ | with_reducible exact g_kS _ | with_reducible apply x_asgH | with_reducible apply x_hTup | with_reducible exact x_hsNil | with_reducible apply x_hsCns | with_reducible apply x_hIx | with_reducible apply x_hNm | with_reducible apply x_hFld | with_reducible apply x_setix | ((with_reducible apply x_aug); exact rfl) | with_reducible apply x_fzF | with_reducible apply x_fzE | ((with_reducible apply x_T); decide) | ((with_reducible apply x_F); decide) | with_reducible exact x_ok | with_reducible exact x_go | with_reducible apply x_tNm | with_reducible apply x_tTup | with_reducible apply x_tLst | with_reducible exact x_tNil | with_reducible apply x_tCns | with_reducible exact xl_0 | with_reducible exact xl_1 | with_reducible exact xl_2 | with_reducible exact xl_3 | with_reducible exact xl_4 | with_reducible exact xl_5 | with_reducible exact xt_lst | with_reducible exact xt_sls | with_reducible exact xt_str | with_reducible exact f_rt _ | with_reducible exact f_nx | ((with_reducible apply wipe_of); simp only [wipeD, List.set_cons_zero, List.set_cons_succ]; exact rfl) | ((with_reducible apply env_of); simp only [List.map_cons, List.map_nil, List.length_cons, List.length_nil, Nat.reduceAdd, Nat.reduceSub, List.replicate, List.cons_append, List.nil_append]; exact rfl) | ((with_reducible apply x_isi); exact rfl) | ((with_reducible apply k_rng); decide) | ((with_reducible apply x_kLst); simp only [List.length_cons, List.length_nil]; decide) | ((with_reducible apply x_kTup); simp only [List.length_cons, List.length_nil]; decide) | ((with_reducible apply x_kLstS); simp only [List.length_cons, List.length_nil]; decide))

def isS : PyData → Bool
  | .str _ => true
  | _ => false
def isTu : PyData → Bool
  | .tuple _ => true
  | _ => false
theorem isi_str {p : PyData} (h : p.canLay0 = true) (s : Sto) : cIsi [ofP p, .ty "str"] s = .ok (.bl (isS p)) s := by
  cases p with
  | dict _ => cases h
  | _ => rfl
theorem isi_tup {p : PyData} (h : p.canLay0 = true) (s : Sto) : cIsi [ofP p, .ty "tuple"] s = .ok (.bl (isTu p)) s := by
  cases p with
  | dict _ => cases h
  | _ => rfl
theorem all_strs : ∀ {xs : List PyData}, (xs.filter fun p => !isS p).isEmpty = true → ∃ ws : List Str, xs = ws.map PyData.str
  | [], _ => ⟨[], rfl⟩
  | x :: xs, h => by
    cases x with
    | str z =>
      rw [List.filter_cons_of_neg (by simp [isS])] at h
      obtain ⟨ws, rfl⟩ := all_strs h
      exact ⟨z :: ws, rfl⟩
    | _ => rw [List.filter_cons_of_pos (by rfl)] at h; cases h
theorem sp_way5 {s0 s : Sto} {n b k d : Nat} {P : List D} {w a c : Int} (h : Kp s0 s n b) (hb : b + 20 ≤ 1000000000000) (hg : GD k d P) (hd : 2 ≤ d) (hd7 : d ≤ 6) (hk : k ≤ 25000) (a0 : 0 ≤ a) (a1 : a < P.length) :
    ∃ x t, sSeq S_l_spoilt_15 S_l_spoilt_17 [some (.ref n), some (.lst P), some (.int w), some (.int a), some (.int c), none, none] s = .go (.rt x) [some (.ref n), some (.lst P), some (.int w), some (.int a), some (.int c), none, none] t ∧ Kp s0 t n (b + 3) ∧ GR (15 * k + 300) (d + 2) x := by
  obtain ⟨x, x1, x2⟩ := hg.ix a0 a1 s
  obtain ⟨p, rfl, gp⟩ := x2
  have it := isi_tup gp.lay s
  have g16 := (hg.cut (some 1) none).lst
  have e16 : S_l_spoilt_16 [some (.ref n), some (.lst P), some (.int w), some (.int a), some (.int c), none, none] s = .go (.rt (.lst (cutD P (some 1) none))) [some (.ref n), some (.lst P), some (.int w), some (.int a), some (.int c), none, none] s := by
    unfold S_l_spoilt_16
    (repeat' first | with_reducible assumption | with_reducible exact x_cst _ | with_reducible exact x_yes | with_reducible exact x_nil | with_reducible exact x_ono | with_reducible exact x_nx | with_reducible exact x_bk | with_reducible exact x_ct | with_reducible exact x_srt _ | with_reducible exact set_0 | with_reducible apply set_S | with_reducible apply x_T rfl | with_reducible apply x_F rfl | with_reducible apply x_T (by assumption) | with_reducible apply x_F (by assumption) | with_reducible apply x_nT rfl | with_reducible apply x_nF rfl | with_reducible apply x_nT (by assumption) | with_reducible apply x_nF (by assumption) | ((with_reducible apply x_get); exact rfl) | with_reducible apply x_m2 | with_reducible apply x_m1 | with_reducible apply x_tst | with_reducible apply x_not | with_reducible apply x_and | with_reducible apply x_or | with_reducible apply x_vnot | with_reducible apply x_vand | with_reducible apply x_vor | with_reducible apply x_mif | with_reducible apply x_chn | with_reducible apply x_chn2 | with_reducible apply x_cons | with_reducible apply x_bnd | with_reducible apply x_mC | with_reducible apply x_call | with_reducible apply x_mM | with_reducible apply x_sl | with_reducible apply x_oso | with_reducible apply x_rev | with_reducible apply x_src | with_reducible apply x_enu | with_reducible apply x_rng | with_reducible apply x_lc | with_reducible apply x_fld | with_reducible apply x_snx | with_reducible apply x_seq | with_reducible apply x_ex | with_reducible apply x_rt | with_reducible apply x_set | with_reducible apply x_par | with_reducible apply x_if | with_reducible apply x_asg | with_reducible apply x_for | with_reducible apply x_run | with_reducible apply x_bdy | with_reducible exact v_addI _ _ | with_reducible exact v_addII _ _ | with_reducible exact v_sub _ _ | with_reducible exact v_neg _ | with_reducible exact v_eqI _ _ | with_reducible exact v_eqS _ _ | with_reducible exact v_eqB _ _ | with_reducible exact v_neI _ _ | with_reducible exact v_neS _ _ | with_reducible exact v_lt _ _ | with_reducible exact v_le _ _ | with_reducible exact v_gt _ _ | with_reducible exact v_ge _ _ | with_reducible exact x_addTI _ _ | with_reducible exact x_slT _ _ _ | with_reducible exact x_slL _ _ _ | with_reducible exact v_lenL _ | with_reducible exact v_lenT _ | with_reducible exact v_lenSl _ | with_reducible exact v_kF _ | with_reducible exact v_srcL _ | with_reducible exact h_srcT _ | with_reducible exact v_abs _ | with_reducible exact v_max _ _ | with_reducible exact v_min _ _ | with_reducible exact g_kS _ | with_reducible apply x_asgH | with_reducible apply x_hTup | with_reducible exact x_hsNil | with_reducible apply x_hsCns | with_reducible apply x_hIx | with_reducible apply x_hNm | with_reducible apply x_hFld | with_reducible apply x_setix | ((with_reducible apply x_aug); exact rfl) | with_reducible apply x_fzF | with_reducible apply x_fzE | ((with_reducible apply x_T); decide) | ((with_reducible apply x_F); decide) | with_reducible exact x_ok | with_reducible exact x_go | with_reducible apply x_tNm | with_reducible apply x_tTup | with_reducible apply x_tLst | with_reducible exact x_tNil | with_reducible apply x_tCns | with_reducible exact xl_0 | with_reducible exact xl_1 | with_reducible exact xl_2 | with_reducible exact xl_3 | with_reducible exact xl_4 | with_reducible exact xl_5 | with_reducible exact xt_lst | with_reducible exact xt_sls | with_reducible exact xt_str | with_reducible exact f_rt _ | with_reducible exact f_nx | ((with_reducible apply wipe_of); simp only [wipeD, List.set_cons_zero, List.set_cons_succ]; exact rfl) | ((with_reducible apply env_of); simp only [List.map_cons, List.map_nil, List.length_cons, List.length_nil, Nat.reduceAdd, Nat.reduceSub, List.replicate, List.cons_append, List.nil_append]; exact rfl) | ((with_reducible apply x_isi); exact rfl) | ((with_reducible apply k_rng); decide) | ((with_reducible apply x_kLst); simp only [List.length_cons, List.length_nil]; decide) | ((with_reducible apply x_kTup); simp only [List.length_cons, List.length_nil]; decide) | ((with_reducible apply x_kLstS); simp only [List.length_cons, List.length_nil]; decide))
  cases hT : isTu p with
  | false =>
    rw [hT] at it
    refine ⟨_, s, ?_, h.more (by omega), .inr (g16.more (by omega) (by omega))⟩
    unfold S_l_spoilt_15
    (repeat' first | with_reducible assumption | with_reducible exact x_cst _ | with_reducible exact x_yes | with_reducible exact x_nil | with_reducible exact x_ono | with_reducible exact x_nx | with_reducible exact x_bk | with_reducible exact x_ct | with_reducible exact x_srt _ | with_reducible exact set_0 | with_reducible apply set_S | with_reducible apply x_T rfl | with_reducible apply x_F rfl | with_reducible apply x_T (by assumption) | with_reducible apply x_F (by assumption) | with_reducible apply x_nT rfl | with_reducible apply x_nF rfl | with_reducible apply x_nT (by assumption) | with_reducible apply x_nF (by assumption) | ((with_reducible apply x_get); exact rfl) | with_reducible apply x_m2 | with_reducible apply x_m1 | with_reducible apply x_tst | with_reducible apply x_not | with_reducible apply x_and | with_reducible apply x_or | with_reducible apply x_vnot | with_reducible apply x_vand | with_reducible apply x_vor | with_reducible apply x_mif | with_reducible apply x_chn | with_reducible apply x_chn2 | with_reducible apply x_cons | with_reducible apply x_bnd | with_reducible apply x_mC | with_reducible apply x_call | with_reducible apply x_mM | with_reducible apply x_sl | with_reducible apply x_oso | with_reducible apply x_rev | with_reducible apply x_src | with_reducible apply x_enu | with_reducible apply x_rng | with_reducible apply x_lc | with_reducible apply x_fld | with_reducible apply x_snx | with_reducible apply x_seq | with_reducible apply x_ex | with_reducible apply x_rt | with_reducible apply x_set | with_reducible apply x_par | with_reducible apply x_if | with_reducible apply x_asg | with_reducible apply x_for | with_reducible apply x_run | with_reducible apply x_bdy | with_reducible exact v_addI _ _ | with_reducible exact v_addII _ _ | with_reducible exact v_sub _ _ | with_reducible exact v_neg _ | with_reducible exact v_eqI _ _ | with_reducible exact v_eqS _ _ | with_reducible exact v_eqB _ _ | with_reducible exact v_neI _ _ | with_reducible exact v_neS _ _ | with_reducible exact v_lt _ _ | with_reducible exact v_le _ _ | with_reducible exact v_gt _ _ | with_reducible exact v_ge _ _ | with_reducible exact x_addTI _ _ | with_reducible exact x_slT _ _ _ | with_reducible exact x_slL _ _ _ | with_reducible exact v_lenL _ | with_reducible exact v_lenT _ | with_reducible exact v_lenSl _ | with_reducible exact v_kF _ | with_reducible exact v_srcL _ | with_reducible exact h_srcT _ | with_reducible exact v_abs _ | with_reducible exact v_max _ _ | with_reducible exact v_min _ _ | with_reducible exact g_kS _ | with_reducible apply x_asgH | with_reducible apply x_hTup | with_reducible exact x_hsNil | with_reducible apply x_hsCns | with_reducible apply x_hIx | with_reducible apply x_hNm | with_reducible apply x_hFld | with_reducible apply x_setix | ((with_reducible apply x_aug); exact rfl) | with_reducible apply x_fzF | with_reducible apply x_fzE | ((with_reducible apply x_T); decide) | ((with_reducible apply x_F); decide) | with_reducible exact x_ok | with_reducible exact x_go | with_reducible apply x_tNm | with_reducible apply x_tTup | with_reducible apply x_tLst | with_reducible exact x_tNil | with_reducible apply x_tCns | with_reducible exact xl_0 | with_reducible exact xl_1 | with_reducible exact xl_2 | with_reducible exact xl_3 | with_reducible exact xl_4 | with_reducible exact xl_5 | with_reducible exact xt_lst | with_reducible exact xt_sls | with_reducible exact xt_str | with_reducible exact f_rt _ | with_reducible exact f_nx | ((with_reducible apply wipe_of); simp only [wipeD, List.set_cons_zero, List.set_cons_succ]; exact rfl) | ((with_reducible apply env_of); simp only [List.map_cons, List.map_nil, List.length_cons, List.length_nil, Nat.reduceAdd, Nat.reduceSub, List.replicate, List.cons_append, List.nil_append]; exact rfl) | ((with_reducible apply x_isi); exact rfl) | ((with_reducible apply k_rng); decide) | ((with_reducible apply x_kLst); simp only [List.length_cons, List.length_nil]; decide) | ((with_reducible apply x_kTup); simp only [List.length_cons, List.length_nil]; decide) | ((with_reducible apply x_kLstS); simp only [List.length_cons, List.length_nil]; decide))
  | true =>
    rw [hT] at it
    cases p with
    | tuple xs =>
      have gxs : Gd k (.tuple xs) := gp.gd (by omega)
      have hl := (gd_tuple.mp gxs).len
      have hc : cmpL (tNm 6) T_l_spoilt_15_57 E_l_spoilt_15_57 [some (.ref n), some (.lst P), some (.int w), some (.int a), some (.int c), none, none] (xs.map ofP) [] s = .ok ((xs.filter fun p => !isS p).map ofP) s := by
        refine cmpL_flt (b := fun p => !isS p) s xs [] (by rw [List.length_nil]; show 0 + xs.length ≤ 1000000; omega) fun q hq => ⟨_, rfl, ?_, ?_⟩
        · have := isi_str ((gd_tuple.mp gxs).mem hq).lay s
          unfold T_l_spoilt_15_57
          simp only [List.set]
          (repeat' first | with_reducible assumption | with_reducible exact x_cst _ | with_reducible exact x_yes | with_reducible exact x_nil | with_reducible exact x_ono | with_reducible exact x_nx | with_reducible exact x_bk | with_reducible exact x_ct | with_reducible exact x_srt _ | with_reducible exact set_0 | with_reducible apply set_S | with_reducible apply x_T rfl | with_reducible apply x_F rfl | with_reducible apply x_T (by assumption) | with_reducible apply x_F (by assumption) | with_reducible apply x_nT rfl | with_reducible apply x_nF rfl | with_reducible apply x_nT (by assumption) | with_reducible apply x_nF (by assumption) | ((with_reducible apply x_get); exact rfl) | with_reducible apply x_m2 | with_reducible apply x_m1 | with_reducible apply x_tst | with_reducible apply x_not | with_reducible apply x_and | with_reducible apply x_or | with_reducible apply x_vnot | with_reducible apply x_vand | with_reducible apply x_vor | with_reducible apply x_mif | with_reducible apply x_chn | with_reducible apply x_chn2 | with_reducible apply x_cons | with_reducible apply x_bnd | with_reducible apply x_mC | with_reducible apply x_call | with_reducible apply x_mM | with_reducible apply x_sl | with_reducible apply x_oso | with_reducible apply x_rev | with_reducible apply x_src | with_reducible apply x_enu | with_reducible apply x_rng | with_reducible apply x_lc | with_reducible apply x_fld | with_reducible apply x_snx | with_reducible apply x_seq | with_reducible apply x_ex | with_reducible apply x_rt | with_reducible apply x_set | with_reducible apply x_par | with_reducible apply x_if | with_reducible apply x_asg | with_reducible apply x_for | with_reducible apply x_run | with_reducible apply x_bdy | with_reducible exact v_addI _ _ | with_reducible exact v_addII _ _ | with_reducible exact v_sub _ _ | with_reducible exact v_neg _ | with_reducible exact v_eqI _ _ | with_reducible exact v_eqS _ _ | with_reducible exact v_eqB _ _ | with_reducible exact v_neI _ _ | with_reducible exact v_neS _ _ | with_reducible exact v_lt _ _ | with_reducible exact v_le _ _ | with_reducible exact v_gt _ _ | with_reducible exact v_ge _ _ | with_reducible exact x_addTI _ _ | with_reducible exact x_slT _ _ _ | with_reducible exact x_slL _ _ _ | with_reducible exact v_lenL _ | with_reducible exact v_lenT _ | with_reducible exact v_lenSl _ | with_reducible exact v_kF _ | with_reducible exact v_srcL _ | with_reducible exact h_srcT _ | with_reducible exact v_abs _ | with_reducible exact v_max _ _ | with_reducible exact v_min _ _ | with_reducible exact g_kS _ | with_reducible apply x_asgH | with_reducible apply x_hTup | with_reducible exact x_hsNil | with_reducible apply x_hsCns | with_reducible apply x_hIx | with_reducible apply x_hNm | with_reducible apply x_hFld | with_reducible apply x_setix | ((with_reducible apply x_aug); exact rfl) | with_reducible apply x_fzF | with_reducible apply x_fzE | ((with_reducible apply x_T); decide) | ((with_reducible apply x_F); decide) | with_reducible exact x_ok | with_reducible exact x_go | with_reducible apply x_tNm | with_reducible apply x_tTup | with_reducible apply x_tLst | with_reducible exact x_tNil | with_reducible apply x_tCns | with_reducible exact xl_0 | with_reducible exact xl_1 | with_reducible exact xl_2 | with_reducible exact xl_3 | with_reducible exact xl_4 | with_reducible exact xl_5 | with_reducible exact xt_lst | with_reducible exact xt_sls | with_reducible exact xt_str | with_reducible exact f_rt _ | with_reducible exact f_nx | ((with_reducible apply wipe_of); simp only [wipeD, List.set_cons_zero, List.set_cons_succ]; exact rfl) | ((with_reducible apply env_of); simp only [List.map_cons, List.map_nil, List.length_cons, List.length_nil, Nat.reduceAdd, Nat.reduceSub, List.replicate, List.cons_append, List.nil_append]; exact rfl) | ((with_reducible apply x_isi); exact rfl) | ((with_reducible apply k_rng); decide) | ((with_reducible apply x_kLst); simp only [List.length_cons, List.length_nil]; decide) | ((with_reducible apply x_kTup); simp only [List.length_cons, List.length_nil]; decide) | ((with_reducible apply x_kLstS); simp only [List.length_cons, List.length_nil]; decide))
        · unfold E_l_spoilt_15_57
          simp only [List.set]
          (repeat' first | with_reducible assumption | with_reducible exact x_cst _ | with_reducible exact x_yes | with_reducible exact x_nil | with_reducible exact x_ono | with_reducible exact x_nx | with_reducible exact x_bk | with_reducible exact x_ct | with_reducible exact x_srt _ | with_reducible exact set_0 | with_reducible apply set_S | with_reducible apply x_T rfl | with_reducible apply x_F rfl | with_reducible apply x_T (by assumption) | with_reducible apply x_F (by assumption) | with_reducible apply x_nT rfl | with_reducible apply x_nF rfl | with_reducible apply x_nT (by assumption) | with_reducible apply x_nF (by assumption) | ((with_reducible apply x_get); exact rfl) | with_reducible apply x_m2 | with_reducible apply x_m1 | with_reducible apply x_tst | with_reducible apply x_not | with_reducible apply x_and | with_reducible apply x_or | with_reducible apply x_vnot | with_reducible apply x_vand | with_reducible apply x_vor | with_reducible apply x_mif | with_reducible apply x_chn | with_reducible apply x_chn2 | with_reducible apply x_cons | with_reducible apply x_bnd | with_reducible apply x_mC | with_reducible apply x_call | with_reducible apply x_mM | with_reducible apply x_sl | with_reducible apply x_oso | with_reducible apply x_rev | with_reducible apply x_src | with_reducible apply x_enu | with_reducible apply x_rng | with_reducible apply x_lc | with_reducible apply x_fld | with_reducible apply x_snx | with_reducible apply x_seq | with_reducible apply x_ex | with_reducible apply x_rt | with_reducible apply x_set | with_reducible apply x_par | with_reducible apply x_if | with_reducible apply x_asg | with_reducible apply x_for | with_reducible apply x_run | with_reducible apply x_bdy | with_reducible exact v_addI _ _ | with_reducible exact v_addII _ _ | with_reducible exact v_sub _ _ | with_reducible exact v_neg _ | with_reducible exact v_eqI _ _ | with_reducible exact v_eqS _ _ | with_reducible exact v_eqB _ _ | with_reducible exact v_neI _ _ | with_reducible exact v_neS _ _ | with_reducible exact v_lt _ _ | with_reducible exact v_le _ _ | with_reducible exact v_gt _ _ | with_reducible exact v_ge _ _ | with_reducible exact x_addTI _ _ | with_reducible exact x_slT _ _ _ | with_reducible exact x_slL _ _ _ | with_reducible exact v_lenL _ | with_reducible exact v_lenT _ | with_reducible exact v_lenSl _ | with_reducible exact v_kF _ | with_reducible exact v_srcL _ | with_reducible exact h_srcT _ | with_reducible exact v_abs _ | with_reducible exact v_max _ _ | with_reducible exact v_min _ _ | with_reducible exact g_kS _ | with_reducible apply x_asgH | with_reducible apply x_hTup | with_reducible exact x_hsNil | with_reducible apply x_hsCns | with_reducible apply x_hIx | with_reducible apply x_hNm | with_reducible apply x_hFld | with_reducible apply x_setix | ((with_reducible apply x_aug); exact rfl) | with_reducible apply x_fzF | with_reducible apply x_fzE | ((with_reducible apply x_T); decide) | ((with_reducible apply x_F); decide) | with_reducible exact x_ok | with_reducible exact x_go | with_reducible apply x_tNm | with_reducible apply x_tTup | with_reducible apply x_tLst | with_reducible exact x_tNil | with_reducible apply x_tCns | with_reducible exact xl_0 | with_reducible exact xl_1 | with_reducible exact xl_2 | with_reducible exact xl_3 | with_reducible exact xl_4 | with_reducible exact xl_5 | with_reducible exact xt_lst | with_reducible exact xt_sls | with_reducible exact xt_str | with_reducible exact f_rt _ | with_reducible exact f_nx | ((with_reducible apply wipe_of); simp only [wipeD, List.set_cons_zero, List.set_cons_succ]; exact rfl) | ((with_reducible apply env_of); simp only [List.map_cons, List.map_nil, List.length_cons, List.length_nil, Nat.reduceAdd, Nat.reduceSub, List.replicate, List.cons_append, List.nil_append]; exact rfl) | ((with_reducible apply x_isi); exact rfl) | ((with_reducible apply k_rng); decide) | ((with_reducible apply x_kLst); simp only [List.length_cons, List.length_nil]; decide) | ((with_reducible apply x_kTup); simp only [List.length_cons, List.length_nil]; decide) | ((with_reducible apply x_kLstS); simp only [List.length_cons, List.length_nil]; decide))
      have hn := nl_F (gd_sub (gd_tuple.mp gxs) (List.filter_sublist (p := fun p => !isS p))) s
      have ef : ofP (.tuple xs) = .tup (xs.map ofP) := by rw [ofP, ofPs_map]
      rw [ef] at x1 it
      cases hE : (xs.filter fun p => !isS p).isEmpty with
      | false =>
        rw [hE] at hn
        refine ⟨_, s, ?_, h.more (by omega), .inr (g16.more (by omega) (by omega))⟩
        unfold S_l_spoilt_15
        (repeat' first | with_reducible assumption | with_reducible exact x_cst _ | with_reducible exact x_yes | with_reducible exact x_nil | with_reducible exact x_ono | with_reducible exact x_nx | with_reducible exact x_bk | with_reducible exact x_ct | with_reducible exact x_srt _ | with_reducible exact set_0 | with_reducible apply set_S | with_reducible apply x_T rfl | with_reducible apply x_F rfl | with_reducible apply x_T (by assumption) | with_reducible apply x_F (by assumption) | with_reducible apply x_nT rfl | with_reducible apply x_nF rfl | with_reducible apply x_nT (by assumption) | with_reducible apply x_nF (by assumption) | ((with_reducible apply x_get); exact rfl) | with_reducible apply x_m2 | with_reducible apply x_m1 | with_reducible apply x_tst | with_reducible apply x_not | with_reducible apply x_and | with_reducible apply x_or | with_reducible apply x_vnot | with_reducible apply x_vand | with_reducible apply x_vor | with_reducible apply x_mif | with_reducible apply x_chn | with_reducible apply x_chn2 | with_reducible apply x_cons | with_reducible apply x_bnd | with_reducible apply x_mC | with_reducible apply x_call | with_reducible apply x_mM | with_reducible apply x_sl | with_reducible apply x_oso | with_reducible apply x_rev | with_reducible apply x_src | with_reducible apply x_enu | with_reducible apply x_rng | with_reducible apply x_lc | with_reducible apply x_fld | with_reducible apply x_snx | with_reducible apply x_seq | with_reducible apply x_ex | with_reducible apply x_rt | with_reducible apply x_set | with_reducible apply x_par | with_reducible apply x_if | with_reducible apply x_asg | with_reducible apply x_for | with_reducible apply x_run | with_reducible apply x_bdy | with_reducible exact v_addI _ _ | with_reducible exact v_addII _ _ | with_reducible exact v_sub _ _ | with_reducible exact v_neg _ | with_reducible exact v_eqI _ _ | with_reducible exact v_eqS _ _ | with_reducible exact v_eqB _ _ | with_reducible exact v_neI _ _ | with_reducible exact v_neS _ _ | with_reducible exact v_lt _ _ | with_reducible exact v_le _ _ | with_reducible exact v_gt _ _ | with_reducible exact v_ge _ _ | with_reducible exact x_addTI _ _ | with_reducible exact x_slT _ _ _ | with_reducible exact x_slL _ _ _ | with_reducible exact v_lenL _ | with_reducible exact v_lenT _ | with_reducible exact v_lenSl _ | with_reducible exact v_kF _ | with_reducible exact v_srcL _ | with_reducible exact h_srcT _ | with_reducible exact v_abs _ | with_reducible exact v_max _ _ | with_reducible exact v_min _ _ | with_reducible exact g_kS _ | with_reducible apply x_asgH | with_reducible apply x_hTup | with_reducible exact x_hsNil | with_reducible apply x_hsCns | with_reducible apply x_hIx | with_reducible apply x_hNm | with_reducible apply x_hFld | with_reducible apply x_setix | ((with_reducible apply x_aug); exact rfl) | with_reducible apply x_fzF | with_reducible apply x_fzE | ((with_reducible apply x_T); decide) | ((with_reducible apply x_F); decide) | with_reducible exact x_ok | with_reducible exact x_go | with_reducible apply x_tNm | with_reducible apply x_tTup | with_reducible apply x_tLst | with_reducible exact x_tNil | with_reducible apply x_tCns | with_reducible exact xl_0 | with_reducible exact xl_1 | with_reducible exact xl_2 | with_reducible exact xl_3 | with_reducible exact xl_4 | with_reducible exact xl_5 | with_reducible exact xt_lst | with_reducible exact xt_sls | with_reducible exact xt_str | with_reducible exact f_rt _ | with_reducible exact f_nx | ((with_reducible apply wipe_of); simp only [wipeD, List.set_cons_zero, List.set_cons_succ]; exact rfl) | ((with_reducible apply env_of); simp only [List.map_cons, List.map_nil, List.length_cons, List.length_nil, Nat.reduceAdd, Nat.reduceSub, List.replicate, List.cons_append, List.nil_append]; exact rfl) | ((with_reducible apply x_isi); exact rfl) | ((with_reducible apply k_rng); decide) | ((with_reducible apply x_kLst); simp only [List.length_cons, List.length_nil]; decide) | ((with_reducible apply x_kTup); simp only [List.length_cons, List.length_nil]; decide) | ((with_reducible apply x_kLstS); simp only [List.length_cons, List.length_nil]; decide))
      | true =>
        obtain ⟨ws, rfl⟩ := all_strs hE
        rw [hE] at hn
        have hgx : GX k 0 (ws.map PyData.str) := by
          refine ⟨fun y hy => ?_, (gd_tuple.mp gxs).wt⟩
          obtain ⟨z, hz, rfl⟩ := List.mem_map.mp hy
          exact ⟨((gd_tuple.mp gxs).mem hy).lay, rfl, Nat.zero_le _⟩
        obtain ⟨y, t, y1, y2, y3⟩ := spart_ok h (by omega) hgx hk
        have em : (ws.map PyData.str).map ofP = ws.map D.str := by rw [List.map_map]; rfl
        rw [em] at hc x1 it
        have go := GD.one (y3.more (Nat.le_refl _) hd)
        have g1 := (hg.cut none (some a)).app go
        have z1 := x_addL (s := t) (len_ok (hg.cut none (some a)) go (by omega))
        have z2 := x_addL (s := t) (len_ok g1 (hg.cut (some (a + 1)) none) (by omega))
        refine ⟨_, t, ?_, y2, .inr ((g1.app (hg.cut (some (a + 1)) none)).lst.more (by omega) (by omega))⟩
        unfold S_l_spoilt_15 S_l_spoilt_17
        (repeat' first | with_reducible assumption | with_reducible exact x_cst _ | with_reducible exact x_yes | with_reducible exact x_nil | with_reducible exact x_ono | with_reducible exact x_nx | with_reducible exact x_bk | with_reducible exact x_ct | with_reducible exact x_srt _ | with_reducible exact set_0 | with_reducible apply set_S | with_reducible apply x_T rfl | with_reducible apply x_F rfl | with_reducible apply x_T (by assumption) | with_reducible apply x_F (by assumption) | with_reducible apply x_nT rfl | with_reducible apply x_nF rfl | with_reducible apply x_nT (by assumption) | with_reducible apply x_nF (by assumption) | ((with_reducible apply x_get); exact rfl) | with_reducible apply x_m2 | with_reducible apply x_m1 | with_reducible apply x_tst | with_reducible apply x_not | with_reducible apply x_and | with_reducible apply x_or | with_reducible apply x_vnot | with_reducible apply x_vand | with_reducible apply x_vor | with_reducible apply x_mif | with_reducible apply x_chn | with_reducible apply x_chn2 | with_reducible apply x_cons | with_reducible apply x_bnd | with_reducible apply x_mC | with_reducible apply x_call | with_reducible apply x_mM | with_reducible apply x_sl | with_reducible apply x_oso | with_reducible apply x_rev | with_reducible apply x_src | with_reducible apply x_enu | with_reducible apply x_rng | with_reducible apply x_lc | with_reducible apply x_fld | with_reducible apply x_snx | with_reducible apply x_seq | with_reducible apply x_ex | with_reducible apply x_rt | with_reducible apply x_set | with_reducible apply x_par | with_reducible apply x_if | with_reducible apply x_asg | with_reducible apply x_for | with_reducible apply x_run | with_reducible apply x_bdy | with_reducible exact v_addI _ _ | with_reducible exact v_addII _ _ | with_reducible exact v_sub _ _ | with_reducible exact v_neg _ | with_reducible exact v_eqI _ _ | with_reducible exact v_eqS _ _ | with_reducible exact v_eqB _ _ | with_reducible exact v_neI _ _ | with_reducible exact v_neS _ _ | with_reducible exact v_lt _ _ | with_reducible exact v_le _ _ | with_reducible exact v_gt _ _ | with_reducible exact v_ge _ _ | with_reducible exact x_addTI _ _ | with_reducible exact x_slT _ _ _ | with_reducible exact x_slL _ _ _ | with_reducible exact v_lenL _ | with_reducible exact v_lenT _ | with_reducible exact v_lenSl _ | with_reducible exact v_kF _ | with_reducible exact v_srcL _ | with_reducible exact h_srcT _ | with_reducible exact v_abs _ | with_reducible exact v_max _ _ | with_reducible exact v_min _ _ | with_reducible exact g_kS _ | with_reducible apply x_asgH | with_reducible apply x_hTup | with_reducible exact x_hsNil | with_reducible apply x_hsCns | with_reducible apply x_hIx | with_reducible apply x_hNm | with_reducible apply x_hFld | with_reducible apply x_setix | ((with_reducible apply x_aug); exact rfl) | with_reducible apply x_fzF | with_reducible apply x_fzE | ((with_reducible apply x_T); decide) | ((with_reducible apply x_F); decide) | with_reducible exact x_ok | with_reducible exact x_go | with_reducible apply x_tNm | with_reducible apply x_tTup | with_reducible apply x_tLst | with_reducible exact x_tNil | with_reducible apply x_tCns | with_reducible exact xl_0 | with_reducible exact xl_1 | with_reducible exact xl_2 | with_reducible exact xl_3 | with_reducible exact xl_4 | with_reducible exact xl_5 | with_reducible exact xt_lst | with_reducible exact xt_sls | with_reducible exact xt_str | with_reducible exact f_rt _ | with_reducible exact f_nx | ((with_reducible apply wipe_of); simp only [wipeD, List.set_cons_zero, List.set_cons_succ]; exact rfl) | ((with_reducible apply env_of); simp only [List.map_cons, List.map_nil, List.length_cons, List.length_nil, Nat.reduceAdd, Nat.reduceSub, List.replicate, List.cons_append, List.nil_append]; exact rfl) | ((with_reducible apply x_isi); exact rfl) | ((with_reducible apply k_rng); decide) | ((with_reducible apply x_kLst); simp only [List.length_cons, List.length_nil]; decide) | ((with_reducible apply x_kTup); simp only [List.length_cons, List.length_nil]; decide) | ((with_reducible apply x_kLstS); simp only [List.length_cons, List.length_nil]; decide))
    | _ => cases hT

theorem Kp.frz0 {s t : Sto} {n b : Nat} {x : D} {d : Nat} (h : Kp s t n b) (hx : Pl d x) (hd : d ≤ 20) : frzR s (.ok x t) = .ok x t := by
  have := h.frzD (L := []) hx hd
  rw [List.append_nil] at this
  exact this
theorem spoilt_ok {s : Sto} {n b k d : Nat} {P : List D} (h : Bag s n b) (hb : b + 30 ≤ 1000000000000) (hg : GD k d P) (hd : 2 ≤ d) (hd7 : d ≤ 6) (hk : k ≤ 25000) (hP : 0 < P.length) :
    ∃ x t, m_l_spoilt [.ref n, .lst P] s = .ok x t ∧ Kp s t n (b + 10) ∧ GR (15 * k + 300) (d + 2) x := by
  have hl := hg.len
  have hlog : ((P.length : Nat) : Int).natAbs.log2 < 9000 := by
    have h1 : ((P.length : Nat) : Int).natAbs < 2 ^ 20 := by omega
    exact Nat.lt_trans ((Nat.log2_lt (by omega)).mpr h1) (by decide)
  obtain ⟨a, s1, a1, a2, a3, a4⟩ := take_kp ((P.length : Nat) : Int) (Kp.refl h) (by omega) (by omega) hlog
  obtain ⟨c, s2, c1, c2, c3, c4⟩ := take_kp ((P.length : Nat) : Int) a4 (by omega) (by omega) hlog
  obtain ⟨w, s3, w1, w2, w3, w4⟩ := take_kp 9 c4 (by omega) (by decide) (by decide)
  have e1 : S_l_spoilt_1 [some (.ref n), some (.lst P), none, none, none, none, none] s = .go .nx [some (.ref n), some (.lst P), none, some (.int a), some (.int c), none, none] s2 := by
    unfold S_l_spoilt_1
    (repeat' first | with_reducible assumption | with_reducible exact x_cst _ | with_reducible exact x_yes | with_reducible exact x_nil | with_reducible exact x_ono | with_reducible exact x_nx | with_reducible exact x_bk | with_reducible exact x_ct | with_reducible exact x_srt _ | with_reducible exact set_0 | with_reducible apply set_S | with_reducible apply x_T rfl | with_reducible apply x_F rfl | with_reducible apply x_T (by assumption) | with_reducible apply x_F (by assumption) | with_reducible apply x_nT rfl | with_reducible apply x_nF rfl | with_reducible apply x_nT (by assumption) | with_reducible apply x_nF (by assumption) | ((with_reducible apply x_get); exact rfl) | with_reducible apply x_m2 | with_reducible apply x_m1 | with_reducible apply x_tst | with_reducible apply x_not | with_reducible apply x_and | with_reducible apply x_or | with_reducible apply x_vnot | with_reducible apply x_vand | with_reducible apply x_vor | with_reducible apply x_mif | with_reducible apply x_chn | with_reducible apply x_chn2 | with_reducible apply x_cons | with_reducible apply x_bnd | with_reducible apply x_mC | with_reducible apply x_call | with_reducible apply x_mM | with_reducible apply x_sl | with_reducible apply x_oso | with_reducible apply x_rev | with_reducible apply x_src | with_reducible apply x_enu | with_reducible apply x_rng | with_reducible apply x_lc | with_reducible apply x_fld | with_reducible apply x_snx | with_reducible apply x_seq | with_reducible apply x_ex | with_reducible apply x_rt | with_reducible apply x_set | with_reducible apply x_par | with_reducible apply x_if | with_reducible apply x_asg | with_reducible apply x_for | with_reducible apply x_run | with_reducible apply x_bdy | with_reducible exact v_addI _ _ | with_reducible exact v_addII _ _ | with_reducible exact v_sub _ _ | with_reducible exact v_neg _ | with_reducible exact v_eqI _ _ | with_reducible exact v_eqS _ _ | with_reducible exact v_eqB _ _ | with_reducible exact v_neI _ _ | with_reducible exact v_neS _ _ | with_reducible exact v_lt _ _ | with_reducible exact v_le _ _ | with_reducible exact v_gt _ _ | with_reducible exact v_ge _ _ | with_reducible exact x_addTI _ _ | with_reducible exact x_slT _ _ _ | with_reducible exact x_slL _ _ _ | with_reducible exact v_lenL _ | with_reducible exact v_lenT _ | with_reducible exact v_lenSl _ | with_reducible exact v_kF _ | with_reducible exact v_srcL _ | with_reducible exact h_srcT _ | with_reducible exact v_abs _ | with_reducible exact v_max _ _ | with_reducible exact v_min _ _ | with_reducible exact g_kS _ | with_reducible apply x_asgH | with_reducible apply x_hTup | with_reducible exact x_hsNil | with_reducible apply x_hsCns | with_reducible apply x_hIx | with_reducible apply x_hNm | with_reducible apply x_hFld | with_reducible apply x_setix | ((with_reducible apply x_aug); exact rfl) | with_reducible apply x_fzF | with_reducible apply x_fzE | ((with_reducible apply x_T); decide) | ((with_reducible apply x_F); decide) | with_reducible exact x_ok | with_reducible exact x_go | with_reducible apply x_tNm | with_reducible apply x_tTup | with_reducible apply x_tLst | with_reducible exact x_tNil | with_reducible apply x_tCns | with_reducible exact xl_0 | with_reducible exact xl_1 | with_reducible exact xl_2 | with_reducible exact xl_3 | with_reducible exact xl_4 | with_reducible exact xl_5 | with_reducible exact xt_lst | with_reducible exact xt_sls | with_reducible exact xt_str | with_reducible exact f_rt _ | with_reducible exact f_nx | ((with_reducible apply wipe_of); simp only [wipeD, List.set_cons_zero, List.set_cons_succ]; exact rfl) | ((with_reducible apply env_of); simp only [List.map_cons, List.map_nil, List.length_cons, List.length_nil, Nat.reduceAdd, Nat.reduceSub, List.replicate, List.cons_append, List.nil_append]; exact rfl) | ((with_reducible apply x_isi); exact rfl) | ((with_reducible apply k_rng); decide) | ((with_reducible apply x_kLst); simp only [List.length_cons, List.length_nil]; decide) | ((with_reducible apply x_kTup); simp only [List.length_cons, List.length_nil]; decide) | ((with_reducible apply x_kLstS); simp only [List.length_cons, List.length_nil]; decide))
  have e2 : S_l_spoilt_2 [some (.ref n), some (.lst P), none, some (.int a), some (.int c), none, none] s2 = .go .nx [some (.ref n), some (.lst P), some (.int w), some (.int a), some (.int c), none, none] s3 := by
    unfold S_l_spoilt_2
    (repeat' first | with_reducible assumption | with_reducible exact x_cst _ | with_reducible exact x_yes | with_reducible exact x_nil | with_reducible exact x_ono | with_reducible exact x_nx | with_reducible exact x_bk | with_reducible exact x_ct | with_reducible exact x_srt _ | with_reducible exact set_0 | with_reducible apply set_S | with_reducible apply x_T rfl | with_reducible apply x_F rfl | with_reducible apply x_T (by assumption) | with_reducible apply x_F (by assumption) | with_reducible apply x_nT rfl | with_reducible apply x_nF rfl | with_reducible apply x_nT (by assumption) | with_reducible apply x_nF (by assumption) | ((with_reducible apply x_get); exact rfl) | with_reducible apply x_m2 | with_reducible apply x_m1 | with_reducible apply x_tst | with_reducible apply x_not | with_reducible apply x_and | with_reducible apply x_or | with_reducible apply x_vnot | with_reducible apply x_vand | with_reducible apply x_vor | with_reducible apply x_mif | with_reducible apply x_chn | with_reducible apply x_chn2 | with_reducible apply x_cons | with_reducible apply x_bnd | with_reducible apply x_mC | with_reducible apply x_call | with_reducible apply x_mM | with_reducible apply x_sl | with_reducible apply x_oso | with_reducible apply x_rev | with_reducible apply x_src | with_reducible apply x_enu | with_reducible apply x_rng | with_reducible apply x_lc | with_reducible apply x_fld | with_reducible apply x_snx | with_reducible apply x_seq | with_reducible apply x_ex | with_reducible apply x_rt | with_reducible apply x_set | with_reducible apply x_par | with_reducible apply x_if | with_reducible apply x_asg | with_reducible apply x_for | with_reducible apply x_run | with_reducible apply x_bdy | with_reducible exact v_addI _ _ | with_reducible exact v_addII _ _ | with_reducible exact v_sub _ _ | with_reducible exact v_neg _ | with_reducible exact v_eqI _ _ | with_reducible exact v_eqS _ _ | with_reducible exact v_eqB _ _ | with_reducible exact v_neI _ _ | with_reducible exact v_neS _ _ | with_reducible exact v_lt _ _ | with_reducible exact v_le _ _ | with_reducible exact v_gt _ _ | with_reducible exact v_ge _ _ | with_reducible exact x_addTI _ _ | with_reducible exact x_slT _ _ _ | with_reducible exact x_slL _ _ _ | with_reducible exact v_lenL _ | with_reducible exact v_lenT _ | with_reducible exact v_lenSl _ | with_reducible exact v_kF _ | with_reducible exact v_srcL _ | with_reducible exact h_srcT _ | with_reducible exact v_abs _ | with_reducible exact v_max _ _ | with_reducible exact v_min _ _ | with_reducible exact g_kS _ | with_reducible apply x_asgH | with_reducible apply x_hTup | with_reducible exact x_hsNil | with_reducible apply x_hsCns | with_reducible apply x_hIx | with_reducible apply x_hNm | with_reducible apply x_hFld | with_reducible apply x_setix | ((with_reducible apply x_aug); exact rfl) | with_reducible apply x_fzF | with_reducible apply x_fzE | ((with_reducible apply x_T); decide) | ((with_reducible apply x_F); decide) | with_reducible exact x_ok | with_reducible exact x_go | with_reducible apply x_tNm | with_reducible apply x_tTup | with_reducible apply x_tLst | with_reducible exact x_tNil | with_reducible apply x_tCns | with_reducible exact xl_0 | with_reducible exact xl_1 | with_reducible exact xl_2 | with_reducible exact xl_3 | with_reducible exact xl_4 | with_reducible exact xl_5 | with_reducible exact xt_lst | with_reducible exact xt_sls | with_reducible exact xt_str | with_reducible exact f_rt _ | with_reducible exact f_nx | ((with_reducible apply wipe_of); simp only [wipeD, List.set_cons_zero, List.set_cons_succ]; exact rfl) | ((with_reducible apply env_of); simp only [List.map_cons, List.map_nil, List.length_cons, List.length_nil, Nat.reduceAdd, Nat.reduceSub, List.replicate, List.cons_append, List.nil_append]; exact rfl) | ((with_reducible apply x_isi); exact rfl) | ((with_reducible apply k_rng); decide) | ((with_reducible apply x_kLst); simp only [List.length_cons, List.length_nil]; decide) | ((with_reducible apply x_kTup); simp only [List.length_cons, List.length_nil]; decide) | ((with_reducible apply x_kLstS); simp only [List.length_cons, List.length_nil]; decide))
  unfold m_l_spoilt B_l_spoilt S_l_spoilt_3 S_l_spoilt_5 S_l_spoilt_7 S_l_spoilt_9 S_l_spoilt_13
  by_cases q0 : w = 0
  · subst q0
    obtain ⟨x, t, x1, x2, x3⟩ := sp_way0 (w := 0) (a := a) (c := c) w4 (by omega) hg hd
    have hf := x2.frz0 x3.pl (by omega)
    refine ⟨x, t, ?_, x2.more (by omega), x3⟩
    (repeat' first | with_reducible assumption | with_reducible exact x_cst _ | with_reducible exact x_yes | with_reducible exact x_nil | with_reducible exact x_ono | with_reducible exact x_nx | with_reducible exact x_bk | with_reducible exact x_ct | with_reducible exact x_srt _ | with_reducible exact set_0 | with_reducible apply set_S | with_reducible apply x_T rfl | with_reducible apply x_F rfl | with_reducible apply x_T (by assumption) | with_reducible apply x_F (by assumption) | with_reducible apply x_nT rfl | with_reducible apply x_nF rfl | with_reducible apply x_nT (by assumption) | with_reducible apply x_nF (by assumption) | ((with_reducible apply x_get); exact rfl) | with_reducible apply x_m2 | with_reducible apply x_m1 | with_reducible apply x_tst | with_reducible apply x_not | with_reducible apply x_and | with_reducible apply x_or | with_reducible apply x_vnot | with_reducible apply x_vand | with_reducible apply x_vor | with_reducible apply x_mif | with_reducible apply x_chn | with_reducible apply x_chn2 | with_reducible apply x_cons | with_reducible apply x_bnd | with_reducible apply x_mC | with_reducible apply x_call | with_reducible apply x_mM | with_reducible apply x_sl | with_reducible apply x_oso | with_reducible apply x_rev | with_reducible apply x_src | with_reducible apply x_enu | with_reducible apply x_rng | with_reducible apply x_lc | with_reducible apply x_fld | with_reducible apply x_snx | with_reducible apply x_seq | with_reducible apply x_ex | with_reducible apply x_rt | with_reducible apply x_set | with_reducible apply x_par | with_reducible apply x_if | with_reducible apply x_asg | with_reducible apply x_for | with_reducible apply x_run | with_reducible apply x_bdy | with_reducible exact v_addI _ _ | with_reducible exact v_addII _ _ | with_reducible exact v_sub _ _ | with_reducible exact v_neg _ | with_reducible exact v_eqI _ _ | with_reducible exact v_eqS _ _ | with_reducible exact v_eqB _ _ | with_reducible exact v_neI _ _ | with_reducible exact v_neS _ _ | with_reducible exact v_lt _ _ | with_reducible exact v_le _ _ | with_reducible exact v_gt _ _ | with_reducible exact v_ge _ _ | with_reducible exact x_addTI _ _ | with_reducible exact x_slT _ _ _ | with_reducible exact x_slL _ _ _ | with_reducible exact v_lenL _ | with_reducible exact v_lenT _ | with_reducible exact v_lenSl _ | with_reducible exact v_kF _ | with_reducible exact v_srcL _ | with_reducible exact h_srcT _ | with_reducible exact v_abs _ | with_reducible exact v_max _ _ | with_reducible exact v_min _ _ | with_reducible exact g_kS _ | with_reducible apply x_asgH | with_reducible apply x_hTup | with_reducible exact x_hsNil | with_reducible apply x_hsCns | with_reducible apply x_hIx | with_reducible apply x_hNm | with_reducible apply x_hFld | with_reducible apply x_setix | ((with_reducible apply x_aug); exact rfl) | with_reducible apply x_fzF | with_reducible apply x_fzE | ((with_reducible apply x_T); decide) | ((with_reducible apply x_F); decide) | with_reducible exact x_ok | with_reducible exact x_go | with_reducible apply x_tNm | with_reducible apply x_tTup | with_reducible apply x_tLst | with_reducible exact x_tNil | with_reducible apply x_tCns | with_reducible exact xl_0 | with_reducible exact xl_1 | with_reducible exact xl_2 | with_reducible exact xl_3 | with_reducible exact xl_4 | with_reducible exact xl_5 | with_reducible exact xt_lst | with_reducible exact xt_sls | with_reducible exact xt_str | with_reducible exact f_rt _ | with_reducible exact f_nx | ((with_reducible apply wipe_of); simp only [wipeD, List.set_cons_zero, List.set_cons_succ]; exact rfl) | ((with_reducible apply env_of); simp only [List.map_cons, List.map_nil, List.length_cons, List.length_nil, Nat.reduceAdd, Nat.reduceSub, List.replicate, List.cons_append, List.nil_append]; exact rfl) | ((with_reducible apply x_isi); exact rfl) | ((with_reducible apply k_rng); decide) | ((with_reducible apply x_kLst); simp only [List.length_cons, List.length_nil]; decide) | ((with_reducible apply x_kTup); simp only [List.length_cons, List.length_nil]; decide) | ((with_reducible apply x_kLstS); simp only [List.length_cons, List.length_nil]; decide))
  by_cases q1 : w = 1
  · subst q1
    obtain ⟨x, x1, x3⟩ := sp_way1 (n := n) (s := s3) (w := 1) (a := a) (c := c) hg hd hk
    have hf := w4.frz0 x3.pl (by omega)
    refine ⟨x, s3, ?_, w4.more (by omega), x3⟩
    (repeat' first | with_reducible assumption | with_reducible exact x_cst _ | with_reducible exact x_yes | with_reducible exact x_nil | with_reducible exact x_ono | with_reducible exact x_nx | with_reducible exact x_bk | with_reducible exact x_ct | with_reducible exact x_srt _ | with_reducible exact set_0 | with_reducible apply set_S | with_reducible apply x_T rfl | with_reducible apply x_F rfl | with_reducible apply x_T (by assumption) | with_reducible apply x_F (by assumption) | with_reducible apply x_nT rfl | with_reducible apply x_nF rfl | with_reducible apply x_nT (by assumption) | with_reducible apply x_nF (by assumption) | ((with_reducible apply x_get); exact rfl) | with_reducible apply x_m2 | with_reducible apply x_m1 | with_reducible apply x_tst | with_reducible apply x_not | with_reducible apply x_and | with_reducible apply x_or | with_reducible apply x_vnot | with_reducible apply x_vand | with_reducible apply x_vor | with_reducible apply x_mif | with_reducible apply x_chn | with_reducible apply x_chn2 | with_reducible apply x_cons | with_reducible apply x_bnd | with_reducible apply x_mC | with_reducible apply x_call | with_reducible apply x_mM | with_reducible apply x_sl | with_reducible apply x_oso | with_reducible apply x_rev | with_reducible apply x_src | with_reducible apply x_enu | with_reducible apply x_rng | with_reducible apply x_lc | with_reducible apply x_fld | with_reducible apply x_snx | with_reducible apply x_seq | with_reducible apply x_ex | with_reducible apply x_rt | with_reducible apply x_set | with_reducible apply x_par | with_reducible apply x_if | with_reducible apply x_asg | with_reducible apply x_for | with_reducible apply x_run | with_reducible apply x_bdy | with_reducible exact v_addI _ _ | with_reducible exact v_addII _ _ | with_reducible exact v_sub _ _ | with_reducible exact v_neg _ | with_reducible exact v_eqI _ _ | with_reducible exact v_eqS _ _ | with_reducible exact v_eqB _ _ | with_reducible exact v_neI _ _ | with_reducible exact v_neS _ _ | with_reducible exact v_lt _ _ | with_reducible exact v_le _ _ | with_reducible exact v_gt _ _ | with_reducible exact v_ge _ _ | with_reducible exact x_addTI _ _ | with_reducible exact x_slT _ _ _ | with_reducible exact x_slL _ _ _ | with_reducible exact v_lenL _ | with_reducible exact v_lenT _ | with_reducible exact v_lenSl _ | with_reducible exact v_kF _ | with_reducible exact v_srcL _ | with_reducible exact h_srcT _ | with_reducible exact v_abs _ | with_reducible exact v_max _ _ | with_reducible exact v_min _ _ | with_reducible exact g_kS _ | with_reducible apply x_asgH | with_reducible apply x_hTup | with_reducible exact x_hsNil | with_reducible apply x_hsCns | with_reducible apply x_hIx | with_reducible apply x_hNm | with_reducible apply x_hFld | with_reducible apply x_setix | ((with_reducible apply x_aug); exact rfl) | with_reducible apply x_fzF | with_reducible apply x_fzE | ((with_reducible apply x_T); decide) | ((with_reducible apply x_F); decide) | with_reducible exact x_ok | with_reducible exact x_go | with_reducible apply x_tNm | with_reducible apply x_tTup | with_reducible apply x_tLst | with_reducible exact x_tNil | with_reducible apply x_tCns | with_reducible exact xl_0 | with_reducible exact xl_1 | with_reducible exact xl_2 | with_reducible exact xl_3 | with_reducible exact xl_4 | with_reducible exact xl_5 | with_reducible exact xt_lst | with_reducible exact xt_sls | with_reducible exact xt_str | with_reducible exact f_rt _ | with_reducible exact f_nx | ((with_reducible apply wipe_of); simp only [wipeD, List.set_cons_zero, List.set_cons_succ]; exact rfl) | ((with_reducible apply env_of); simp only [List.map_cons, List.map_nil, List.length_cons, List.length_nil, Nat.reduceAdd, Nat.reduceSub, List.replicate, List.cons_append, List.nil_append]; exact rfl) | ((with_reducible apply x_isi); exact rfl) | ((with_reducible apply k_rng); decide) | ((with_reducible apply x_kLst); simp only [List.length_cons, List.length_nil]; decide) | ((with_reducible apply x_kTup); simp only [List.length_cons, List.length_nil]; decide) | ((with_reducible apply x_kLstS); simp only [List.length_cons, List.length_nil]; decide))
  by_cases q2 : w = 2
  · subst q2
    obtain ⟨x, x1, x3⟩ := sp_way2 (n := n) (s := s3) (w := 2) (a := a) (c := c) hg hd hk
    have hf := w4.frz0 x3.pl (by omega)
    refine ⟨x, s3, ?_, w4.more (by omega), x3⟩
    (repeat' first | with_reducible assumption | with_reducible exact x_cst _ | with_reducible exact x_yes | with_reducible exact x_nil | with_reducible exact x_ono | with_reducible exact x_nx | with_reducible exact x_bk | with_reducible exact x_ct | with_reducible exact x_srt _ | with_reducible exact set_0 | with_reducible apply set_S | with_reducible apply x_T rfl | with_reducible apply x_F rfl | with_reducible apply x_T (by assumption) | with_reducible apply x_F (by assumption) | with_reducible apply x_nT rfl | with_reducible apply x_nF rfl | with_reducible apply x_nT (by assumption) | with_reducible apply x_nF (by assumption) | ((with_reducible apply x_get); exact rfl) | with_reducible apply x_m2 | with_reducible apply x_m1 | with_reducible apply x_tst | with_reducible apply x_not | with_reducible apply x_and | with_reducible apply x_or | with_reducible apply x_vnot | with_reducible apply x_vand | with_reducible apply x_vor | with_reducible apply x_mif | with_reducible apply x_chn | with_reducible apply x_chn2 | with_reducible apply x_cons | with_reducible apply x_bnd | with_reducible apply x_mC | with_reducible apply x_call | with_reducible apply x_mM | with_reducible apply x_sl | with_reducible apply x_oso | with_reducible apply x_rev | with_reducible apply x_src | with_reducible apply x_enu | with_reducible apply x_rng | with_reducible apply x_lc | with_reducible apply x_fld | with_reducible apply x_snx | with_reducible apply x_seq | with_reducible apply x_ex | with_reducible apply x_rt | with_reducible apply x_set | with_reducible apply x_par | with_reducible apply x_if | with_reducible apply x_asg | with_reducible apply x_for | with_reducible apply x_run | with_reducible apply x_bdy | with_reducible exact v_addI _ _ | with_reducible exact v_addII _ _ | with_reducible exact v_sub _ _ | with_reducible exact v_neg _ | with_reducible exact v_eqI _ _ | with_reducible exact v_eqS _ _ | with_reducible exact v_eqB _ _ | with_reducible exact v_neI _ _ | with_reducible exact v_neS _ _ | with_reducible exact v_lt _ _ | with_reducible exact v_le _ _ | with_reducible exact v_gt _ _ | with_reducible exact v_ge _ _ | with_reducible exact x_addTI _ _ | with_reducible exact x_slT _ _ _ | with_reducible exact x_slL _ _ _ | with_reducible exact v_lenL _ | with_reducible exact v_lenT _ | with_reducible exact v_lenSl _ | with_reducible exact v_kF _ | with_reducible exact v_srcL _ | with_reducible exact h_srcT _ | with_reducible exact v_abs _ | with_reducible exact v_max _ _ | with_reducible exact v_min _ _ | with_reducible exact g_kS _ | with_reducible apply x_asgH | with_reducible apply x_hTup | with_reducible exact x_hsNil | with_reducible apply x_hsCns | with_reducible apply x_hIx | with_reducible apply x_hNm | with_reducible apply x_hFld | with_reducible apply x_setix | ((with_reducible apply x_aug); exact rfl) | with_reducible apply x_fzF | with_reducible apply x_fzE | ((with_reducible apply x_T); decide) | ((with_reducible apply x_F); decide) | with_reducible exact x_ok | with_reducible exact x_go | with_reducible apply x_tNm | with_reducible apply x_tTup | with_reducible apply x_tLst | with_reducible exact x_tNil | with_reducible apply x_tCns | with_reducible exact xl_0 | with_reducible exact xl_1 | with_reducible exact xl_2 | with_reducible exact xl_3 | with_reducible exact xl_4 | with_reducible exact xl_5 | with_reducible exact xt_lst | with_reducible exact xt_sls | with_reducible exact xt_str | with_reducible exact f_rt _ | with_reducible exact f_nx | ((with_reducible apply wipe_of); simp only [wipeD, List.set_cons_zero, List.set_cons_succ]; exact rfl) | ((with_reducible apply env_of); simp only [List.map_cons, List.map_nil, List.length_cons, List.length_nil, Nat.reduceAdd, Nat.reduceSub, List.replicate, List.cons_append, List.nil_append]; exact rfl) | ((with_reducible apply x_isi); exact rfl) | ((with_reducible apply k_rng); decide) | ((with_reducible apply x_kLst); simp only [List.length_cons, List.length_nil]; decide) | ((with_reducible apply x_kTup); simp only [List.length_cons, List.length_nil]; decide) | ((with_reducible apply x_kLstS); simp only [List.length_cons, List.length_nil]; decide))
  by_cases q3 : w = 3
  · subst q3
    obtain ⟨P', σ', x1, x3⟩ := sp_way3 (n := n) (s := s3) (w := 3) (a := a) (c := c) hg hd hk a2 a3 c2 c3
    have hlen : s3.length = s.length := w4.len
    have hf : frzR s (.ok (.ref s3.length) (s3 ++ [.lst P'])) = .ok (.lst P') s3 := by
      rw [hlen]
      exact w4.frzL (fun x hx => (x3.mem hx).pl) (by omega)
    refine ⟨.lst P', s3, ?_, w4.more (by omega), .inr (x3.lst.more (by omega) (by omega))⟩
    (repeat' first | with_reducible assumption | with_reducible exact x_cst _ | with_reducible exact x_yes | with_reducible exact x_nil | with_reducible exact x_ono | with_reducible exact x_nx | with_reducible exact x_bk | with_reducible exact x_ct | with_reducible exact x_srt _ | with_reducible exact set_0 | with_reducible apply set_S | with_reducible apply x_T rfl | with_reducible apply x_F rfl | with_reducible apply x_T (by assumption) | with_reducible apply x_F (by assumption) | with_reducible apply x_nT rfl | with_reducible apply x_nF rfl | with_reducible apply x_nT (by assumption) | with_reducible apply x_nF (by assumption) | ((with_reducible apply x_get); exact rfl) | with_reducible apply x_m2 | with_reducible apply x_m1 | with_reducible apply x_tst | with_reducible apply x_not | with_reducible apply x_and | with_reducible apply x_or | with_reducible apply x_vnot | with_reducible apply x_vand | with_reducible apply x_vor | with_reducible apply x_mif | with_reducible apply x_chn | with_reducible apply x_chn2 | with_reducible apply x_cons | with_reducible apply x_bnd | with_reducible apply x_mC | with_reducible apply x_call | with_reducible apply x_mM | with_reducible apply x_sl | with_reducible apply x_oso | with_reducible apply x_rev | with_reducible apply x_src | with_reducible apply x_enu | with_reducible apply x_rng | with_reducible apply x_lc | with_reducible apply x_fld | with_reducible apply x_snx | with_reducible apply x_seq | with_reducible apply x_ex | with_reducible apply x_rt | with_reducible apply x_set | with_reducible apply x_par | with_reducible apply x_if | with_reducible apply x_asg | with_reducible apply x_for | with_reducible apply x_run | with_reducible apply x_bdy | with_reducible exact v_addI _ _ | with_reducible exact v_addII _ _ | with_reducible exact v_sub _ _ | with_reducible exact v_neg _ | with_reducible exact v_eqI _ _ | with_reducible exact v_eqS _ _ | with_reducible exact v_eqB _ _ | with_reducible exact v_neI _ _ | with_reducible exact v_neS _ _ | with_reducible exact v_lt _ _ | with_reducible exact v_le _ _ | with_reducible exact v_gt _ _ | with_reducible exact v_ge _ _ | with_reducible exact x_addTI _ _ | with_reducible exact x_slT _ _ _ | with_reducible exact x_slL _ _ _ | with_reducible exact v_lenL _ | with_reducible exact v_lenT _ | with_reducible exact v_lenSl _ | with_reducible exact v_kF _ | with_reducible exact v_srcL _ | with_reducible exact h_srcT _ | with_reducible exact v_abs _ | with_reducible exact v_max _ _ | with_reducible exact v_min _ _ | with_reducible exact g_kS _ | with_reducible apply x_asgH | with_reducible apply x_hTup | with_reducible exact x_hsNil | with_reducible apply x_hsCns | with_reducible apply x_hIx | with_reducible apply x_hNm | with_reducible apply x_hFld | with_reducible apply x_setix | ((with_reducible apply x_aug); exact rfl) | with_reducible apply x_fzF | with_reducible apply x_fzE | ((with_reducible apply x_T); decide) | ((with_reducible apply x_F); decide) | with_reducible exact x_ok | with_reducible exact x_go | with_reducible apply x_tNm | with_reducible apply x_tTup | with_reducible apply x_tLst | with_reducible exact x_tNil | with_reducible apply x_tCns | with_reducible exact xl_0 | with_reducible exact xl_1 | with_reducible exact xl_2 | with_reducible exact xl_3 | with_reducible exact xl_4 | with_reducible exact xl_5 | with_reducible exact xt_lst | with_reducible exact xt_sls | with_reducible exact xt_str | with_reducible exact f_rt _ | with_reducible exact f_nx | ((with_reducible apply wipe_of); simp only [wipeD, List.set_cons_zero, List.set_cons_succ]; exact rfl) | ((with_reducible apply env_of); simp only [List.map_cons, List.map_nil, List.length_cons, List.length_nil, Nat.reduceAdd, Nat.reduceSub, List.replicate, List.cons_append, List.nil_append]; exact rfl) | ((with_reducible apply x_isi); exact rfl) | ((with_reducible apply k_rng); decide) | ((with_reducible apply x_kLst); simp only [List.length_cons, List.length_nil]; decide) | ((with_reducible apply x_kTup); simp only [List.length_cons, List.length_nil]; decide) | ((with_reducible apply x_kLstS); simp only [List.length_cons, List.length_nil]; decide))
  by_cases q4 : w = 4
  · subst q4
    obtain ⟨x, t, x1, x2, x3⟩ := sp_way4 (w := 4) (a := a) (c := c) w4 (by omega) hg hd hk
    have hf := x2.frz0 x3.pl (by omega)
    refine ⟨x, t, ?_, x2.more (by omega), x3⟩
    (repeat' first | with_reducible assumption | with_reducible exact x_cst _ | with_reducible exact x_yes | with_reducible exact x_nil | with_reducible exact x_ono | with_reducible exact x_nx | with_reducible exact x_bk | with_reducible exact x_ct | with_reducible exact x_srt _ | with_reducible exact set_0 | with_reducible apply set_S | with_reducible apply x_T rfl | with_reducible apply x_F rfl | with_reducible apply x_T (by assumption) | with_reducible apply x_F (by assumption) | with_reducible apply x_nT rfl | with_reducible apply x_nF rfl | with_reducible apply x_nT (by assumption) | with_reducible apply x_nF (by assumption) | ((with_reducible apply x_get); exact rfl) | with_reducible apply x_m2 | with_reducible apply x_m1 | with_reducible apply x_tst | with_reducible apply x_not | with_reducible apply x_and | with_reducible apply x_or | with_reducible apply x_vnot | with_reducible apply x_vand | with_reducible apply x_vor | with_reducible apply x_mif | with_reducible apply x_chn | with_reducible apply x_chn2 | with_reducible apply x_cons | with_reducible apply x_bnd | with_reducible apply x_mC | with_reducible apply x_call | with_reducible apply x_mM | with_reducible apply x_sl | with_reducible apply x_oso | with_reducible apply x_rev | with_reducible apply x_src | with_reducible apply x_enu | with_reducible apply x_rng | with_reducible apply x_lc | with_reducible apply x_fld | with_reducible apply x_snx | with_reducible apply x_seq | with_reducible apply x_ex | with_reducible apply x_rt | with_reducible apply x_set | with_reducible apply x_par | with_reducible apply x_if | with_reducible apply x_asg | with_reducible apply x_for | with_reducible apply x_run | with_reducible apply x_bdy | with_reducible exact v_addI _ _ | with_reducible exact v_addII _ _ | with_reducible exact v_sub _ _ | with_reducible exact v_neg _ | with_reducible exact v_eqI _ _ | with_reducible exact v_eqS _ _ | with_reducible exact v_eqB _ _ | with_reducible exact v_neI _ _ | with_reducible exact v_neS _ _ | with_reducible exact v_lt _ _ | with_reducible exact v_le _ _ | with_reducible exact v_gt _ _ | with_reducible exact v_ge _ _ | with_reducible exact x_addTI _ _ | with_reducible exact x_slT _ _ _ | with_reducible exact x_slL _ _ _ | with_reducible exact v_lenL _ | with_reducible exact v_lenT _ | with_reducible exact v_lenSl _ | with_reducible exact v_kF _ | with_reducible exact v_srcL _ | with_reducible exact h_srcT _ | with_reducible exact v_abs _ | with_reducible exact v_max _ _ | with_reducible exact v_min _ _ | with_reducible exact g_kS _ | with_reducible apply x_asgH | with_reducible apply x_hTup | with_reducible exact x_hsNil | with_reducible apply x_hsCns | with_reducible apply x_hIx | with_reducible apply x_hNm | with_reducible apply x_hFld | with_reducible apply x_setix | ((with_reducible apply x_aug); exact rfl) | with_reducible apply x_fzF | with_reducible apply x_fzE | ((with_reducible apply x_T); decide) | ((with_reducible apply x_F); decide) | with_reducible exact x_ok | with_reducible exact x_go | with_reducible apply x_tNm | with_reducible apply x_tTup | with_reducible apply x_tLst | with_reducible exact x_tNil | with_reducible apply x_tCns | with_reducible exact xl_0 | with_reducible exact xl_1 | with_reducible exact xl_2 | with_reducible exact xl_3 | with_reducible exact xl_4 | with_reducible exact xl_5 | with_reducible exact xt_lst | with_reducible exact xt_sls | with_reducible exact xt_str | with_reducible exact f_rt _ | with_reducible exact f_nx | ((with_reducible apply wipe_of); simp only [wipeD, List.set_cons_zero, List.set_cons_succ]; exact rfl) | ((with_reducible apply env_of); simp only [List.map_cons, List.map_nil, List.length_cons, List.length_nil, Nat.reduceAdd, Nat.reduceSub, List.replicate, List.cons_append, List.nil_append]; exact rfl) | ((with_reducible apply x_isi); exact rfl) | ((with_reducible apply k_rng); decide) | ((with_reducible apply x_kLst); simp only [List.length_cons, List.length_nil]; decide) | ((with_reducible apply x_kTup); simp only [List.length_cons, List.length_nil]; decide) | ((with_reducible apply x_kLstS); simp only [List.length_cons, List.length_nil]; decide))
  · have b0 : (w == 0) = false := beq_eq_false_iff_ne.mpr q0
    have b1 : (w == 1) = false := beq_eq_false_iff_ne.mpr q1
    have b2 : (w == 2) = false := beq_eq_false_iff_ne.mpr q2
    have b3 : (w == 3) = false := beq_eq_false_iff_ne.mpr q3
    have b4 : (w == 4) = false := beq_eq_false_iff_ne.mpr q4
    obtain ⟨x, t, x1, x2, x3⟩ := sp_way5 (w := w) (a := a) (c := c) w4 (by omega) hg hd hd7 hk a2 a3
    have hf := x2.frz0 x3.pl (by omega)
    refine ⟨x, t, ?_, x2.more (by omega), x3⟩
    (repeat' first | with_reducible assumption | with_reducible exact x_cst _ | with_reducible exact x_yes | with_reducible exact x_nil | with_reducible exact x_ono | with_reducible exact x_nx | with_reducible exact x_bk | with_reducible exact x_ct | with_reducible exact x_srt _ | with_reducible exact set_0 | with_reducible apply set_S | with_reducible apply x_T rfl | with_reducible apply x_F rfl | with_reducible apply x_T (by assumption) | with_reducible apply x_F (by assumption) | with_reducible apply x_nT rfl | with_reducible apply x_nF rfl | with_reducible apply x_nT (by assumption) | with_reducible apply x_nF (by assumption) | ((with_reducible apply x_get); exact rfl) | with_reducible apply x_m2 | with_reducible apply x_m1 | with_reducible apply x_tst | with_reducible apply x_not | with_reducible apply x_and | with_reducible apply x_or | with_reducible apply x_vnot | with_reducible apply x_vand | with_reducible apply x_vor | with_reducible apply x_mif | with_reducible apply x_chn | with_reducible apply x_chn2 | with_reducible apply x_cons | with_reducible apply x_bnd | with_reducible apply x_mC | with_reducible apply x_call | with_reducible apply x_mM | with_reducible apply x_sl | with_reducible apply x_oso | with_reducible apply x_rev | with_reducible apply x_src | with_reducible apply x_enu | with_reducible apply x_rng | with_reducible apply x_lc | with_reducible apply x_fld | with_reducible apply x_snx | with_reducible apply x_seq | with_reducible apply x_ex | with_reducible apply x_rt | with_reducible apply x_set | with_reducible apply x_par | with_reducible apply x_if | with_reducible apply x_asg | with_reducible apply x_for | with_reducible apply x_run | with_reducible apply x_bdy | with_reducible exact v_addI _ _ | with_reducible exact v_addII _ _ | with_reducible exact v_sub _ _ | with_reducible exact v_neg _ | with_reducible exact v_eqI _ _ | with_reducible exact v_eqS _ _ | with_reducible exact v_eqB _ _ | with_reducible exact v_neI _ _ | with_reducible exact v_neS _ _ | with_reducible exact v_lt _ _ | with_reducible exact v_le _ _ | with_reducible exact v_gt _ _ | with_reducible exact v_ge _ _ | with_reducible exact x_addTI _ _ | with_reducible exact x_slT _ _ _ | with_reducible exact x_slL _ _ _ | with_reducible exact v_lenL _ | with_reducible exact v_lenT _ | with_reducible exact v_lenSl _ | with_reducible exact v_kF _ | with_reducible exact v_srcL _ | with_reducible exact h_srcT _ | with_reducible exact v_abs _ | with_reducible exact v_max _ _ | with_reducible exact v_min _ _ | with_reducible exact g_kS _ | with_reducible apply x_asgH | with_reducible apply x_hTup | with_reducible exact x_hsNil | with_reducible apply x_hsCns | with_reducible apply x_hIx | with_reducible apply x_hNm | with_reducible apply x_hFld | with_reducible apply x_setix | ((with_reducible apply x_aug); exact rfl) | with_reducible apply x_fzF | with_reducible apply x_fzE | ((with_reducible apply x_T); decide) | ((with_reducible apply x_F); decide) | with_reducible exact x_ok | with_reducible exact x_go | with_reducible apply x_tNm | with_reducible apply x_tTup | with_reducible apply x_tLst | with_reducible exact x_tNil | with_reducible apply x_tCns | with_reducible exact xl_0 | with_reducible exact xl_1 | with_reducible exact xl_2 | with_reducible exact xl_3 | with_reducible exact xl_4 | with_reducible exact xl_5 | with_reducible exact xt_lst | with_reducible exact xt_sls | with_reducible exact xt_str | with_reducible exact f_rt _ | with_reducible exact f_nx | ((with_reducible apply wipe_of); simp only [wipeD, List.set_cons_zero, List.set_cons_succ]; exact rfl) | ((with_reducible apply env_of); simp only [List.map_cons, List.map_nil, List.length_cons, List.length_nil, Nat.reduceAdd, Nat.reduceSub, List.replicate, List.cons_append, List.nil_append]; exact rfl) | ((with_reducible apply x_isi); exact rfl) | ((with_reducible apply k_rng); decide) | ((with_reducible apply x_kLst); simp only [List.length_cons, List.length_nil]; decide) | ((with_reducible apply x_kTup); simp only [List.length_cons, List.length_nil]; decide) | ((with_reducible apply x_kLstS); simp only [List.length_cons, List.length_nil]; decide))

/-! ### the law -/
theorem rgt {k d : Nat} {x : D} (h : GR k d x) (hd : d ≤ 9) (hk : k ≤ lim) (s : Sto) : m_l_right [x] s = .ok (.bl true) s := by
  rcases h with rfl | ⟨p, rfl, hp⟩
  · exact right_D
  · exact right_F (hp.gd hd) hk
theorem nl_D {k d : Nat} {X : List D} (h : GD k d X) (hd : d ≤ 8) (s : Sto) : dNe (.lst X) (.lst []) s = .ok (.bl (!X.isEmpty)) s := by
  obtain ⟨xs, rfl, h1⟩ := h
  have := nl_F (h1.lst.gd (by omega)) s
  rw [this]
  cases xs <;> rfl
def isL : PyData → Bool
  | .list _ => true
  | _ => false
theorem isi_lst {p : PyData} (h : p.canLay0 = true) (s : Sto) : cIsi [ofP p, .ty "list"] s = .ok (.bl (isL p)) s := by
  cases p with
  | dict _ => cases h
  | _ => rfl
theorem GP.ofL {k d : Nat} {xs : List PyData} (h : GP k (d + 1) (.list xs)) : GD k d (xs.map ofP) := by
  have e : PyData.depth (.list xs) = PyData.depthAll xs + 1 := by first | rfl | (show 1 + _ = _; omega)
  have hd := h.dp
  refine ⟨xs, rfl, fun x hx => ⟨lay_all_iff.mp h.lay x hx, shw_all_iff.mp h.shw x hx, ?_⟩, h.wt⟩
  exact dep_all_le.mp (by omega) x hx
theorem k_step {s0 s : Sto} {n b : Nat} {P : List D} {i : Int} {x0 x2 x4 x5 x6 x7 x8 x9 x10 : Option D} (h : Kp s0 s n b) (hb : b + 100 ≤ 1000000000000) (hg : GD 1600 2 P) (hP : 0 < P.length) :
    ∃ y t, bdy (tNm 6) (sSeq S_law_12 (sSeq S_law_13 S_law_15)) (.int i) [x0, some (.ref n), x2, some (.lst P), x4, x5, x6, x7, x8, x9, x10] s = .go .nx [x0, some (.ref n), x2, some (.lst P), x4, x5, some (.int i), x7, y, x9, x10] t ∧ Kp s0 t n (b + 25) := by
  obtain ⟨x, t, e1, k1, r1⟩ := spoilt_ok h.bag (by omega) hg (Nat.le_refl _) (by omega) (by omega) hP
  have k1 := h.trans k1
  by_cases hx : ∃ p X, x = ofP p ∧ GP (15 * 1600 + 300) 4 p ∧ p = .list X ∧ X ≠ []
  · obtain ⟨p, X, rfl, gp, rfl, hne⟩ := hx
    have gX := gp.ofL
    have hi := isi_lst gp.lay t
    rw [show isL (.list X) = true from rfl] at hi
    have hn := nl_D gX (by omega) t
    have hem : (X.map ofP).isEmpty = false := by cases X with | nil => exact absurd rfl hne | cons _ _ => rfl
    rw [hem] at hn
    have ef : ofP (.list X) = .lst (X.map ofP) := by rw [ofP, ofPs_map]
    rw [ef] at e1 r1 hi
    have hpos : 0 < (X.map ofP).length := by cases X with | nil => exact absurd rfl hne | cons _ _ => simp
    generalize X.map ofP = Y at *
    obtain ⟨v, t2, v1, v2, v3, v4⟩ := take_kp 3 k1 (by omega) (by decide) (by decide)
    cases hv : (v == 0) with
    | true =>
      obtain ⟨y, t3, e3, k3, r3⟩ := spoilt_ok v4.bag (by omega) gX (by omega) (by omega) (by omega) hpos
      have k3 := v4.trans k3
      have hr := rgt r3 (by omega) (by show _ ≤ 1000000; omega) t3
      refine ⟨some y, t3, ?_, k3.more (by omega)⟩
      unfold S_law_12 S_law_13 S_law_14 S_law_15
      (repeat' first | with_reducible assumption | with_reducible exact x_cst _ | with_reducible exact x_yes | with_reducible exact x_nil | with_reducible exact x_ono | with_reducible exact x_nx | with_reducible exact x_bk | with_reducible exact x_ct | with_reducible exact x_srt _ | with_reducible exact set_0 | with_reducible apply set_S | with_reducible apply x_T rfl | with_reducible apply x_F rfl | with_reducible apply x_T (by assumption) | with_reducible apply x_F (by assumption) | with_reducible apply x_nT rfl | with_reducible apply x_nF rfl | with_reducible apply x_nT (by assumption) | with_reducible apply x_nF (by assumption) | ((with_reducible apply x_get); exact rfl) | with_reducible apply x_m2 | with_reducible apply x_m1 | with_reducible apply x_tst | with_reducible apply x_not | with_reducible apply x_and | with_reducible apply x_or | with_reducible apply x_vnot | with_reducible apply x_vand | with_reducible apply x_vor | with_reducible apply x_mif | with_reducible apply x_chn | with_reducible apply x_chn2 | with_reducible apply x_cons | with_reducible apply x_bnd | with_reducible apply x_mC | with_reducible apply x_call | with_reducible apply x_mM | with_reducible apply x_sl | with_reducible apply x_oso | with_reducible apply x_rev | with_reducible apply x_src | with_reducible apply x_enu | with_reducible apply x_rng | with_reducible apply x_lc | with_reducible apply x_fld | with_reducible apply x_snx | with_reducible apply x_seq | with_reducible apply x_ex | with_reducible apply x_rt | with_reducible apply x_set | with_reducible apply x_par | with_reducible apply x_if | with_reducible apply x_asg | with_reducible apply x_for | with_reducible apply x_run | with_reducible apply x_bdy | with_reducible exact v_addI _ _ | with_reducible exact v_addII _ _ | with_reducible exact v_sub _ _ | with_reducible exact v_neg _ | with_reducible exact v_eqI _ _ | with_reducible exact v_eqS _ _ | with_reducible exact v_eqB _ _ | with_reducible exact v_neI _ _ | with_reducible exact v_neS _ _ | with_reducible exact v_lt _ _ | with_reducible exact v_le _ _ | with_reducible exact v_gt _ _ | with_reducible exact v_ge _ _ | with_reducible exact x_addTI _ _ | with_reducible exact x_slT _ _ _ | with_reducible exact x_slL _ _ _ | with_reducible exact v_lenL _ | with_reducible exact v_lenT _ | with_reducible exact v_lenSl _ | with_reducible exact v_kF _ | with_reducible exact v_srcL _ | with_reducible exact h_srcT _ | with_reducible exact v_abs _ | with_reducible exact v_max _ _ | with_reducible exact v_min _ _ | with_reducible exact g_kS _ | with_reducible apply x_asgH | with_reducible apply x_hTup | with_reducible exact x_hsNil | with_reducible apply x_hsCns | with_reducible apply x_hIx | with_reducible apply x_hNm | with_reducible apply x_hFld | with_reducible apply x_setix | ((with_reducible apply x_aug); exact rfl) | with_reducible apply x_fzF | with_reducible apply x_fzE | ((with_reducible apply x_T); decide) | ((with_reducible apply x_F); decide) | with_reducible exact x_ok | with_reducible exact x_go | with_reducible apply x_tNm | with_reducible apply x_tTup | with_reducible apply x_tLst | with_reducible exact x_tNil | with_reducible apply x_tCns | with_reducible exact xl_0 | with_reducible exact xl_1 | with_reducible exact xl_2 | with_reducible exact xl_3 | with_reducible exact xl_4 | with_reducible exact xl_5 | with_reducible exact xt_lst | with_reducible exact xt_sls | with_reducible exact xt_str | with_reducible exact f_rt _ | with_reducible exact f_nx | ((with_reducible apply wipe_of); simp only [wipeD, List.set_cons_zero, List.set_cons_succ]; exact rfl) | ((with_reducible apply env_of); simp only [List.map_cons, List.map_nil, List.length_cons, List.length_nil, Nat.reduceAdd, Nat.reduceSub, List.replicate, List.cons_append, List.nil_append]; exact rfl) | ((with_reducible apply x_isi); exact rfl) | ((with_reducible apply k_rng); decide) | ((with_reducible apply x_kLst); simp only [List.length_cons, List.length_nil]; decide) | ((with_reducible apply x_kTup); simp only [List.length_cons, List.length_nil]; decide) | ((with_reducible apply x_kLstS); simp only [List.length_cons, List.length_nil]; decide))
    | false =>
      have hr := rgt r1 (by omega) (by show _ ≤ 1000000; omega) t2
      refine ⟨some (.lst Y), t2, ?_, v4.more (by omega)⟩
      unfold S_law_12 S_law_13 S_law_15
      (repeat' first | with_reducible assumption | with_reducible exact x_cst _ | with_reducible exact x_yes | with_reducible exact x_nil | with_reducible exact x_ono | with_reducible exact x_nx | with_reducible exact x_bk | with_reducible exact x_ct | with_reducible exact x_srt _ | with_reducible exact set_0 | with_reducible apply set_S | with_reducible apply x_T rfl | with_reducible apply x_F rfl | with_reducible apply x_T (by assumption) | with_reducible apply x_F (by assumption) | with_reducible apply x_nT rfl | with_reducible apply x_nF rfl | with_reducible apply x_nT (by assumption) | with_reducible apply x_nF (by assumption) | ((with_reducible apply x_get); exact rfl) | with_reducible apply x_m2 | with_reducible apply x_m1 | with_reducible apply x_tst | with_reducible apply x_not | with_reducible apply x_and | with_reducible apply x_or | with_reducible apply x_vnot | with_reducible apply x_vand | with_reducible apply x_vor | with_reducible apply x_mif | with_reducible apply x_chn | with_reducible apply x_chn2 | with_reducible apply x_cons | with_reducible apply x_bnd | with_reducible apply x_mC | with_reducible apply x_call | with_reducible apply x_mM | with_reducible apply x_sl | with_reducible apply x_oso | with_reducible apply x_rev | with_reducible apply x_src | with_reducible apply x_enu | with_reducible apply x_rng | with_reducible apply x_lc | with_reducible apply x_fld | with_reducible apply x_snx | with_reducible apply x_seq | with_reducible apply x_ex | with_reducible apply x_rt | with_reducible apply x_set | with_reducible apply x_par | with_reducible apply x_if | with_reducible apply x_asg | with_reducible apply x_for | with_reducible apply x_run | with_reducible apply x_bdy | with_reducible exact v_addI _ _ | with_reducible exact v_addII _ _ | with_reducible exact v_sub _ _ | with_reducible exact v_neg _ | with_reducible exact v_eqI _ _ | with_reducible exact v_eqS _ _ | with_reducible exact v_eqB _ _ | with_reducible exact v_neI _ _ | with_reducible exact v_neS _ _ | with_reducible exact v_lt _ _ | with_reducible exact v_le _ _ | with_reducible exact v_gt _ _ | with_reducible exact v_ge _ _ | with_reducible exact x_addTI _ _ | with_reducible exact x_slT _ _ _ | with_reducible exact x_slL _ _ _ | with_reducible exact v_lenL _ | with_reducible exact v_lenT _ | with_reducible exact v_lenSl _ | with_reducible exact v_kF _ | with_reducible exact v_srcL _ | with_reducible exact h_srcT _ | with_reducible exact v_abs _ | with_reducible exact v_max _ _ | with_reducible exact v_min _ _ | with_reducible exact g_kS _ | with_reducible apply x_asgH | with_reducible apply x_hTup | with_reducible exact x_hsNil | with_reducible apply x_hsCns | with_reducible apply x_hIx | with_reducible apply x_hNm | with_reducible apply x_hFld | with_reducible apply x_setix | ((with_reducible apply x_aug); exact rfl) | with_reducible apply x_fzF | with_reducible apply x_fzE | ((with_reducible apply x_T); decide) | ((with_reducible apply x_F); decide) | with_reducible exact x_ok | with_reducible exact x_go | with_reducible apply x_tNm | with_reducible apply x_tTup | with_reducible apply x_tLst | with_reducible exact x_tNil | with_reducible apply x_tCns | with_reducible exact xl_0 | with_reducible exact xl_1 | with_reducible exact xl_2 | with_reducible exact xl_3 | with_reducible exact xl_4 | with_reducible exact xl_5 | with_reducible exact xt_lst | with_reducible exact xt_sls | with_reducible exact xt_str | with_reducible exact f_rt _ | with_reducible exact f_nx | ((with_reducible apply wipe_of); simp only [wipeD, List.set_cons_zero, List.set_cons_succ]; exact rfl) | ((with_reducible apply env_of); simp only [List.map_cons, List.map_nil, List.length_cons, List.length_nil, Nat.reduceAdd, Nat.reduceSub, List.replicate, List.cons_append, List.nil_append]; exact rfl) | ((with_reducible apply x_isi); exact rfl) | ((with_reducible apply k_rng); decide) | ((with_reducible apply x_kLst); simp only [List.length_cons, List.length_nil]; decide) | ((with_reducible apply x_kTup); simp only [List.length_cons, List.length_nil]; decide) | ((with_reducible apply x_kLstS); simp only [List.length_cons, List.length_nil]; decide))
  · have hr := rgt r1 (by omega) (by show _ ≤ 1000000; omega) t
    have e13 : ∀ z, S_law_13 [x0, some (.ref n), x2, some (.lst P), x4, x5, some (.int i), x7, some x, x9, x10] t = z → z = .go .nx [x0, some (.ref n), x2, some (.lst P), x4, x5, some (.int i), x7, some x, x9, x10] t := by
      intro z hz
      subst hz
      rcases r1 with rfl | ⟨p, rfl, gp⟩
      · have hi : cIsi [.dic [], .ty "list"] t = .ok (.bl false) t := rfl
        unfold S_law_13
        (repeat' first | with_reducible assumption | with_reducible exact x_cst _ | with_reducible exact x_yes | with_reducible exact x_nil | with_reducible exact x_ono | with_reducible exact x_nx | with_reducible exact x_bk | with_reducible exact x_ct | with_reducible exact x_srt _ | with_reducible exact set_0 | with_reducible apply set_S | with_reducible apply x_T rfl | with_reducible apply x_F rfl | with_reducible apply x_T (by assumption) | with_reducible apply x_F (by assumption) | with_reducible apply x_nT rfl | with_reducible apply x_nF rfl | with_reducible apply x_nT (by assumption) | with_reducible apply x_nF (by assumption) | ((with_reducible apply x_get); exact rfl) | with_reducible apply x_m2 | with_reducible apply x_m1 | with_reducible apply x_tst | with_reducible apply x_not | with_reducible apply x_and | with_reducible apply x_or | with_reducible apply x_vnot | with_reducible apply x_vand | with_reducible apply x_vor | with_reducible apply x_mif | with_reducible apply x_chn | with_reducible apply x_chn2 | with_reducible apply x_cons | with_reducible apply x_bnd | with_reducible apply x_mC | with_reducible apply x_call | with_reducible apply x_mM | with_reducible apply x_sl | with_reducible apply x_oso | with_reducible apply x_rev | with_reducible apply x_src | with_reducible apply x_enu | with_reducible apply x_rng | with_reducible apply x_lc | with_reducible apply x_fld | with_reducible apply x_snx | with_reducible apply x_seq | with_reducible apply x_ex | with_reducible apply x_rt | with_reducible apply x_set | with_reducible apply x_par | with_reducible apply x_if | with_reducible apply x_asg | with_reducible apply x_for | with_reducible apply x_run | with_reducible apply x_bdy | with_reducible exact v_addI _ _ | with_reducible exact v_addII _ _ | with_reducible exact v_sub _ _ | with_reducible exact v_neg _ | with_reducible exact v_eqI _ _ | with_reducible exact v_eqS _ _ | with_reducible exact v_eqB _ _ | with_reducible exact v_neI _ _ | with_reducible exact v_neS _ _ | with_reducible exact v_lt _ _ | with_reducible exact v_le _ _ | with_reducible exact v_gt _ _ | with_reducible exact v_ge _ _ | with_reducible exact x_addTI _ _ | with_reducible exact x_slT _ _ _ | with_reducible exact x_slL _ _ _ | with_reducible exact v_lenL _ | with_reducible exact v_lenT _ | with_reducible exact v_lenSl _ | with_reducible exact v_kF _ | with_reducible exact v_srcL _ | with_reducible exact h_srcT _ | with_reducible exact v_abs _ | with_reducible exact v_max _ _ | with_reducible exact v_min _ _ | with_reducible exact g_kS _ | with_reducible apply x_asgH | with_reducible apply x_hTup | with_reducible exact x_hsNil | with_reducible apply x_hsCns | with_reducible apply x_hIx | with_reducible apply x_hNm | with_reducible apply x_hFld | with_reducible apply x_setix | ((with_reducible apply x_aug); exact rfl) | with_reducible apply x_fzF | with_reducible apply x_fzE | ((with_reducible apply x_T); decide) | ((with_reducible apply x_F); decide) | with_reducible exact x_ok | with_reducible exact x_go | with_reducible apply x_tNm | with_reducible apply x_tTup | with_reducible apply x_tLst | with_reducible exact x_tNil | with_reducible apply x_tCns | with_reducible exact xl_0 | with_reducible exact xl_1 | with_reducible exact xl_2 | with_reducible exact xl_3 | with_reducible exact xl_4 | with_reducible exact xl_5 | with_reducible exact xt_lst | with_reducible exact xt_sls | with_reducible exact xt_str | with_reducible exact f_rt _ | with_reducible exact f_nx | ((with_reducible apply wipe_of); simp only [wipeD, List.set_cons_zero, List.set_cons_succ]; exact rfl) | ((with_reducible apply env_of); simp only [List.map_cons, List.map_nil, List.length_cons, List.length_nil, Nat.reduceAdd, Nat.reduceSub, List.replicate, List.cons_append, List.nil_append]; exact rfl) | ((with_reducible apply x_isi); exact rfl) | ((with_reducible apply k_rng); decide) | ((with_reducible apply x_kLst); simp only [List.length_cons, List.length_nil]; decide) | ((with_reducible apply x_kTup); simp only [List.length_cons, List.length_nil]; decide) | ((with_reducible apply x_kLstS); simp only [List.length_cons, List.length_nil]; decide))
      · have hi := isi_lst gp.lay t
        cases hL : isL p with
        | false =>
          rw [hL] at hi
          unfold S_law_13
          (repeat' first | with_reducible assumption | with_reducible exact x_cst _ | with_reducible exact x_yes | with_reducible exact x_nil | with_reducible exact x_ono | with_reducible exact x_nx | with_reducible exact x_bk | with_reducible exact x_ct | with_reducible exact x_srt _ | with_reducible exact set_0 | with_reducible apply set_S | with_reducible apply x_T rfl | with_reducible apply x_F rfl | with_reducible apply x_T (by assumption) | with_reducible apply x_F (by assumption) | with_reducible apply x_nT rfl | with_reducible apply x_nF rfl | with_reducible apply x_nT (by assumption) | with_reducible apply x_nF (by assumption) | ((with_reducible apply x_get); exact rfl) | with_reducible apply x_m2 | with_reducible apply x_m1 | with_reducible apply x_tst | with_reducible apply x_not | with_reducible apply x_and | with_reducible apply x_or | with_reducible apply x_vnot | with_reducible apply x_vand | with_reducible apply x_vor | with_reducible apply x_mif | with_reducible apply x_chn | with_reducible apply x_chn2 | with_reducible apply x_cons | with_reducible apply x_bnd | with_reducible apply x_mC | with_reducible apply x_call | with_reducible apply x_mM | with_reducible apply x_sl | with_reducible apply x_oso | with_reducible apply x_rev | with_reducible apply x_src | with_reducible apply x_enu | with_reducible apply x_rng | with_reducible apply x_lc | with_reducible apply x_fld | with_reducible apply x_snx | with_reducible apply x_seq | with_reducible apply x_ex | with_reducible apply x_rt | with_reducible apply x_set | with_reducible apply x_par | with_reducible apply x_if | with_reducible apply x_asg | with_reducible apply x_for | with_reducible apply x_run | with_reducible apply x_bdy | with_reducible exact v_addI _ _ | with_reducible exact v_addII _ _ | with_reducible exact v_sub _ _ | with_reducible exact v_neg _ | with_reducible exact v_eqI _ _ | with_reducible exact v_eqS _ _ | with_reducible exact v_eqB _ _ | with_reducible exact v_neI _ _ | with_reducible exact v_neS _ _ | with_reducible exact v_lt _ _ | with_reducible exact v_le _ _ | with_reducible exact v_gt _ _ | with_reducible exact v_ge _ _ | with_reducible exact x_addTI _ _ | with_reducible exact x_slT _ _ _ | with_reducible exact x_slL _ _ _ | with_reducible exact v_lenL _ | with_reducible exact v_lenT _ | with_reducible exact v_lenSl _ | with_reducible exact v_kF _ | with_reducible exact v_srcL _ | with_reducible exact h_srcT _ | with_reducible exact v_abs _ | with_reducible exact v_max _ _ | with_reducible exact v_min _ _ | with_reducible exact g_kS _ | with_reducible apply x_asgH | with_reducible apply x_hTup | with_reducible exact x_hsNil | with_reducible apply x_hsCns | with_reducible apply x_hIx | with_reducible apply x_hNm | with_reducible apply x_hFld | with_reducible apply x_setix | ((with_reducible apply x_aug); exact rfl) | with_reducible apply x_fzF | with_reducible apply x_fzE | ((with_reducible apply x_T); decide) | ((with_reducible apply x_F); decide) | with_reducible exact x_ok | with_reducible exact x_go | with_reducible apply x_tNm | with_reducible apply x_tTup | with_reducible apply x_tLst | with_reducible exact x_tNil | with_reducible apply x_tCns | with_reducible exact xl_0 | with_reducible exact xl_1 | with_reducible exact xl_2 | with_reducible exact xl_3 | with_reducible exact xl_4 | with_reducible exact xl_5 | with_reducible exact xt_lst | with_reducible exact xt_sls | with_reducible exact xt_str | with_reducible exact f_rt _ | with_reducible exact f_nx | ((with_reducible apply wipe_of); simp only [wipeD, List.set_cons_zero, List.set_cons_succ]; exact rfl) | ((with_reducible apply env_of); simp only [List.map_cons, List.map_nil, List.length_cons, List.length_nil, Nat.reduceAdd, Nat.reduceSub, List.replicate, List.cons_append, List.nil_append]; exact rfl) | ((with_reducible apply x_isi); exact rfl) | ((with_reducible apply k_rng); decide) | ((with_reducible apply x_kLst); simp only [List.length_cons, List.length_nil]; decide) | ((with_reducible apply x_kTup); simp only [List.length_cons, List.length_nil]; decide) | ((with_reducible apply x_kLstS); simp only [List.length_cons, List.length_nil]; decide))
        | true =>
          rw [hL] at hi
          cases p with
          | list X =>
            cases X with
            | nil =>
              have hn : dNe (.lst []) (.lst []) t = .ok (.bl false) t := rfl
              have ef : ofP (.list []) = .lst [] := rfl
              rw [ef] at hi ⊢
              unfold S_law_13
              (repeat' first | with_reducible assumption | with_reducible exact x_cst _ | with_reducible exact x_yes | with_reducible exact x_nil | with_reducible exact x_ono | with_reducible exact x_nx | with_reducible exact x_bk | with_reducible exact x_ct | with_reducible exact x_srt _ | with_reducible exact set_0 | with_reducible apply set_S | with_reducible apply x_T rfl | with_reducible apply x_F rfl | with_reducible apply x_T (by assumption) | with_reducible apply x_F (by assumption) | with_reducible apply x_nT rfl | with_reducible apply x_nF rfl | with_reducible apply x_nT (by assumption) | with_reducible apply x_nF (by assumption) | ((with_reducible apply x_get); exact rfl) | with_reducible apply x_m2 | with_reducible apply x_m1 | with_reducible apply x_tst | with_reducible apply x_not | with_reducible apply x_and | with_reducible apply x_or | with_reducible apply x_vnot | with_reducible apply x_vand | with_reducible apply x_vor | with_reducible apply x_mif | with_reducible apply x_chn | with_reducible apply x_chn2 | with_reducible apply x_cons | with_reducible apply x_bnd | with_reducible apply x_mC | with_reducible apply x_call | with_reducible apply x_mM | with_reducible apply x_sl | with_reducible apply x_oso | with_reducible apply x_rev | with_reducible apply x_src | with_reducible apply x_enu | with_reducible apply x_rng | with_reducible apply x_lc | with_reducible apply x_fld | with_reducible apply x_snx | with_reducible apply x_seq | with_reducible apply x_ex | with_reducible apply x_rt | with_reducible apply x_set | with_reducible apply x_par | with_reducible apply x_if | with_reducible apply x_asg | with_reducible apply x_for | with_reducible apply x_run | with_reducible apply x_bdy | with_reducible exact v_addI _ _ | with_reducible exact v_addII _ _ | with_reducible exact v_sub _ _ | with_reducible exact v_neg _ | with_reducible exact v_eqI _ _ | with_reducible exact v_eqS _ _ | with_reducible exact v_eqB _ _ | with_reducible exact v_neI _ _ | with_reducible exact v_neS _ _ | with_reducible exact v_lt _ _ | with_reducible exact v_le _ _ | with_reducible exact v_gt _ _ | with_reducible exact v_ge _ _ | with_reducible exact x_addTI _ _ | with_reducible exact x_slT _ _ _ | with_reducible exact x_slL _ _ _ | with_reducible exact v_lenL _ | with_reducible exact v_lenT _ | with_reducible exact v_lenSl _ | with_reducible exact v_kF _ | with_reducible exact v_srcL _ | with_reducible exact h_srcT _ | with_reducible exact v_abs _ | with_reducible exact v_max _ _ | with_reducible exact v_min _ _ | with_reducible exact g_kS _ | with_reducible apply x_asgH | with_reducible apply x_hTup | with_reducible exact x_hsNil | with_reducible apply x_hsCns | with_reducible apply x_hIx | with_reducible apply x_hNm | with_reducible apply x_hFld | with_reducible apply x_setix | ((with_reducible apply x_aug); exact rfl) | with_reducible apply x_fzF | with_reducible apply x_fzE | ((with_reducible apply x_T); decide) | ((with_reducible apply x_F); decide) | with_reducible exact x_ok | with_reducible exact x_go | with_reducible apply x_tNm | with_reducible apply x_tTup | with_reducible apply x_tLst | with_reducible exact x_tNil | with_reducible apply x_tCns | with_reducible exact xl_0 | with_reducible exact xl_1 | with_reducible exact xl_2 | with_reducible exact xl_3 | with_reducible exact xl_4 | with_reducible exact xl_5 | with_reducible exact xt_lst | with_reducible exact xt_sls | with_reducible exact xt_str | with_reducible exact f_rt _ | with_reducible exact f_nx | ((with_reducible apply wipe_of); simp only [wipeD, List.set_cons_zero, List.set_cons_succ]; exact rfl) | ((with_reducible apply env_of); simp only [List.map_cons, List.map_nil, List.length_cons, List.length_nil, Nat.reduceAdd, Nat.reduceSub, List.replicate, List.cons_append, List.nil_append]; exact rfl) | ((with_reducible apply x_isi); exact rfl) | ((with_reducible apply k_rng); decide) | ((with_reducible apply x_kLst); simp only [List.length_cons, List.length_nil]; decide) | ((with_reducible apply x_kTup); simp only [List.length_cons, List.length_nil]; decide) | ((with_reducible apply x_kLstS); simp only [List.length_cons, List.length_nil]; decide))
            | cons q X => exact absurd ⟨_, _, rfl, gp, rfl, by simp⟩ hx
          | _ => cases hL
    have e13 := e13 _ rfl
    refine ⟨some x, t, ?_, k1.more (by omega)⟩
    unfold S_law_12 S_law_15
    (repeat' first | with_reducible assumption | with_reducible exact x_cst _ | with_reducible exact x_yes | with_reducible exact x_nil | with_reducible exact x_ono | with_reducible exact x_nx | with_reducible exact x_bk | with_reducible exact x_ct | with_reducible exact x_srt _ | with_reducible exact set_0 | with_reducible apply set_S | with_reducible apply x_T rfl | with_reducible apply x_F rfl | with_reducible apply x_T (by assumption) | with_reducible apply x_F (by assumption) | with_reducible apply x_nT rfl | with_reducible apply x_nF rfl | with_reducible apply x_nT (by assumption) | with_reducible apply x_nF (by assumption) | ((with_reducible apply x_get); exact rfl) | with_reducible apply x_m2 | with_reducible apply x_m1 | with_reducible apply x_tst | with_reducible apply x_not | with_reducible apply x_and | with_reducible apply x_or | with_reducible apply x_vnot | with_reducible apply x_vand | with_reducible apply x_vor | with_reducible apply x_mif | with_reducible apply x_chn | with_reducible apply x_chn2 | with_reducible apply x_cons | with_reducible apply x_bnd | with_reducible apply x_mC | with_reducible apply x_call | with_reducible apply x_mM | with_reducible apply x_sl | with_reducible apply x_oso | with_reducible apply x_rev | with_reducible apply x_src | with_reducible apply x_enu | with_reducible apply x_rng | with_reducible apply x_lc | with_reducible apply x_fld | with_reducible apply x_snx | with_reducible apply x_seq | with_reducible apply x_ex | with_reducible apply x_rt | with_reducible apply x_set | with_reducible apply x_par | with_reducible apply x_if | with_reducible apply x_asg | with_reducible apply x_for | with_reducible apply x_run | with_reducible apply x_bdy | with_reducible exact v_addI _ _ | with_reducible exact v_addII _ _ | with_reducible exact v_sub _ _ | with_reducible exact v_neg _ | with_reducible exact v_eqI _ _ | with_reducible exact v_eqS _ _ | with_reducible exact v_eqB _ _ | with_reducible exact v_neI _ _ | with_reducible exact v_neS _ _ | with_reducible exact v_lt _ _ | with_reducible exact v_le _ _ | with_reducible exact v_gt _ _ | with_reducible exact v_ge _ _ | with_reducible exact x_addTI _ _ | with_reducible exact x_slT _ _ _ | with_reducible exact x_slL _ _ _ | with_reducible exact v_lenL _ | with_reducible exact v_lenT _ | with_reducible exact v_lenSl _ | with_reducible exact v_kF _ | with_reducible exact v_srcL _ | with_reducible exact h_srcT _ | with_reducible exact v_abs _ | with_reducible exact v_max _ _ | with_reducible exact v_min _ _ | with_reducible exact g_kS _ | with_reducible apply x_asgH | with_reducible apply x_hTup | with_reducible exact x_hsNil | with_reducible apply x_hsCns | with_reducible apply x_hIx | with_reducible apply x_hNm | with_reducible apply x_hFld | with_reducible apply x_setix | ((with_reducible apply x_aug); exact rfl) | with_reducible apply x_fzF | with_reducible apply x_fzE | ((with_reducible apply x_T); decide) | ((with_reducible apply x_F); decide) | with_reducible exact x_ok | with_reducible exact x_go | with_reducible apply x_tNm | with_reducible apply x_tTup | with_reducible apply x_tLst | with_reducible exact x_tNil | with_reducible apply x_tCns | with_reducible exact xl_0 | with_reducible exact xl_1 | with_reducible exact xl_2 | with_reducible exact xl_3 | with_reducible exact xl_4 | with_reducible exact xl_5 | with_reducible exact xt_lst | with_reducible exact xt_sls | with_reducible exact xt_str | with_reducible exact f_rt _ | with_reducible exact f_nx | ((with_reducible apply wipe_of); simp only [wipeD, List.set_cons_zero, List.set_cons_succ]; exact rfl) | ((with_reducible apply env_of); simp only [List.map_cons, List.map_nil, List.length_cons, List.length_nil, Nat.reduceAdd, Nat.reduceSub, List.replicate, List.cons_append, List.nil_append]; exact rfl) | ((with_reducible apply x_isi); exact rfl) | ((with_reducible apply k_rng); decide) | ((with_reducible apply x_kLst); simp only [List.length_cons, List.length_nil]; decide) | ((with_reducible apply x_kTup); simp only [List.length_cons, List.length_nil]; decide) | ((with_reducible apply x_kLstS); simp only [List.length_cons, List.length_nil]; decide))

theorem wts_words : ∀ ws : List Str, (∀ w ∈ ws, w ∈ wd4) → wts (ws.map PyData.str) ≤ 64 * ws.length
  | [], _ => Nat.zero_le _
  | w :: ws, h => by
    have ih := wts_words ws fun v hv => h v (List.mem_cons_of_mem _ hv)
    have h1 := (ok_w (h w List.mem_cons_self)).2
    have h2 : RQ.wt (PyData.str w) = 10 * w.length + 2 := rfl
    rw [List.map_cons, wts, List.length_cons]
    omega
theorem plan_it {ws : List Str} (h1 : ws.length ≤ 4) (h2 : ∀ w ∈ ws, (PyData.str w).canLay0 = true) (h3 : wts (ws.map PyData.str) ≤ 256) : GP 262 1 (.tuple (ws.map PyData.str)) := by
  refine GX.tup (d := 0) ⟨fun y hy => ?_, by omega⟩
  obtain ⟨z, hz, rfl⟩ := List.mem_map.mp hy
  exact ⟨h2 z hz, rfl, Nat.zero_le _⟩
theorem plan_gd {Ls : List (List Str)} (h : PW Ls 4) : GX 1600 2 (([Str.ofString "take"] :: Ls).map fun ws => .tuple (ws.map PyData.str)) := by
  have hi : ∀ ws ∈ [Str.ofString "take"] :: Ls, GP 262 1 (.tuple (ws.map PyData.str)) := by
    intro ws hws
    rcases List.mem_cons.mp hws with rfl | hws
    · exact plan_it (by decide) (by decide +kernel) (by decide +kernel)
    · have hw := h.ws ws hws
      exact plan_it hw.1 (fun w hw' => (ok_w (hw.2 w hw')).1) (by have := wts_words ws hw.2; have := hw.1; omega)
  have hw : ∀ Ls : List (List Str), (∀ ws ∈ Ls, GP 262 1 (.tuple (ws.map PyData.str))) → wts (Ls.map fun ws => .tuple (ws.map PyData.str)) ≤ 264 * Ls.length := by
    intro Ls
    induction Ls with
    | nil => intro _; exact Nat.zero_le _
    | cons x xs ih =>
      intro hh
      have h1 := ih fun w hw => hh w (List.mem_cons_of_mem _ hw)
      have h2 := (hh x List.mem_cons_self).wt
      rw [List.map_cons, wts, List.length_cons]
      omega
  refine ⟨fun x hx => ?_, ?_⟩
  · obtain ⟨ws, hws, rfl⟩ := List.mem_map.mp hx
    exact ⟨(hi ws hws).lay, (hi ws hws).shw, Nat.le_trans (hi ws hws).dp (by omega)⟩
  · have h1 := hw _ hi
    have h2 := h.len
    rw [List.length_cons] at h1
    omega
theorem tuple_lD (ws : List Str) (s : Sto) : cTuple [lD ws] s = .ok (tD ws) s := rfl
theorem turn_step {s0 s : Sto} {b : Nat} {i : Int} {S0 : D} {x2 x3 x4 x5 x6 x7 x8 x9 x10 : Option D} (h : Kp s0 s 0 b) (hb : b + 300 ≤ 1000000000000) :
    ∃ σ t, bdy (tNm 2) (sSeq S_law_3 (sSeq S_law_4 (sSeq S_law_5 (sSeq S_law_9 S_law_11)))) (.int i) [some S0, some (.ref 0), x2, x3, x4, x5, x6, x7, x8, x9, x10] s = .go .nx σ t ∧ Kp s0 t 0 (b + 120) ∧ ∃ y2 y3 y4 y5 y6 y7 y8, σ = [some S0, some (.ref 0), y2, y3, y4, y5, y6, y7, y8, x9, x10] := by
  obtain ⟨t, Ls, l1, l2, l3⟩ := l_plan_ok h.bag (by omega)
  have l2 := h.trans l2
  have gx := plan_gd l3
  have hlen := l3.len
  generalize hQ : [Str.ofString "take"] :: Ls = Qs at gx
  have hQl : Qs.length = Ls.length + 1 := by rw [← hQ]; rfl
  have eQ : (.lst [.str "take"] :: Ls.map lD : List D) = Qs.map lD := by rw [← hQ]; rfl
  rw [eQ] at l1
  have gd : GD 1600 2 (Qs.map tD) := ⟨_, by rw [List.map_map]; exact List.map_congr_left fun ws _ => tD_of ws, gx⟩
  have gP : Gd 1600 (plP Qs) := gx.lst.gd (by omega)
  have hc : cmpL (tNm 9) yes E_law_3_25 [some S0, some (.ref 0), some (.int i), x3, x4, x5, x6, x7, x8, none, x10] (Qs.map lD) [] t = .ok (Qs.map tD) t := by
    refine cmpL_of t Qs [] (by rw [List.length_nil]; show _ ≤ 1000000; omega) fun ws hws => ⟨_, rfl, ?_⟩
    have := tuple_lD ws t
    unfold E_law_3_25
    simp only [List.set]
    (repeat' first | with_reducible assumption | with_reducible exact x_cst _ | with_reducible exact x_yes | with_reducible exact x_nil | with_reducible exact x_ono | with_reducible exact x_nx | with_reducible exact x_bk | with_reducible exact x_ct | with_reducible exact x_srt _ | with_reducible exact set_0 | with_reducible apply set_S | with_reducible apply x_T rfl | with_reducible apply x_F rfl | with_reducible apply x_T (by assumption) | with_reducible apply x_F (by assumption) | with_reducible apply x_nT rfl | with_reducible apply x_nF rfl | with_reducible apply x_nT (by assumption) | with_reducible apply x_nF (by assumption) | ((with_reducible apply x_get); exact rfl) | with_reducible apply x_m2 | with_reducible apply x_m1 | with_reducible apply x_tst | with_reducible apply x_not | with_reducible apply x_and | with_reducible apply x_or | with_reducible apply x_vnot | with_reducible apply x_vand | with_reducible apply x_vor | with_reducible apply x_mif | with_reducible apply x_chn | with_reducible apply x_chn2 | with_reducible apply x_cons | with_reducible apply x_bnd | with_reducible apply x_mC | with_reducible apply x_call | with_reducible apply x_mM | with_reducible apply x_sl | with_reducible apply x_oso | with_reducible apply x_rev | with_reducible apply x_src | with_reducible apply x_enu | with_reducible apply x_rng | with_reducible apply x_lc | with_reducible apply x_fld | with_reducible apply x_snx | with_reducible apply x_seq | with_reducible apply x_ex | with_reducible apply x_rt | with_reducible apply x_set | with_reducible apply x_par | with_reducible apply x_if | with_reducible apply x_asg | with_reducible apply x_for | with_reducible apply x_run | with_reducible apply x_bdy | with_reducible exact v_addI _ _ | with_reducible exact v_addII _ _ | with_reducible exact v_sub _ _ | with_reducible exact v_neg _ | with_reducible exact v_eqI _ _ | with_reducible exact v_eqS _ _ | with_reducible exact v_eqB _ _ | with_reducible exact v_neI _ _ | with_reducible exact v_neS _ _ | with_reducible exact v_lt _ _ | with_reducible exact v_le _ _ | with_reducible exact v_gt _ _ | with_reducible exact v_ge _ _ | with_reducible exact x_addTI _ _ | with_reducible exact x_slT _ _ _ | with_reducible exact x_slL _ _ _ | with_reducible exact v_lenL _ | with_reducible exact v_lenT _ | with_reducible exact v_lenSl _ | with_reducible exact v_kF _ | with_reducible exact v_srcL _ | with_reducible exact h_srcT _ | with_reducible exact v_abs _ | with_reducible exact v_max _ _ | with_reducible exact v_min _ _ | with_reducible exact g_kS _ | with_reducible apply x_asgH | with_reducible apply x_hTup | with_reducible exact x_hsNil | with_reducible apply x_hsCns | with_reducible apply x_hIx | with_reducible apply x_hNm | with_reducible apply x_hFld | with_reducible apply x_setix | ((with_reducible apply x_aug); exact rfl) | with_reducible apply x_fzF | with_reducible apply x_fzE | ((with_reducible apply x_T); decide) | ((with_reducible apply x_F); decide) | with_reducible exact x_ok | with_reducible exact x_go | with_reducible apply x_tNm | with_reducible apply x_tTup | with_reducible apply x_tLst | with_reducible exact x_tNil | with_reducible apply x_tCns | with_reducible exact xl_0 | with_reducible exact xl_1 | with_reducible exact xl_2 | with_reducible exact xl_3 | with_reducible exact xl_4 | with_reducible exact xl_5 | with_reducible exact xt_lst | with_reducible exact xt_sls | with_reducible exact xt_str | with_reducible exact f_rt _ | with_reducible exact f_nx | ((with_reducible apply wipe_of); simp only [wipeD, List.set_cons_zero, List.set_cons_succ]; exact rfl) | ((with_reducible apply env_of); simp only [List.map_cons, List.map_nil, List.length_cons, List.length_nil, Nat.reduceAdd, Nat.reduceSub, List.replicate, List.cons_append, List.nil_append]; exact rfl) | ((with_reducible apply x_isi); exact rfl) | ((with_reducible apply k_rng); decide) | ((with_reducible apply x_kLst); simp only [List.length_cons, List.length_nil]; decide) | ((with_reducible apply x_kTup); simp only [List.length_cons, List.length_nil]; decide) | ((with_reducible apply x_kLstS); simp only [List.length_cons, List.length_nil]; decide))
  have e3 : S_law_3 [some S0, some (.ref 0), some (.int i), x3, x4, x5, x6, x7, x8, x9, x10] s = .go .nx [some S0, some (.ref 0), some (.int i), some (.lst (Qs.map tD)), x4, x5, x6, x7, x8, x9, x10] t := by
    unfold S_law_3
    (repeat' first | with_reducible assumption | with_reducible exact x_cst _ | with_reducible exact x_yes | with_reducible exact x_nil | with_reducible exact x_ono | with_reducible exact x_nx | with_reducible exact x_bk | with_reducible exact x_ct | with_reducible exact x_srt _ | with_reducible exact set_0 | with_reducible apply set_S | with_reducible apply x_T rfl | with_reducible apply x_F rfl | with_reducible apply x_T (by assumption) | with_reducible apply x_F (by assumption) | with_reducible apply x_nT rfl | with_reducible apply x_nF rfl | with_reducible apply x_nT (by assumption) | with_reducible apply x_nF (by assumption) | ((with_reducible apply x_get); exact rfl) | with_reducible apply x_m2 | with_reducible apply x_m1 | with_reducible apply x_tst | with_reducible apply x_not | with_reducible apply x_and | with_reducible apply x_or | with_reducible apply x_vnot | with_reducible apply x_vand | with_reducible apply x_vor | with_reducible apply x_mif | with_reducible apply x_chn | with_reducible apply x_chn2 | with_reducible apply x_cons | with_reducible apply x_bnd | with_reducible apply x_mC | with_reducible apply x_call | with_reducible apply x_mM | with_reducible apply x_sl | with_reducible apply x_oso | with_reducible apply x_rev | with_reducible apply x_src | with_reducible apply x_enu | with_reducible apply x_rng | with_reducible apply x_lc | with_reducible apply x_fld | with_reducible apply x_snx | with_reducible apply x_seq | with_reducible apply x_ex | with_reducible apply x_rt | with_reducible apply x_set | with_reducible apply x_par | with_reducible apply x_if | with_reducible apply x_asg | with_reducible apply x_for | with_reducible apply x_run | with_reducible apply x_bdy | with_reducible exact v_addI _ _ | with_reducible exact v_addII _ _ | with_reducible exact v_sub _ _ | with_reducible exact v_neg _ | with_reducible exact v_eqI _ _ | with_reducible exact v_eqS _ _ | with_reducible exact v_eqB _ _ | with_reducible exact v_neI _ _ | with_reducible exact v_neS _ _ | with_reducible exact v_lt _ _ | with_reducible exact v_le _ _ | with_reducible exact v_gt _ _ | with_reducible exact v_ge _ _ | with_reducible exact x_addTI _ _ | with_reducible exact x_slT _ _ _ | with_reducible exact x_slL _ _ _ | with_reducible exact v_lenL _ | with_reducible exact v_lenT _ | with_reducible exact v_lenSl _ | with_reducible exact v_kF _ | with_reducible exact v_srcL _ | with_reducible exact h_srcT _ | with_reducible exact v_abs _ | with_reducible exact v_max _ _ | with_reducible exact v_min _ _ | with_reducible exact g_kS _ | with_reducible apply x_asgH | with_reducible apply x_hTup | with_reducible exact x_hsNil | with_reducible apply x_hsCns | with_reducible apply x_hIx | with_reducible apply x_hNm | with_reducible apply x_hFld | with_reducible apply x_setix | ((with_reducible apply x_aug); exact rfl) | with_reducible apply x_fzF | with_reducible apply x_fzE | ((with_reducible apply x_T); decide) | ((with_reducible apply x_F); decide) | with_reducible exact x_ok | with_reducible exact x_go | with_reducible apply x_tNm | with_reducible apply x_tTup | with_reducible apply x_tLst | with_reducible exact x_tNil | with_reducible apply x_tCns | with_reducible exact xl_0 | with_reducible exact xl_1 | with_reducible exact xl_2 | with_reducible exact xl_3 | with_reducible exact xl_4 | with_reducible exact xl_5 | with_reducible exact xt_lst | with_reducible exact xt_sls | with_reducible exact xt_str | with_reducible exact f_rt _ | with_reducible exact f_nx | ((with_reducible apply wipe_of); simp only [wipeD, List.set_cons_zero, List.set_cons_succ]; exact rfl) | ((with_reducible apply env_of); simp only [List.map_cons, List.map_nil, List.length_cons, List.length_nil, Nat.reduceAdd, Nat.reduceSub, List.replicate, List.cons_append, List.nil_append]; exact rfl) | ((with_reducible apply x_isi); exact rfl) | ((with_reducible apply k_rng); decide) | ((with_reducible apply x_kLst); simp only [List.length_cons, List.length_nil]; decide) | ((with_reducible apply x_kTup); simp only [List.length_cons, List.length_nil]; decide) | ((with_reducible apply x_kLstS); simp only [List.length_cons, List.length_nil]; decide))
  have hcl : cList kF [.lst (Qs.map tD)] t = .ok (.lst (Qs.map tD)) t := rfl
  have hw : ∃ σ2 s2, forL (bdy (tNm 5) (sSeq S_law_6 S_law_7)) [.str "take", .str "check", .str "effect", .str "finish", .str "follow", .str "sell"] [some S0, some (.ref 0), some (.int i), some (.lst (Qs.map tD)), some (.lst (Qs.map tD)), x5, x6, x7, x8, x9, x10] t = .go .nx σ2 s2 ∧
      (s2 = t ∧ ∃ y5 y7, σ2 = [some S0, some (.ref 0), some (.int i), some (.lst (Qs.map tD)), some (.lst (Qs.map tD)), y5, x6, y7, x8, x9, x10]) := by
    obtain ⟨σ2, s2, q1, q2⟩ := forL_inv (body := bdy (tNm 5) (sSeq S_law_6 S_law_7)) (fun _ σ' s' => s' = t ∧ ∃ y5 y7, σ' = [some S0, some (.ref 0), some (.int i), some (.lst (Qs.map tD)), some (.lst (Qs.map tD)), y5, x6, y7, x8, x9, x10])
      [.str "take", .str "check", .str "effect", .str "finish", .str "follow", .str "sell"] [some S0, some (.ref 0), some (.int i), some (.lst (Qs.map tD)), some (.lst (Qs.map tD)), x5, x6, x7, x8, x9, x10] t 0 ⟨rfl, _, _, rfl⟩ (by
        rintro d hd k' σ' s' ⟨rfl, y5, y7, rfl⟩ _
        have hs : ∃ w, d = .str w := by
          simp only [List.mem_cons, List.not_mem_nil, or_false] at hd
          rcases hd with rfl | rfl | rfl | rfl | rfl | rfl <;> exact ⟨_, rfl⟩
        obtain ⟨w, rfl⟩ := hs
        obtain ⟨y, hy⟩ := word_step (s := s') (w := w) (Qs := Qs) (x0 := some S0) (x1 := some (.ref 0)) (x2 := some (.int i)) (x5 := y5) (x6 := x6) (x7 := y7) (x8 := x8) (x9 := x9) (x10 := x10) (by omega) gP
        exact ⟨_, _, hy, rfl, _, _, rfl⟩)
    exact ⟨σ2, s2, q1, q2⟩
  obtain ⟨σ2, s2, q1, rfl, y5, y7, rfl⟩ := hw
  have hr := rgt (.inr gd.lst) (by omega) (by show _ ≤ 1000000; omega) s2
  have hk : ∃ σ3 s3, forL (bdy (tNm 6) (sSeq S_law_12 (sSeq S_law_13 S_law_15))) (rng 0 4) [some S0, some (.ref 0), some (.int i), some (.lst (Qs.map tD)), some (.lst (Qs.map tD)), y5, x6, y7, x8, x9, x10] s2 = .go .nx σ3 s3 ∧
      (Kp s0 s3 0 (b + 10 + 25 * 4) ∧ ∃ y6 y8, σ3 = [some S0, some (.ref 0), some (.int i), some (.lst (Qs.map tD)), some (.lst (Qs.map tD)), y5, y6, y7, y8, x9, x10]) := by
    obtain ⟨σ3, s3, q1, q2⟩ := forL_inv (body := bdy (tNm 6) (sSeq S_law_12 (sSeq S_law_13 S_law_15))) (fun k σ' s' => Kp s0 s' 0 (b + 10 + 25 * k) ∧ ∃ y6 y8, σ' = [some S0, some (.ref 0), some (.int i), some (.lst (Qs.map tD)), some (.lst (Qs.map tD)), y5, y6, y7, y8, x9, x10])
      (rng 0 4) [some S0, some (.ref 0), some (.int i), some (.lst (Qs.map tD)), some (.lst (Qs.map tD)), y5, x6, y7, x8, x9, x10] s2 0 ⟨l2, _, _, rfl⟩ (by
        rintro d hd k' σ' s' ⟨kk, y6, y8, rfl⟩ hlt
        have hlt : k' < 4 := by have : (rng 0 4).length = 4 := rfl; omega
        have hs : ∃ w : Int, d = .int w := by
          unfold rng at hd
          obtain ⟨w, _, rfl⟩ := List.mem_map.mp hd
          exact ⟨_, rfl⟩
        obtain ⟨w, rfl⟩ := hs
        obtain ⟨y, t, e, kt⟩ := k_step (i := w) (x0 := some S0) (x2 := some (.int i)) (x4 := some (.lst (Qs.map tD))) (x5 := y5) (x6 := y6) (x7 := y7) (x8 := y8) (x9 := x9) (x10 := x10) kk (by omega) gd (by rw [List.length_map]; omega)
        exact ⟨_, _, e, kt.more (by omega), _, _, rfl⟩)
    exact ⟨σ3, s3, q1, q2⟩
  obtain ⟨σ3, s3, q3, k3, y6, y8, rfl⟩ := hk
  refine ⟨[some S0, some (.ref 0), some (.int i), some (.lst (Qs.map tD)), some (.lst (Qs.map tD)), y5, y6, y7, y8, x9, x10], s3, ?_, k3.more (by omega), some (.int i), some (.lst (Qs.map tD)), some (.lst (Qs.map tD)), y5, y6, y7, y8, rfl⟩
  unfold S_law_4 S_law_5 S_law_9 S_law_11
  (repeat' first | with_reducible assumption | with_reducible exact x_cst _ | with_reducible exact x_yes | with_reducible exact x_nil | with_reducible exact x_ono | with_reducible exact x_nx | with_reducible exact x_bk | with_reducible exact x_ct | with_reducible exact x_srt _ | with_reducible exact set_0 | with_reducible apply set_S | with_reducible apply x_T rfl | with_reducible apply x_F rfl | with_reducible apply x_T (by assumption) | with_reducible apply x_F (by assumption) | with_reducible apply x_nT rfl | with_reducible apply x_nF rfl | with_reducible apply x_nT (by assumption) | with_reducible apply x_nF (by assumption) | ((with_reducible apply x_get); exact rfl) | with_reducible apply x_m2 | with_reducible apply x_m1 | with_reducible apply x_tst | with_reducible apply x_not | with_reducible apply x_and | with_reducible apply x_or | with_reducible apply x_vnot | with_reducible apply x_vand | with_reducible apply x_vor | with_reducible apply x_mif | with_reducible apply x_chn | with_reducible apply x_chn2 | with_reducible apply x_cons | with_reducible apply x_bnd | with_reducible apply x_mC | with_reducible apply x_call | with_reducible apply x_mM | with_reducible apply x_sl | with_reducible apply x_oso | with_reducible apply x_rev | with_reducible apply x_src | with_reducible apply x_enu | with_reducible apply x_rng | with_reducible apply x_lc | with_reducible apply x_fld | with_reducible apply x_snx | with_reducible apply x_seq | with_reducible apply x_ex | with_reducible apply x_rt | with_reducible apply x_set | with_reducible apply x_par | with_reducible apply x_if | with_reducible apply x_asg | with_reducible apply x_for | with_reducible apply x_run | with_reducible apply x_bdy | with_reducible exact v_addI _ _ | with_reducible exact v_addII _ _ | with_reducible exact v_sub _ _ | with_reducible exact v_neg _ | with_reducible exact v_eqI _ _ | with_reducible exact v_eqS _ _ | with_reducible exact v_eqB _ _ | with_reducible exact v_neI _ _ | with_reducible exact v_neS _ _ | with_reducible exact v_lt _ _ | with_reducible exact v_le _ _ | with_reducible exact v_gt _ _ | with_reducible exact v_ge _ _ | with_reducible exact x_addTI _ _ | with_reducible exact x_slT _ _ _ | with_reducible exact x_slL _ _ _ | with_reducible exact v_lenL _ | with_reducible exact v_lenT _ | with_reducible exact v_lenSl _ | with_reducible exact v_kF _ | with_reducible exact v_srcL _ | with_reducible exact h_srcT _ | with_reducible exact v_abs _ | with_reducible exact v_max _ _ | with_reducible exact v_min _ _ | with_reducible exact g_kS _ | with_reducible apply x_asgH | with_reducible apply x_hTup | with_reducible exact x_hsNil | with_reducible apply x_hsCns | with_reducible apply x_hIx | with_reducible apply x_hNm | with_reducible apply x_hFld | with_reducible apply x_setix | ((with_reducible apply x_aug); exact rfl) | with_reducible apply x_fzF | with_reducible apply x_fzE | ((with_reducible apply x_T); decide) | ((with_reducible apply x_F); decide) | with_reducible exact x_ok | with_reducible exact x_go | with_reducible apply x_tNm | with_reducible apply x_tTup | with_reducible apply x_tLst | with_reducible exact x_tNil | with_reducible apply x_tCns | with_reducible exact xl_0 | with_reducible exact xl_1 | with_reducible exact xl_2 | with_reducible exact xl_3 | with_reducible exact xl_4 | with_reducible exact xl_5 | with_reducible exact xt_lst | with_reducible exact xt_sls | with_reducible exact xt_str | with_reducible exact f_rt _ | with_reducible exact f_nx | ((with_reducible apply wipe_of); simp only [wipeD, List.set_cons_zero, List.set_cons_succ]; exact rfl) | ((with_reducible apply env_of); simp only [List.map_cons, List.map_nil, List.length_cons, List.length_nil, Nat.reduceAdd, Nat.reduceSub, List.replicate, List.cons_append, List.nil_append]; exact rfl) | ((with_reducible apply x_isi); exact rfl) | ((with_reducible apply k_rng); decide) | ((with_reducible apply x_kLst); simp only [List.length_cons, List.length_nil]; decide) | ((with_reducible apply x_kTup); simp only [List.length_cons, List.length_nil]; decide) | ((with_reducible apply x_kLstS); simp only [List.length_cons, List.length_nil]; decide))
theorem law_true (ns : List Int) (hns : ns.length ≤ 63) : ∃ s', m_law [.sls (ns.map D.int)] [] = .ok (.bl true) s' := by
  obtain ⟨o, h1, h2⟩ := bag_ok ns []
  simp only [List.length_nil, List.nil_append] at h1 h2
  have hk : ∃ σ3 s3, forL (bdy (tNm 2) (sSeq S_law_3 (sSeq S_law_4 (sSeq S_law_5 (sSeq S_law_9 S_law_11))))) (rng 0 6) [some (.sls (ns.map D.int)), some (.ref 0), none, none, none, none, none, none, none, none, none] [o] = .go .nx σ3 s3 ∧
      (Kp [o] s3 0 (120 * 6) ∧ ∃ y2 y3 y4 y5 y6 y7 y8, σ3 = [some (.sls (ns.map D.int)), some (.ref 0), y2, y3, y4, y5, y6, y7, y8, none, none]) := by
    obtain ⟨σ3, s3, q1, q2⟩ := forL_inv (body := bdy (tNm 2) (sSeq S_law_3 (sSeq S_law_4 (sSeq S_law_5 (sSeq S_law_9 S_law_11))))) (fun k σ' s' => Kp [o] s' 0 (120 * k) ∧ ∃ y2 y3 y4 y5 y6 y7 y8, σ' = [some (.sls (ns.map D.int)), some (.ref 0), y2, y3, y4, y5, y6, y7, y8, none, none])
      (rng 0 6) [some (.sls (ns.map D.int)), some (.ref 0), none, none, none, none, none, none, none, none, none] [o] 0 ⟨Kp.refl h2, _, _, _, _, _, _, _, rfl⟩ (by
        rintro d hd k' σ' s' ⟨kk, y2, y3, y4, y5, y6, y7, y8, rfl⟩ hlt
        have hlt : k' < 6 := by have : (rng 0 6).length = 6 := rfl; omega
        have hs : ∃ w : Int, d = .int w := by
          unfold rng at hd
          obtain ⟨w, _, rfl⟩ := List.mem_map.mp hd
          exact ⟨_, rfl⟩
        obtain ⟨w, rfl⟩ := hs
        obtain ⟨σ, t, e, kt, z⟩ := turn_step (i := w) (S0 := .sls (ns.map D.int)) (x2 := y2) (x3 := y3) (x4 := y4) (x5 := y5) (x6 := y6) (x7 := y7) (x8 := y8) (x9 := none) (x10 := none) kk (by omega)
        exact ⟨_, _, e, kt.more (by omega), z⟩)
    exact ⟨σ3, s3, q1, q2⟩
  obtain ⟨σ3, s3, q3, k3, y2, y3, y4, y5, y6, y7, y8, rfl⟩ := hk
  refine ⟨s3, ?_⟩
  unfold m_law B_law S_law_1 S_law_2 S_law_17
  (repeat' first | with_reducible assumption | with_reducible exact x_cst _ | with_reducible exact x_yes | with_reducible exact x_nil | with_reducible exact x_ono | with_reducible exact x_nx | with_reducible exact x_bk | with_reducible exact x_ct | with_reducible exact x_srt _ | with_reducible exact set_0 | with_reducible apply set_S | with_reducible apply x_T rfl | with_reducible apply x_F rfl | with_reducible apply x_T (by assumption) | with_reducible apply x_F (by assumption) | with_reducible apply x_nT rfl | with_reducible apply x_nF rfl | with_reducible apply x_nT (by assumption) | with_reducible apply x_nF (by assumption) | ((with_reducible apply x_get); exact rfl) | with_reducible apply x_m2 | with_reducible apply x_m1 | with_reducible apply x_tst | with_reducible apply x_not | with_reducible apply x_and | with_reducible apply x_or | with_reducible apply x_vnot | with_reducible apply x_vand | with_reducible apply x_vor | with_reducible apply x_mif | with_reducible apply x_chn | with_reducible apply x_chn2 | with_reducible apply x_cons | with_reducible apply x_bnd | with_reducible apply x_mC | with_reducible apply x_call | with_reducible apply x_mM | with_reducible apply x_sl | with_reducible apply x_oso | with_reducible apply x_rev | with_reducible apply x_src | with_reducible apply x_enu | with_reducible apply x_rng | with_reducible apply x_lc | with_reducible apply x_fld | with_reducible apply x_snx | with_reducible apply x_seq | with_reducible apply x_ex | with_reducible apply x_rt | with_reducible apply x_set | with_reducible apply x_par | with_reducible apply x_if | with_reducible apply x_asg | with_reducible apply x_for | with_reducible apply x_run | with_reducible apply x_bdy | with_reducible exact v_addI _ _ | with_reducible exact v_addII _ _ | with_reducible exact v_sub _ _ | with_reducible exact v_neg _ | with_reducible exact v_eqI _ _ | with_reducible exact v_eqS _ _ | with_reducible exact v_eqB _ _ | with_reducible exact v_neI _ _ | with_reducible exact v_neS _ _ | with_reducible exact v_lt _ _ | with_reducible exact v_le _ _ | with_reducible exact v_gt _ _ | with_reducible exact v_ge _ _ | with_reducible exact x_addTI _ _ | with_reducible exact x_slT _ _ _ | with_reducible exact x_slL _ _ _ | with_reducible exact v_lenL _ | with_reducible exact v_lenT _ | with_reducible exact v_lenSl _ | with_reducible exact v_kF _ | with_reducible exact v_srcL _ | with_reducible exact h_srcT _ | with_reducible exact v_abs _ | with_reducible exact v_max _ _ | with_reducible exact v_min _ _ | with_reducible exact g_kS _ | with_reducible apply x_asgH | with_reducible apply x_hTup | with_reducible exact x_hsNil | with_reducible apply x_hsCns | with_reducible apply x_hIx | with_reducible apply x_hNm | with_reducible apply x_hFld | with_reducible apply x_setix | ((with_reducible apply x_aug); exact rfl) | with_reducible apply x_fzF | with_reducible apply x_fzE | ((with_reducible apply x_T); decide) | ((with_reducible apply x_F); decide) | with_reducible exact x_ok | with_reducible exact x_go | with_reducible apply x_tNm | with_reducible apply x_tTup | with_reducible apply x_tLst | with_reducible exact x_tNil | with_reducible apply x_tCns | with_reducible exact xl_0 | with_reducible exact xl_1 | with_reducible exact xl_2 | with_reducible exact xl_3 | with_reducible exact xl_4 | with_reducible exact xl_5 | with_reducible exact xt_lst | with_reducible exact xt_sls | with_reducible exact xt_str | with_reducible exact f_rt _ | with_reducible exact f_nx | ((with_reducible apply wipe_of); simp only [wipeD, List.set_cons_zero, List.set_cons_succ]; exact rfl) | ((with_reducible apply env_of); simp only [List.map_cons, List.map_nil, List.length_cons, List.length_nil, Nat.reduceAdd, Nat.reduceSub, List.replicate, List.cons_append, List.nil_append]; exact rfl) | ((with_reducible apply x_isi); exact rfl) | ((with_reducible apply k_rng); decide) | ((with_reducible apply x_kLst); simp only [List.length_cons, List.length_nil]; decide) | ((with_reducible apply x_kTup); simp only [List.length_cons, List.length_nil]; decide) | ((with_reducible apply x_kLstS); simp only [List.length_cons, List.length_nil]; decide))

end RQ.Lw

open PySem PySem.W PyProof.Rows
set_option maxHeartbeats 0 in
theorem PySem.Challenge.cw_rowqueue_k12_plans_of_any_value_holds : PySem.Challenge.rw_rowqueue_k12_plans_of_any_value.Holds := by
  w_on; o_law; k_head; (case hw => w_witness2)
  k_fill
  refine RQ.walk_i (l := PySem.Challenge.rw_rowqueue_k12_plans_of_any_value) (n := 63) (k := 4) (x := "_law_script") (F := RQ.Lw.m_law) rfl (by decide) rfl ⟨rfl, by decide, by decide⟩ (fun w h Y => PySem.W.kIn_of Y) ?F RQ.Lw.law_true
  case F =>
    intro w mg fa h KX G hmg
    refine' RQ.Lw.all_mk KX G hmg ?a0 ?l0 ?c0 ?k0 ?a1 ?l1 ?c1 ?k1 ?a2 ?l2 ?c2 ?k2 ?a3 ?l3 ?c3 ?k3 ?a4 ?l4 ?c4 ?k4 ?a5 ?l5 ?c5 ?k5 ?a6 ?l6 ?c6 ?k6 ?a7 ?l7 ?c7 ?k7 ?a8 ?l8 ?c8 ?k8 ?a9 ?l9 ?c9 ?k9 ?a10 ?l10 ?c10 ?k10 ?a11 ?l11 ?c11 ?k11 ?z0 ?z1 ?z2 ?z3 ?z4 ?z5 ?z6 ?z7 ?z8 ?z9 ?z10 ?q0 ?lkq0_0 ?q1 ?lkq1_0 ?q2
    (case a0 => k_is); (case l0 => k_is); (case c0 => k_is); (case k0 => k_is); (case a1 => k_is); (case l1 => k_is); (case c1 => k_is); (case k1 => k_is); (case a2 => k_is); (case l2 => k_is); (case c2 => k_is); (case k2 => k_is); (case a3 => k_is); (case l3 => k_is); (case c3 => k_is); (case k3 => k_is); (case a4 => k_is); (case l4 => k_is); (case c4 => k_is); (case k4 => k_is); (case a5 => k_is); (case l5 => k_is); (case c5 => k_is); (case k5 => k_is); (case a6 => k_is); (case l6 => k_is); (case c6 => k_is); (case k6 => k_is); (case a7 => k_is); (case l7 => k_is); (case c7 => k_is); (case k7 => k_is); (case a8 => k_is); (case l8 => k_is); (case c8 => k_is); (case k8 => k_is); (case a9 => k_is); (case l9 => k_is); (case c9 => k_is); (case k9 => k_is); (case a10 => k_is); (case l10 => k_is); (case c10 => k_is); (case k10 => k_is); (case a11 => k_is); (case l11 => k_is); (case c11 => k_is); (case k11 => k_is); (case z0 => k_is); (case z1 => k_is); (case z2 => k_is); (case z3 => k_is); (case z4 => k_is); (case z5 => k_is); (case z6 => k_is); (case z7 => k_is); (case z8 => k_is); (case z9 => k_is); (case z10 => k_is); (case q0 => k_is); (case lkq0_0 => k_is); (case q1 => k_is); (case lkq1_0 => k_is); (case q2 => k_is)

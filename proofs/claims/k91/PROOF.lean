import PyProof.Rows.All
import Wide.All
import OpenK.AllK
import Wide.FinOn
import HandS.ForMost
import HandS.ForExc
import HandS.Evl
import HandS.Lambda
import HandS.IsInst
import HandS.Wide
import HandS.Walk
import HandS.HeadHook1
import HandS.HeadHook2
import HandS.Zip
import HandS.TupAny
import HandS.Style
import HandS.Defaults
import HandS.Head0
import HandS.Head1
import HandS.Head2
import HandS.HeadEnd
import HandS.HeadHook4
import HandS.HeadWalk
import HandS.Dict
import HandS.Deep
import HandS.ExcIs
import HandS.NestedK
import HandS.Rev
import HandS.Text
import KE.GoesComp
import PySem.Challenge.RW_momentwright_k91_texts_that_write_none
set_option Elab.async false
set_option linter.all false
set_option maxRecDepth 100000
set_option maxHeartbeats 4000000
namespace DL
open PySem L2
open Evl (Ex)
inductive D where
  | non | bl (b : Bool) | int (i : Int) | str (x : Str) | lst (xs : List D) | tup (xs : List D) | dic | scr (ns : List Int) | st (a : Addr) | exc (x : Str) | fn (f a : Addr) (o u : HO)
deriving Inhabited
structure Cell where
  x : Int
  b : Bool
  a : Addr
abbrev S := Option Cell
inductive Sl where
  | no | val (d : D) | own (ds : List D)
def Sl.d : Sl → D
  | .no => .non
  | .val d => d
  | .own ds => .lst ds
abbrev EnvD := List Sl
mutual
def D.py : D → PyData
  | .non => .none
  | .bl b => .bool b
  | .int i => .int i
  | .str x => .str x
  | .lst ds => .list (D.pyL ds)
  | .tup ds => .tuple (D.pyL ds)
  | .dic => .dict []
  | .scr _ => .dict []
  | .st _ => .dict []
  | .exc _ => .dict []
  | .fn .. => .dict []
def D.pyL : List D → List PyData
  | [] => []
  | d :: ds => D.py d :: D.pyL ds
end
def ErrO (p : Addr) (cls : Value) : HO := .ext fun h => ∃ (o : Obj) (us : Array Value), h.get? p = some o ∧ Zc cls none o ∧ o.data = .fields us
def noT (H : Hp) : Hp := fun p => match H p with
  | some (.tbl _) => none
  | o => o
theorem noT_of {H : Hp} {p : Addr} {o : HO} (h : H p = some o) (n : ∀ ps, o ≠ .tbl ps) : noT H p = some o := by
  unfold noT
  rw [h]
  cases o with
  | tbl ps => exact absurd rfl (n ps)
  | _ => rfl
theorem noT_some {H : Hp} {p : Addr} {o : HO} (h : noT H p = some o) : H p = some o ∧ ∀ ps, o ≠ .tbl ps := by
  unfold noT at h
  cases e : H p with
  | none => rw [e] at h; cases h
  | some u =>
    rw [e] at h
    cases u <;> first | (cases h; done) | (cases h; exact ⟨rfl, fun _ z => by cases z⟩)
theorem noT_none {H : Hp} {p : Addr} (h : H p = none) : noT H p = none := by
  unfold noT
  rw [h]
mutual
def Rep (K : PySem.W.Frag) (G : Hp) : D → V → Prop
  | .non, v => v = .non
  | .bl b, v => v = .bl b
  | .int i, v => v = .int i
  | .str x, v => v = .str x
  | .lst ds, v => ∃ p vs, v = .ref p ∧ G p = some (.lst vs) ∧ RepL K G ds vs
  | .tup ds, v => ∃ p vs, v = .ref p ∧ SqT K G p vs ∧ RepL K G ds vs
  | .dic, v => ∃ p kvs, v = .ref p ∧ G p = some (.dK kvs)
  | .scr ns, v => ∃ p, v = .ref p ∧ SqL K G p (ns.map V.int)
  | .st a, v => v = .ref a
  | .exc x, v => ∃ p, v = .ref p ∧ G p = some (ErrO p (.ref (He.ga K x)))
  | .fn f a o u, v => v = .ref f ∧ G f = some o ∧ G a = some u ∧ (∀ kvs, o ≠ .dK kvs) ∧ ∀ kvs, u ≠ .dK kvs
def RepL (K : PySem.W.Frag) (G : Hp) : List D → List V → Prop
  | [], vs => vs = []
  | d :: ds, vs => ∃ v r, vs = v :: r ∧ Rep K G d v ∧ RepL K G ds r
end
section
variable {K : PySem.W.Frag} {G G' : Hp}
mutual
theorem Rep.mono (e : Ex G G') : ∀ (d : D) {v : V}, Rep K G d v → Rep K G' d v
  | .non, _, h => by simpa only [Rep] using h
  | .bl _, _, h => by simpa only [Rep] using h
  | .int _, _, h => by simpa only [Rep] using h
  | .str _, _, h => by simpa only [Rep] using h
  | .lst ds, _, h => by
    simp only [Rep] at h ⊢
    obtain ⟨p, vs, h1, h2, h3⟩ := h
    exact ⟨p, vs, h1, e _ _ h2, RepL.mono e ds h3⟩
  | .tup ds, _, h => by
    simp only [Rep] at h ⊢
    obtain ⟨p, vs, h1, h2, h3⟩ := h
    exact ⟨p, vs, h1, Evl.ex_t e h2, RepL.mono e ds h3⟩
  | .dic, _, h => by
    simp only [Rep] at h ⊢
    obtain ⟨p, kvs, h1, h2⟩ := h
    exact ⟨p, kvs, h1, e _ _ h2⟩
  | .scr _, _, h => by
    simp only [Rep] at h ⊢
    obtain ⟨p, h1, h2⟩ := h
    exact ⟨p, h1, Evl.ex_l e h2⟩
  | .st _, _, h => by simpa only [Rep] using h
  | .exc x, _, h => by
    simp only [Rep] at h ⊢
    obtain ⟨p, h1, h2⟩ := h
    exact ⟨p, h1, e _ _ h2⟩
  | .fn .., _, h => by
    simp only [Rep] at h ⊢
    exact ⟨h.1, e _ _ h.2.1, e _ _ h.2.2.1, h.2.2.2⟩
theorem RepL.mono (e : Ex G G') : ∀ (ds : List D) {vs : List V}, RepL K G ds vs → RepL K G' ds vs
  | [], _, h => by simpa only [RepL] using h
  | d :: ds, _, h => by
    simp only [RepL] at h ⊢
    obtain ⟨v, r, h1, h2, h3⟩ := h
    exact ⟨v, r, h1, Rep.mono e d h2, RepL.mono e ds h3⟩
end
theorem RepL.length : ∀ {ds : List D} {vs : List V}, RepL K G ds vs → vs.length = ds.length
  | [], _, h => by simp only [RepL] at h; subst h; rfl
  | d :: ds, _, h => by
    simp only [RepL] at h
    obtain ⟨v, r, rfl, _, h3⟩ := h
    simp [RepL.length h3]
theorem RepL.get : ∀ {ds : List D} {vs : List V} {i : Nat} {d : D}, RepL K G ds vs → ds[i]? = some d → ∃ v, vs[i]? = some v ∧ Rep K G d v
  | [], _, i, d, _, e => by simp at e
  | d' :: ds, _, i, d, h, e => by
    simp only [RepL] at h
    obtain ⟨v, r, rfl, h2, h3⟩ := h
    cases i with
    | zero => simp at e; subst e; exact ⟨v, rfl, h2⟩
    | succ i =>
      obtain ⟨w, h4, h5⟩ := RepL.get (i := i) h3 (by simpa using e)
      exact ⟨w, by simpa using h4, h5⟩
theorem RepL.getV : ∀ {ds : List D} {vs : List V} {i : Nat} {v : V}, RepL K G ds vs → vs[i]? = some v → ∃ d, ds[i]? = some d ∧ Rep K G d v
  | [], _, i, d, h, e => by simp only [RepL] at h; subst h; simp at e
  | d' :: ds, _, i, w, h, e => by
    simp only [RepL] at h
    obtain ⟨v, r, rfl, h2, h3⟩ := h
    cases i with
    | zero => simp at e; subst e; exact ⟨d', rfl, h2⟩
    | succ i =>
      obtain ⟨d, h4, h5⟩ := RepL.getV (i := i) h3 (by simpa using e)
      exact ⟨d, by simpa using h4, h5⟩
theorem RepL.append : ∀ {ds es : List D} {vs ws : List V}, RepL K G ds vs → RepL K G es ws → RepL K G (ds ++ es) (vs ++ ws)
  | [], _, _, _, h, h' => by simp only [RepL] at h; subst h; exact h'
  | d :: ds, _, _, _, h, h' => by
    simp only [RepL] at h
    obtain ⟨v, r, rfl, h2, h3⟩ := h
    simp only [List.cons_append, RepL]
    exact ⟨v, _, rfl, h2, RepL.append h3 h'⟩
theorem RepL.one {d : D} {v : V} (h : Rep K G d v) : RepL K G [d] [v] := by
  simp only [RepL]
  exact ⟨v, [], rfl, h, rfl⟩
theorem RepL.cons {d : D} {v : V} {ds : List D} {vs : List V} (h : Rep K G d v) (h' : RepL K G ds vs) : RepL K G (d :: ds) (v :: vs) := by
  simp only [RepL]
  exact ⟨v, _, rfl, h, h'⟩
theorem RepL.nil : RepL K G [] [] := by simp only [RepL]
theorem RepL.set : ∀ {ds : List D} {vs : List V} {d : D} {v : V} (i : Nat), RepL K G ds vs → Rep K G d v → RepL K G (ds.set i d) (vs.set i v)
  | [], _, _, _, i, h, _ => by simp only [RepL] at h; subst h; simp [RepL]
  | d' :: ds, _, d, v, i, h, h' => by
    simp only [RepL] at h
    obtain ⟨w, r, rfl, h2, h3⟩ := h
    cases i with
    | zero => simp only [List.set, RepL]; exact ⟨v, r, rfl, h', h3⟩
    | succ i => simp only [List.set, RepL]; exact ⟨w, _, rfl, h2, RepL.set i h3 h'⟩
theorem RepL.take : ∀ {ds : List D} {vs : List V} (n : Nat), RepL K G ds vs → RepL K G (ds.take n) (vs.take n)
  | [], _, n, h => by simp only [RepL] at h; subst h; simp [RepL]
  | d' :: ds, _, n, h => by
    simp only [RepL] at h
    obtain ⟨w, r, rfl, h2, h3⟩ := h
    cases n with
    | zero => simp [RepL]
    | succ n => simp only [List.take_succ_cons, RepL]; exact ⟨w, _, rfl, h2, RepL.take n h3⟩
theorem RepL.drop : ∀ {ds : List D} {vs : List V} (n : Nat), RepL K G ds vs → RepL K G (ds.drop n) (vs.drop n)
  | [], _, n, h => by simp only [RepL] at h; subst h; simp [RepL]
  | d' :: ds, _, n, h => by
    have h0 := h
    simp only [RepL] at h
    obtain ⟨w, r, rfl, h2, h3⟩ := h
    cases n with
    | zero => exact h0
    | succ n => simp only [List.drop_succ_cons]; exact RepL.drop n h3
theorem RepL.replicate {ds : List D} {vs : List V} (n : Nat) (h : RepL K G ds vs) : RepL K G (List.replicate n ds).flatten (List.replicate n vs).flatten := by
  induction n with
  | zero => simp [RepL]
  | succ n ih => simp only [List.replicate_succ, List.flatten_cons]; exact RepL.append h ih
theorem RepL.reverse {ds : List D} {vs : List V} (h : RepL K G ds vs) : RepL K G ds.reverse vs.reverse := by
  induction ds generalizing vs with
  | nil => simp only [RepL] at h; subst h; simp [RepL]
  | cons d ds ih =>
    simp only [RepL] at h
    obtain ⟨w, r, rfl, h2, h3⟩ := h
    simp only [List.reverse_cons]
    exact RepL.append (ih h3) (RepL.one h2)
end
structure Cxt where
  K : PySem.W.Frag
  a0 : Option Addr
  H0 : Hp
  G0 : Hp
  T : List (Addr × Str)
def SlV (c : Cxt) (G H : Hp) (v : V) (ds : List D) : Prop :=
  ∃ p vs, v = .ref p ∧ G p = none ∧ c.H0 p = none ∧ c.a0 ≠ some p ∧ H p = some (.lst vs) ∧ RepL c.K G ds vs
structure Rel (c : Cxt) (G : Hp) (env : EnvD) (s : S) (σ : L2.St) (H : Hp) : Prop where
  ex : Ex G H
  st : ∀ a, c.a0 = some a → G a = none ∧ ∃ x b, s = some ⟨x, b, a⟩ ∧ H a = some (.lst [.int x, .bl b])
  sn : c.a0 = none → s = none
  keep : ∀ p o, c.H0 p = some o → c.a0 ≠ some p → (∀ ps, o ≠ .tbl ps) → H p = some o
  kn : ∀ p, H p = none → c.H0 p = none
  h0n : ∀ p ps, c.H0 p ≠ some (.tbl ps)
  tab : LamX.Tabs c.T H
  gnew : ∀ p vs, c.H0 p = some (.lst vs) → c.G0 p = none → G p = none
  gx : Ex c.G0 G
  gtb : ∀ p ps, G p ≠ some (.tbl ps)
  len : env.length = σ.length
  vals : ∀ (i : Nat) (d : D), env[i]? = some (.val d) → ∃ v, σ[i]? = some (some v) ∧ Rep c.K G d v
  owns : ∀ (i : Nat) (ds : List D), env[i]? = some (.own ds) → ∃ v, σ[i]? = some (some v) ∧ SlV c G H v ds
  dist : ∀ (i j : Nat) (ds es : List D) (v : V), env[i]? = some (.own ds) → env[j]? = some (.own es) → σ[i]? = some (some v) → σ[j]? = some (some v) → i = j
def Apart (env : EnvD) (σ : L2.St) (v : V) : Prop := ∀ (i : Nat) (es : List D), env[i]? = some (.own es) → σ[i]? ≠ some (some v)
def RV (c : Cxt) (G H : Hp) (env : EnvD) (σ : L2.St) (v : V) : Sl → Prop
  | .no => False
  | .val d => Rep c.K G d v
  | .own ds => SlV c G H v ds ∧ Apart env σ v
theorem Tabs.updL {T : List (Addr × Str)} {H : Hp} {p : Addr} {vs ws : List V} (h : LamX.Tabs T H) (e : H p = some (.lst vs)) : LamX.Tabs T (upd H p (.lst ws)) := fun q hq => by
  obtain ⟨ps, h1, h2, h3⟩ := h q hq
  have n1 : q.1 ≠ p := ne_of h1 e (by intro z; cases z)
  refine ⟨ps, by rw [upd_ne n1]; exact h1, h2, fun pos cv hc => ?_⟩
  obtain ⟨x, e1, e2⟩ := h3 pos cv hc
  refine ⟨x, e1, ?_⟩
  rw [upd_ne (ne_of e2 e (by intro z; unfold LamX.CodeO at z; cases z))]
  exact e2
section
variable {c : Cxt} {G : Hp} {env : EnvD} {s : S} {σ : L2.St} {H : Hp}
theorem Rel.g0 (R : Rel c G env s σ H) {p : Addr} (h : H p = none) : G p = none := by
  cases q : G p with
  | none => rfl
  | some o => rw [R.ex p o q] at h; cases h
theorem Rel.new (R : Rel c G env s σ H) {p : Addr} {o : HO} (h : H p = none) (ho : ∀ ps, o ≠ .tbl ps) : Rel c G env s σ (upd H p o) := by
  have e : Ex H (upd H p o) := Ex.new h
  refine { ex := R.ex.trans e, st := fun a ha => ⟨(R.st a ha).1, let ⟨x, b, h1, h2⟩ := (R.st a ha).2; ⟨x, b, h1, e _ _ h2⟩⟩, sn := R.sn, keep := fun q u h1 h2 h3 => e _ _ (R.keep q u h1 h2 h3), kn := fun q hq => ?_, h0n := R.h0n,
           tab := R.tab.ext e, gnew := R.gnew, gx := R.gx, gtb := R.gtb, len := R.len, vals := R.vals, owns := fun i ds hi => ?_, dist := R.dist }
  · by_cases hb : q = p
    · subst hb; rw [upd_same] at hq; cases hq
    · rw [upd_ne hb] at hq; exact R.kn q hq
  · obtain ⟨v, h1, q, vs, h2, h3, h4, h5, h6, h7⟩ := R.owns i ds hi
    exact ⟨v, h1, q, vs, h2, h3, h4, h5, e _ _ h6, h7⟩
theorem Rel.newApart (R : Rel c G env s σ H) {p : Addr} (h : H p = none) : Apart env σ (.ref p) := fun i es hi hv => by
  obtain ⟨v, h1, q, vs, h2, h3, h4, h5, h6, h7⟩ := R.owns i es hi
  rw [h1] at hv
  cases hv
  cases h2
  rw [h] at h6
  cases h6
theorem Rel.knN (R : Rel c G env s σ H) {p : Addr} (h : noT H p = none) : c.H0 p = none := by
  cases e : c.H0 p with
  | none => rfl
  | some o =>
    have ho : ∀ ps, o ≠ .tbl ps := fun ps z => R.h0n p ps (by rw [e, z])
    by_cases ha : c.a0 = some p
    · obtain ⟨x, b, _, h2⟩ := (R.st p ha).2
      rw [noT_of h2 (fun _ z => by cases z)] at h
      cases h
    · rw [noT_of (R.keep p o e ha ho) ho] at h
      cases h
theorem Rel.newApartN (R : Rel c G env s σ H) {p : Addr} (h : noT H p = none) : Apart env σ (.ref p) := fun i es hi hv => by
  obtain ⟨v, h1, q, vs, h2, h3, h4, h5, h6, h7⟩ := R.owns i es hi
  rw [h1] at hv
  cases hv
  cases h2
  rw [noT_of h6 (fun _ z => by cases z)] at h
  cases h
theorem Rel.a0neN (R : Rel c G env s σ H) {p : Addr} (h : noT H p = none) : c.a0 ≠ some p := fun z => by
  obtain ⟨x, b, _, h2⟩ := (R.st p z).2
  rw [noT_of h2 (fun _ z => by cases z)] at h
  cases h
theorem Rel.a0ne (R : Rel c G env s σ H) {p : Addr} (h : H p = none) : c.a0 ≠ some p := fun z => by
  obtain ⟨x, b, _, h2⟩ := (R.st p z).2
  rw [h] at h2; cases h2
theorem Rel.newOwn (R : Rel c G env s σ H) {p : Addr} {vs : List V} {ds : List D} (h : H p = none) (hr : RepL c.K G ds vs) :
    Rel c G env s σ (upd H p (.lst vs)) ∧ RV c G (upd H p (.lst vs)) env σ (.ref p) (.own ds) :=
  ⟨R.new h (fun _ z => by cases z), ⟨p, vs, rfl, R.g0 h, R.kn p h, R.a0ne h, upd_same, hr⟩, R.newApart h⟩
theorem Rel.growX (R : Rel c G env s σ H) {p : Addr} {o : HO} (h : H p = some o) (h0 : c.H0 p = none ∨ ∀ vs, o ≠ .lst vs) (hg : G p = none) (ha : c.a0 ≠ some p) (ho : ∀ ps, o ≠ .tbl ps) (ap : Apart env σ (.ref p)) : Rel c (upd G p o) env s σ H := by
  have e : Ex G (upd G p o) := Ex.new hg
  refine { ex := fun q u hq => ?_, st := fun a h1 => ⟨?_, (R.st a h1).2⟩, sn := R.sn, keep := R.keep, kn := R.kn, h0n := R.h0n, tab := R.tab, gnew := fun q ws h1 h2 => ?_, gx := R.gx.trans e, gtb := fun q ps hq => ?_, len := R.len,
           vals := fun i d hi => ?_, owns := fun i ds hi => ?_, dist := R.dist }
  · by_cases hb : q = p
    · subst hb; rw [upd_same] at hq; cases hq; exact h
    · rw [upd_ne hb] at hq; exact R.ex q u hq
  · rw [upd_ne (fun z => ha (by rw [← z]; exact h1))]
    exact (R.st a h1).1
  · have hb : q ≠ p := fun z => by
      rcases h0 with h0 | h0
      · rw [z, h0] at h1; cases h1
      · have := R.keep q _ h1 (fun y => ha (by rw [← z]; exact y)) (fun _ y => by cases y)
        rw [z, h] at this
        exact h0 ws (Option.some.inj this)
    rw [upd_ne hb]
    exact R.gnew q ws h1 h2
  · by_cases hb : q = p
    · subst hb; rw [upd_same] at hq; cases hq; exact ho ps rfl
    · rw [upd_ne hb] at hq; exact R.gtb q ps hq
  · obtain ⟨v, h1, h2⟩ := R.vals i d hi
    exact ⟨v, h1, Rep.mono e d h2⟩
  · obtain ⟨v, h1, q, vs, h2, h3, h4, h5, h6, h7⟩ := R.owns i ds hi
    have hb : q ≠ p := fun z => ap i ds hi (by rw [h1, h2, z])
    exact ⟨v, h1, q, vs, h2, by rw [upd_ne hb]; exact h3, h4, h5, h6, RepL.mono e ds h7⟩
theorem Rel.grow (R : Rel c G env s σ H) {p : Addr} {o : HO} (h : H p = some o) (h0 : c.H0 p = none) (hg : G p = none) (ha : c.a0 ≠ some p) (ho : ∀ ps, o ≠ .tbl ps) (ap : Apart env σ (.ref p)) : Rel c (upd G p o) env s σ H := R.growX h (.inl h0) hg ha ho ap
theorem Rel.lstN (R : Rel c G env s σ H) {p : Addr} {vs : List V} (h : c.H0 p = some (.lst vs)) : ∃ ws, noT H p = some (.lst ws) := by
  by_cases ha : c.a0 = some p
  · obtain ⟨x, b, _, h2⟩ := (R.st p ha).2
    exact ⟨_, noT_of h2 (fun _ z => by cases z)⟩
  · exact ⟨vs, noT_of (R.keep p _ h ha (fun _ z => by cases z)) (fun _ z => by cases z)⟩
theorem Rel.toVal (R : Rel c G env s σ H) {v : V} {r : Sl} (h : RV c G H env σ v r) : ∃ G', Rel c G' env s σ H ∧ Ex G G' ∧ Rep c.K G' r.d v := by
  cases r with
  | no => exact h.elim
  | val d => exact ⟨G, R, Ex.refl G, h⟩
  | own ds =>
    obtain ⟨⟨p, vs, rfl, h2, h3, h4, h5, h6⟩, ap⟩ := h
    refine ⟨upd G p (.lst vs), R.grow h5 h3 h2 h4 (fun _ z => by cases z) ap, Ex.new h2, ?_⟩
    show Rep c.K _ (.lst ds) _
    simp only [Rep]
    exact ⟨p, vs, rfl, upd_same, RepL.mono (Ex.new h2) ds h6⟩
theorem Rel.newTup (R : Rel c G env s σ H) {p : Addr} {vs : List V} {ds : List D} (h : H p = none) (hr : RepL c.K G ds vs) :
    ∃ G', Rel c G' env s σ (upd H p (.tup vs)) ∧ Ex G G' ∧ Rep c.K G' (.tup ds) (.ref p) := by
  have R1 := R.new (o := .tup vs) h (fun _ z => by cases z)
  refine ⟨upd G p (.tup vs), R1.grow upd_same (R.kn p h) (R.g0 h) (R.a0ne h) (fun _ z => by cases z) (R.newApart h), Ex.new (R.g0 h), ?_⟩
  simp only [Rep]
  exact ⟨p, vs, rfl, Or.inl (Or.inl upd_same), RepL.mono (Ex.new (R.g0 h)) ds hr⟩
end
end DL
set_option Elab.async false
set_option linter.all false
set_option maxRecDepth 100000
set_option maxHeartbeats 4000000
namespace DL
open PySem L2
open Evl (Ex)
abbrev FE := EnvD → S → (Sl → EnvD → S → Prop) → Prop
abbrev FP := EnvD → S → (D → EnvD → S → Prop) → Prop
abbrev FT := EnvD → S → (Bool → EnvD → S → Prop) → Prop
abbrev FA := EnvD → S → (List D → EnvD → S → Prop) → Prop
abbrev F2 := D → D → (Sl → Prop) → Prop
abbrev F1 := D → (Sl → Prop) → Prop
abbrev FL := List D → (Sl → Prop) → Prop
def at_ : EnvD → Nat → Sl
  | [], _ => .no
  | x :: _, 0 => x
  | _ :: r, n + 1 => at_ r n
theorem at_val : ∀ {env : EnvD} {i : Nat} {x : Sl}, at_ env i = x → x ≠ .no → env[i]? = some x
  | [], _, x, h, n => absurd h.symm n
  | y :: r, 0, x, h, _ => by simpa [at_] using h
  | y :: r, i + 1, x, h, n => by
    have := at_val (env := r) (i := i) (x := x) h n
    simpa using this
def PR (c : Cxt) (G H : Hp) : D → V → Prop
  | .lst ds, v => ∃ p vs, v = .ref p ∧ H p = some (.lst vs) ∧ RepL c.K G ds vs
  | d, v => Rep c.K G d v
section
variable (c : Cxt)
def DE (t : TE) (f : FE) : Prop := ∀ (G : Hp) (env : EnvD) (s : S) (σ : L2.St) (H : Hp) (k : Sl → EnvD → S → Prop) (Q : VK), Rel c G env s σ H → f env s k →
  (∀ G' H' v r env' s', Rel c G' env' s' σ H' → Ex G G' → RV c G' H' env' σ v r → k r env' s' → Q v H') → t σ H Q
def DP (t : TE) (f : FP) : Prop := ∀ (G : Hp) (env : EnvD) (s : S) (σ : L2.St) (H : Hp) (k : D → EnvD → S → Prop) (Q : VK), Rel c G env s σ H → f env s k →
  (∀ G' H' v d env' s', Rel c G' env' s' σ H' → Ex G G' → PR c G' H' d v → k d env' s' → Q v H') → t σ H Q
def DT (t : TT) (f : FT) : Prop := ∀ (G : Hp) (env : EnvD) (s : S) (σ : L2.St) (H : Hp) (k : Bool → EnvD → S → Prop) (Q : Bool → Hp → Prop), Rel c G env s σ H → f env s k →
  (∀ G' H' b env' s', Rel c G' env' s' σ H' → Ex G G' → k b env' s' → Q b H') → t σ H Q
def DA (t : TA) (f : FA) : Prop := ∀ (G : Hp) (env : EnvD) (s : S) (σ : L2.St) (H : Hp) (k : List D → EnvD → S → Prop) (Q : List V → Hp → Prop), Rel c G env s σ H → f env s k →
  (∀ G' H' vs ds env' s', Rel c G' env' s' σ H' → Ex G G' → RepL c.K G' ds vs → k ds env' s' → Q vs H') → t σ H Q
def D2 (r : R2) (g : F2) : Prop := ∀ (G : Hp) (env : EnvD) (s : S) (σ : L2.St) (H : Hp) (x y : V) (d e : D) (k : Sl → Prop) (Q : VK), Rel c G env s σ H → PR c G H d x → PR c G H e y → g d e k →
  (∀ G' H' v r', Rel c G' env s σ H' → Ex G G' → RV c G' H' env σ v r' → k r' → Q v H') → r x y H Q
def D1 (r : V → Hp → VK → Prop) (g : F1) : Prop := ∀ (G : Hp) (env : EnvD) (s : S) (σ : L2.St) (H : Hp) (x : V) (d : D) (k : Sl → Prop) (Q : VK), Rel c G env s σ H → PR c G H d x → g d k →
  (∀ G' H' v r', Rel c G' env s σ H' → Ex G G' → RV c G' H' env σ v r' → k r' → Q v H') → r x H Q
def DB (r : List V → Hp → VK → Prop) (g : FL) : Prop := ∀ (G : Hp) (env : EnvD) (s : S) (σ : L2.St) (H : Hp) (xs : List V) (ds : List D) (k : Sl → Prop) (Q : VK), Rel c G env s σ H → RepL c.K G ds xs → g ds k →
  (∀ G' H' v r', Rel c G' env s σ H' → Ex G G' → RV c G' H' env σ v r' → k r' → Q v H') → r xs H Q
end
section
variable {c : Cxt} {G H : Hp} {env : EnvD} {s : S} {σ : L2.St}
theorem Rel.pr (R : Rel c G env s σ H) {d : D} {v : V} (h : Rep c.K G d v) : PR c G H d v := by
  cases d with
  | lst ds =>
    simp only [Rep] at h
    obtain ⟨p, vs, h1, h2, h3⟩ := h
    exact ⟨p, vs, h1, R.ex _ _ h2, h3⟩
  | _ => exact h
theorem RV.pr (R : Rel c G env s σ H) {r : Sl} {v : V} (h : RV c G H env σ v r) : PR c G H r.d v := by
  cases r with
  | no => exact h.elim
  | val d => exact R.pr h
  | own ds =>
    obtain ⟨⟨p, vs, h1, h2, h3, h4, h5, h6⟩, _⟩ := h
    exact ⟨p, vs, h1, h5, h6⟩
theorem at_rel (R : Rel c G env s σ H) {i : Nat} (h : at_ env i ≠ .no) : ∃ v, σ[i]? = some (some v) ∧ PR c G H (at_ env i).d v := by
  cases e : at_ env i with
  | no => exact absurd e h
  | val d =>
    obtain ⟨v, h1, h2⟩ := R.vals i d (at_val e (by simp))
    exact ⟨v, h1, R.pr h2⟩
  | own ds =>
    obtain ⟨v, h1, p, vs, h2, h3, h4, h5, h6, h7⟩ := R.owns i ds (at_val e (by simp))
    exact ⟨v, h1, p, vs, h2, h6, h7⟩
theorem Rel.freeze (R : Rel c G env s σ H) {i : Nat} {ds : List D} (h : env[i]? = some (.own ds)) :
    ∃ G' v, σ[i]? = some (some v) ∧ Rel c G' (env.set i (.val (.lst ds))) s σ H ∧ Ex G G' ∧ Rep c.K G' (.lst ds) v := by
  obtain ⟨v, h1, p, vs, rfl, h3, h4, h5, h6, h7⟩ := R.owns i ds h
  have hi : i < env.length := (List.getElem?_eq_some_iff.mp h).1
  have e : Ex G (upd G p (.lst vs)) := Ex.new h3
  have rp : Rep c.K (upd G p (.lst vs)) (.lst ds) (.ref p) := by
    simp only [Rep]
    exact ⟨p, vs, rfl, upd_same, RepL.mono e ds h7⟩
  have get : ∀ j (x : Sl), j ≠ i → (env.set i (.val (.lst ds)))[j]? = some x → env[j]? = some x := fun j x hj q => by
    rw [List.getElem?_set_ne (Ne.symm hj)] at q; exact q
  have at_i : ∀ x, (env.set i (.val (.lst ds)))[i]? = some x → x = .val (.lst ds) := fun x q => by
    rw [List.getElem?_set_self hi] at q; exact (Option.some.inj q).symm
  refine ⟨upd G p (.lst vs), .ref p, h1, ?_, e, rp⟩
  refine { ex := fun q u hq => ?_, st := fun a ha => ⟨?_, (R.st a ha).2⟩, sn := R.sn, keep := R.keep, kn := R.kn, h0n := R.h0n, tab := R.tab, gnew := fun q ws a b => ?_, gx := R.gx.trans e, gtb := fun q ps hq => ?_,
           len := by rw [List.length_set]; exact R.len, vals := fun j d hj => ?_, owns := fun j es hj => ?_, dist := fun j l es fs w h8 h9 ha hb => ?_ }
  · by_cases hb : q = p
    · subst hb; rw [upd_same] at hq; cases hq; exact h6
    · rw [upd_ne hb] at hq; exact R.ex q u hq
  · rw [upd_ne (fun z => h5 (by rw [← z]; exact ha))]
    exact (R.st a ha).1
  · have hb : q ≠ p := fun z => by rw [z, h4] at a; cases a
    rw [upd_ne hb]
    exact R.gnew q ws a b
  · by_cases hb : q = p
    · subst hb; rw [upd_same] at hq; cases hq
    · rw [upd_ne hb] at hq; exact R.gtb q ps hq
  · by_cases hji : j = i
    · subst hji
      have := at_i _ hj
      cases this
      exact ⟨.ref p, h1, rp⟩
    · obtain ⟨v, e1, e2⟩ := R.vals j d (get j _ hji hj)
      exact ⟨v, e1, Rep.mono e d e2⟩
  · by_cases hji : j = i
    · subst hji
      have := at_i _ hj
      cases this
    · obtain ⟨v, e1, q, ws, rfl, e3, e4, e5, e6, e7⟩ := R.owns j es (get j _ hji hj)
      have hb : q ≠ p := fun z => hji (R.dist j i es ds (.ref q) (get j _ hji hj) h e1 (by rw [z]; exact h1))
      exact ⟨_, e1, q, ws, rfl, by rw [upd_ne hb]; exact e3, e4, e5, e6, RepL.mono e es e7⟩
  · by_cases hji : j = i
    · subst hji
      have := at_i _ h8
      cases this
    · by_cases hli : l = i
      · subst hli
        have := at_i _ h9
        cases this
      · exact R.dist j l es fs w (get j _ hji h8) (get l _ hli h9) ha hb
end
def wV (i : Nat) : FE := fun env s k => match at_ env i with
  | .no => False
  | .val d => k (.val d) env s
  | .own ds => k (.val (.lst ds)) (env.set i (.val (.lst ds))) s
def wPV (i : Nat) : FP := fun env s k => match at_ env i with
  | .no => False
  | .val d => k d env s
  | .own ds => k (.lst ds) env s
def wC (d : D) : FE := fun env s k => k (.val d) env s
def wP (f : FE) : FP := fun env s k => f env s fun r env s => k r.d env s
section
variable {c : Cxt}
theorem de_var (i : Nat) : DE c (tVar i) (wV i) := by
  intro G env s σ H k Q R h q
  unfold wV at h
  cases e : at_ env i with
  | no => rw [e] at h; exact h.elim
  | val d =>
    rw [e] at h
    obtain ⟨v, h1, h2⟩ := R.vals i d (at_val e (by simp))
    exact ⟨v, h1, q G H v (.val d) env s R (Ex.refl G) h2 h⟩
  | own ds =>
    rw [e] at h
    obtain ⟨G', v, h1, h2, h3, h4⟩ := R.freeze (at_val e (by simp))
    exact ⟨v, h1, q G' H v (.val (.lst ds)) _ s h2 h3 h4 h⟩
theorem dp_var (i : Nat) : DP c (tVar i) (wPV i) := by
  intro G env s σ H k Q R h q
  unfold wPV at h
  have ne : at_ env i ≠ .no := fun e => by rw [e] at h; exact h
  obtain ⟨v, h1, h2⟩ := at_rel R ne
  refine ⟨v, h1, q G H v _ env s R (Ex.refl G) h2 ?_⟩
  cases e : at_ env i with
  | no => exact absurd e ne
  | val d => rw [e] at h; exact h
  | own ds => rw [e] at h; exact h
theorem DE.dp {t : TE} {f : FE} (h : DE c t f) : DP c t (wP f) := by
  intro G env s σ H k Q R hf q
  exact h G env s σ H _ Q R hf fun G' H' v r env' s' R' e rv kk => q G' H' v r.d env' s' R' e (RV.pr R' rv) kk
theorem de_c {v : V} {d : D} (h : ∀ G, Rep c.K G d v) : DE c (tC v) (wC d) := fun G env s σ H k Q R hf q => q G H v (.val d) env s R (Ex.refl G) (h G) hf
theorem de_int (i : Int) : DE c (tC (.int i)) (wC (.int i)) := de_c fun _ => by simp only [Rep]
theorem de_bl (b : Bool) : DE c (tC (.bl b)) (wC (.bl b)) := de_c fun _ => by simp only [Rep]
theorem de_str (x : Str) : DE c (tC (.str x)) (wC (.str x)) := de_c fun _ => by simp only [Rep]
theorem de_non : DE c (tC .non) (wC .non) := de_c fun _ => by simp only [Rep]
end
def wOp (g : F2) (fa : FE) (fb : FP) : FE := fun env s k => fa env s fun ra env1 s1 => fb env1 s1 fun db env2 s2 => g ra.d db fun r => k r env2 s2
def wOpv (g : F2) (i : Nat) (fb : FP) : FE := fun env s k => at_ env i ≠ .no ∧ fb env s fun db env2 s2 => at_ env2 i ≠ .no ∧ g (at_ env2 i).d db fun r => k r env2 s2
def wUn (g : F1) (fa : FP) : FE := fun env s k => fa env s fun da env1 s1 => g da fun r => k r env1 s1
section
variable {c : Cxt} {ta tb : TE} {fa : FE} {fb fp : FP}
theorem de_op {r : R2} {g : F2} (hr : D2 c r g) (ha : DE c ta fa) (hb : DP c tb fb) : DE c (tOp r ta tb) (wOp g fa fb) := by
  intro G env s σ H k Q R hf q
  refine ha G env s σ H _ _ R hf fun G1 H1 x ra env1 s1 R1 e1 rv1 k1 => ?_
  obtain ⟨G2, R2, e2, rp⟩ := R1.toVal rv1
  refine hb G2 env1 s1 σ H1 _ _ R2 k1 fun G3 H3 y db env3 s3 R3 e3 p3 k3 => ?_
  exact hr G3 env3 s3 σ H3 x y ra.d db _ Q R3 (R3.pr (Rep.mono e3 _ rp)) p3 k3 fun G4 H4 v r' R4 e4 rv4 k4 => q G4 H4 v r' env3 s3 R4 (((e1.trans e2).trans e3).trans e4) rv4 k4
theorem de_opv {r : R2} {g : F2} {i : Nat} (hr : D2 c r g) (hb : DP c tb fb) : DE c (tOp r (tVar i) tb) (wOpv g i fb) := by
  intro G env s σ H k Q R hf q
  obtain ⟨h0, h⟩ := hf
  obtain ⟨v, h1, _⟩ := at_rel R h0
  refine ⟨v, h1, hb G env s σ H _ _ R h fun G3 H3 y db env3 s3 R3 e3 p3 k3 => ?_⟩
  obtain ⟨h2, k4⟩ := k3
  obtain ⟨v', h3, h4⟩ := at_rel R3 h2
  have e : v' = v := by rw [h1] at h3; cases h3; rfl
  subst e
  exact hr G3 env3 s3 σ H3 v' y _ db _ Q R3 h4 p3 k4 fun G4 H4 w r' R4 e4 rv4 k4 => q G4 H4 w r' env3 s3 R4 (e3.trans e4) rv4 k4
theorem de_un {r : V → Hp → VK → Prop} {g : F1} (hr : D1 c r g) (ha : DP c ta fp) : DE c (tUn r ta) (wUn g fp) := by
  intro G env s σ H k Q R hf q
  refine ha G env s σ H _ _ R hf fun G1 H1 x da env1 s1 R1 e1 p1 k1 => ?_
  exact hr G1 env1 s1 σ H1 x da _ Q R1 p1 k1 fun G4 H4 v r' R4 e4 rv4 k4 => q G4 H4 v r' env1 s1 R4 (e1.trans e4) rv4 k4
end
def gI (g : Int → Int → D) : F2 := fun d e k => match d, e with
  | .int i, .int j => k (.val (g i j))
  | _, _ => False
def gIC (C : Int → Int → Prop) (g : Int → Int → D) : F2 := fun d e k => match d, e with
  | .int i, .int j => C i j ∧ k (.val (g i j))
  | _, _ => False
def MulOk (i j : Int) : Prop := IntMulOk i j
def DivOk (_ j : Int) : Prop := j ≠ 0
def DivOkB (i j : Int) : Prop := j ≠ 0 ∧ Builtin.divisionGoesByPylong i j = false
def gAdd : F2 := gI fun i j => .int (i + j)
def gMin : F2 := gI fun i j => .int (i - j)
def gMul : F2 := gIC MulOk fun i j => .int (i * j)
def gDiv : F2 := gIC DivOk fun i j => .int (i.fdiv j)
def gDivB : F2 := gIC DivOkB fun i j => .int (i.fdiv j)
def gMod : F2 := gIC (fun _ j => j ≠ 0) fun i j => .int (i.fmod j)
def gPow : F2 := gIC CPow fun i j => .int (i ^ j.toNat)
def gLt : F2 := gI fun i j => .bl (decide (i < j))
def gLe : F2 := gI fun i j => .bl (decide (i ≤ j))
def gGt : F2 := gI fun i j => .bl (decide (j < i))
def gGe : F2 := gI fun i j => .bl (decide (j ≤ i))
def gNeg : F1 := fun d k => match d with
  | .int i => k (.val (.int (-i)))
  | _ => False
theorem op_mulX {X : Cx} : OpR X (binaryOp .Mult) (rI MulOk fun i j => .int (i * j)) := opI fun _ _ _ _ _ _ _ hc q => PyProof.Rows.mul_int q hc
theorem op_divB {X : Cx} : OpR X (binaryOp .FloorDiv) (rI DivOkB fun i j => .int (i.fdiv j)) := opI fun _ _ _ _ _ _ _ hc q => PyProof.Rows.floordiv_int hc.1 q (.inl hc.2)
structure SeerB (P : Program) (base : Heap) : Prop where
  stat : ∃ m, base.Ns cStatics m ∧ m "sys.audit-hooks" = none ∧ m "sys.dict" = none
  mods : ∃ m, base.Ns sysModules m ∧ m "_pylong" = none
  main : ∃ g a o, base.Ns mainGlobals g ∧ g "__builtins__" = some (.ref a) ∧ base.get? a = some o ∧ o.cls = .type "module" ∧ o.dict = some builtinsNs
  tree : P.given.tree = none
structure SeerX (X : Cx) : Prop where
  b : SeerB X.prog X.base
  gen : X.env.scope.isGenerator = false
  co : X.env.scope.isCoroutine = false
  stk : ∃ l, X.stack = X.env :: l
  room : X.A.depth + Builtin.pylongFrames < recursionLimit
theorem op_divX {X : Cx} (S : SeerX X) : OpR X (binaryOp .FloorDiv) (rI DivOk fun i j => .int (i.fdiv j)) := by
  intro pins s σ H x y v u Q I rx ry h
  obtain ⟨i, j, rfl, rfl, hc, q⟩ := h
  obtain ⟨t, rfl⟩ := rx
  obtain ⟨t', rfl⟩ := ry
  obtain ⟨l, hl⟩ := S.stk
  have ns : s.heap.NoSeer := (Heap.NoSeer.mk S.b.stat S.b.mods I.ok.mod.blt S.b.main).keeps I.bk
  have sa : SeerAt (model X.prog X.w) X.A s.heap := SeerAt.of ns S.b.tree (by rw [I.ok.frames, hl]) S.gen S.co I.ok.blt I.ok.glob
  exact PyProof.Rows.floordiv_int hc ⟨.int (i.fdiv j), H, I.tok _, ⟨_, rfl⟩, q⟩ (.inr (PylongRoom.of I.nolimit S.room sa))
section
variable {c : Cxt}
theorem pr_int {G H : Hp} {d : D} {v : V} {i : Int} (h : PR c G H d v) (e : d = .int i) : v = .int i := by
  subst e
  have h' : Rep c.K G (.int i) v := h
  simpa only [Rep] using h'
theorem d2_I {g : Int → Int → V} {g' : Int → Int → D} (hg : ∀ G i j, Rep c.K G (g' i j) (g i j)) : D2 c (rI0 g) (gI g') := by
  intro G env s σ H x y d e k Q R p1 p2 h q
  unfold gI at h
  split at h
  · rename_i i j
    exact ⟨i, j, pr_int p1 rfl, pr_int p2 rfl, q G H _ (.val (g' i j)) R (Ex.refl G) (hg G i j) h⟩
  · exact h.elim
theorem d2_IC {C : Int → Int → Prop} {g : Int → Int → V} {g' : Int → Int → D} (hg : ∀ G i j, Rep c.K G (g' i j) (g i j)) : D2 c (rI C g) (gIC C g') := by
  intro G env s σ H x y d e k Q R p1 p2 h q
  unfold gIC at h
  split at h
  · rename_i i j
    exact ⟨i, j, pr_int p1 rfl, pr_int p2 rfl, h.1, q G H _ (.val (g' i j)) R (Ex.refl G) (hg G i j) h.2⟩
  · exact h.elim
theorem d2_add : D2 c (rI0 fun i j => .int (i + j)) gAdd := d2_I fun _ _ _ => by simp only [Rep]
theorem d2_sub : D2 c (rI0 fun i j => .int (i - j)) gMin := d2_I fun _ _ _ => by simp only [Rep]
theorem d2_mul : D2 c (rI MulOk fun i j => .int (i * j)) gMul := d2_IC fun _ _ _ => by simp only [Rep]
theorem d2_div : D2 c (rI DivOk fun i j => .int (i.fdiv j)) gDiv := d2_IC fun _ _ _ => by simp only [Rep]
theorem d2_divB : D2 c (rI DivOkB fun i j => .int (i.fdiv j)) gDivB := d2_IC fun _ _ _ => by simp only [Rep]
theorem d2_mod : D2 c (rI (fun _ j => j ≠ 0) fun i j => .int (i.fmod j)) gMod := d2_IC fun _ _ _ => by simp only [Rep]
theorem d2_pow : D2 c (rI CPow fun i j => .int (i ^ j.toNat)) gPow := d2_IC fun _ _ _ => by simp only [Rep]
theorem d2_lt : D2 c (rI0 fun i j => .bl (decide (i < j))) gLt := d2_I fun _ _ _ => by simp only [Rep]
theorem d2_le : D2 c (rI0 fun i j => .bl (decide (i ≤ j))) gLe := d2_I fun _ _ _ => by simp only [Rep]
theorem d2_gt : D2 c (rI0 fun i j => .bl (decide (j < i))) gGt := d2_I fun _ _ _ => by simp only [Rep]
theorem d2_ge : D2 c (rI0 fun i j => .bl (decide (j ≤ i))) gGe := d2_I fun _ _ _ => by simp only [Rep]
theorem d1_neg : D1 c (rU fun i => .int (-i)) gNeg := by
  intro G env s σ H x d k Q R p1 h q
  unfold gNeg at h
  split at h
  · rename_i i
    exact ⟨i, pr_int p1 rfl, q G H _ _ R (Ex.refl G) (by simp only [RV, Rep]) h⟩
  · exact h.elim
end
mutual
theorem Rep.dp {K : PySem.W.Frag} {G : Hp} : ∀ (d : D) {v : V}, Rep K G d v → PyData.canLay0 d.py = true → Dp K G v d.py
  | .non, _, h, _ => by simp only [Rep] at h; subst h; exact .non
  | .bl b, _, h, _ => by simp only [Rep] at h; subst h; exact .bl b
  | .int i, _, h, _ => by simp only [Rep] at h; subst h; exact .int i
  | .str x, _, h, _ => by simp only [Rep] at h; subst h; exact .str x
  | .lst ds, _, h, sh => by
    simp only [Rep] at h
    obtain ⟨p, vs, rfl, h2, h3⟩ := h
    simp only [D.py]
    exact .lst (.inl (.inl h2)) (RepL.dp ds h3 (by simpa only [D.py, PyData.canLay0] using sh))
  | .tup ds, _, h, sh => by
    simp only [Rep] at h
    obtain ⟨p, vs, rfl, h2, h3⟩ := h
    simp only [D.py]
    exact .tup h2 (RepL.dp ds h3 (by simpa only [D.py, PyData.canLay0] using sh))
  | .dic, _, _, sh => by simp [D.py, PyData.canLay0] at sh
  | .scr _, _, _, sh => by simp [D.py, PyData.canLay0] at sh
  | .st _, _, _, sh => by simp [D.py, PyData.canLay0] at sh
  | .exc _, _, _, sh => by simp [D.py, PyData.canLay0] at sh
  | .fn .., _, _, sh => by simp [D.py, PyData.canLay0] at sh
theorem RepL.dp {K : PySem.W.Frag} {G : Hp} : ∀ (ds : List D) {vs : List V}, RepL K G ds vs → PyData.canLayAll0 (D.pyL ds) = true → DpAll K G vs (D.pyL ds)
  | [], _, h, _ => by simp only [RepL] at h; subst h; simp only [D.pyL]; exact .nil
  | d :: ds, _, h, sh => by
    simp only [RepL] at h
    obtain ⟨v, r, rfl, h2, h3⟩ := h
    simp only [D.pyL, PyData.canLayAll0, Bool.and_eq_true] at sh ⊢
    exact .cons (Rep.dp d h2 sh.1) (RepL.dp ds h3 sh.2)
end
mutual
theorem Dp.mono {K : PySem.W.Frag} {H H' : Hp} (e : Ex H H') : ∀ {d : PyData} {v : V}, Dp K H v d → Dp K H' v d
  | _, _, .non => .non
  | _, _, .bl b => .bl b
  | _, _, .int i => .int i
  | _, _, .str x => .str x
  | _, _, .lst h1 h2 => .lst (Evl.ex_l e h1) (DpAll.mono e h2)
  | _, _, .tup h1 h2 => .tup (Evl.ex_t e h1) (DpAll.mono e h2)
theorem DpAll.mono {K : PySem.W.Frag} {H H' : Hp} (e : Ex H H') : ∀ {ds : List PyData} {vs : List V}, DpAll K H vs ds → DpAll K H' vs ds
  | _, _, .nil => .nil
  | _, _, .cons h1 h2 => .cons (Dp.mono e h1) (DpAll.mono e h2)
end
def EqOk (d : D) : Prop := SeqAt.shaped d.py = true
def D.eqv (d e : D) : Bool := PyData.eqv d.py e.py
def gEq : F2 := fun d e k => match d, e with
  | .int i, .int j => k (.val (.bl (i == j)))
  | d, e => (EqOk d ∧ EqOk e) ∧ k (.val (.bl (d.eqv e)))
def gNe : F2 := fun d e k => match d, e with
  | .int i, .int j => k (.val (.bl (!(i == j))))
  | d, e => (EqOk d ∧ EqOk e) ∧ k (.val (.bl (!d.eqv e)))
theorem eqOk_int (i : Int) : EqOk (.int i) := rfl
theorem PR.dp {c : Cxt} {G H : Hp} {env : EnvD} {s : S} {σ : L2.St} (R : Rel c G env s σ H) {d : D} {v : V} (h : PR c G H d v) (sh : EqOk d) : Dp c.K H v d.py := by
  have sh' := SeqAt.canLay_of_shaped sh
  cases d with
  | lst ds =>
    obtain ⟨p, vs, rfl, h2, h3⟩ := h
    simp only [D.py]
    exact .lst (.inl (.inl h2)) (DpAll.mono R.ex (RepL.dp ds h3 (by simpa only [D.py, PyData.canLay0] using sh')))
  | _ => exact Dp.mono R.ex (Rep.dp _ h sh')
theorem d2_eq {c : Cxt} : D2 c (rEqD c.K) gEq := by
  intro G env s σ H x y d e k Q R p1 p2 h q
  have h' : (EqOk d ∧ EqOk e) ∧ k (.val (.bl (d.eqv e))) := by
    unfold gEq at h
    split at h
    · exact ⟨⟨eqOk_int _, eqOk_int _⟩, h⟩
    · exact h
  obtain ⟨⟨h1, h2⟩, h3⟩ := h'
  exact ⟨_, _, PR.dp R p1 h1, PR.dp R p2 h2, h1, h2, q G H _ (.val (.bl (d.eqv e))) R (Ex.refl G) (by simp only [RV, Rep]; rfl) h3⟩
theorem d2_ne {c : Cxt} : D2 c (rNeD c.K) gNe := by
  intro G env s σ H x y d e k Q R p1 p2 h q
  have h' : (EqOk d ∧ EqOk e) ∧ k (.val (.bl (!d.eqv e))) := by
    unfold gNe at h
    split at h
    · exact ⟨⟨eqOk_int _, eqOk_int _⟩, h⟩
    · exact h
  obtain ⟨⟨h1, h2⟩, h3⟩ := h'
  exact ⟨_, _, PR.dp R p1 h1, PR.dp R p2 h2, h1, h2, q G H _ (.val (.bl (!d.eqv e))) R (Ex.refl G) (by simp only [RV, Rep]; rfl) h3⟩
def D.isNon : D → Bool
  | .non => true
  | _ => false
def gIsN : F2 := fun d e k => match e with
  | .non => k (.val (.bl d.isNon))
  | _ => False
def gNotN : F2 := fun d e k => match e with
  | .non => k (.val (.bl (!d.isNon)))
  | _ => False
theorem isNon_of {c : Cxt} {G H : Hp} {d : D} {v : V} (h : PR c G H d v) : decide (v = .non) = d.isNon := by
  cases d with
  | lst ds => obtain ⟨p, vs, rfl, _, _⟩ := h; rfl
  | non => have h' : Rep c.K G .non v := h; simp only [Rep] at h'; subst h'; rfl
  | bl b => have h' : Rep c.K G (.bl b) v := h; simp only [Rep] at h'; subst h'; rfl
  | int b => have h' : Rep c.K G (.int b) v := h; simp only [Rep] at h'; subst h'; rfl
  | str b => have h' : Rep c.K G (.str b) v := h; simp only [Rep] at h'; subst h'; rfl
  | tup b => have h' : Rep c.K G (.tup b) v := h; simp only [Rep] at h'; obtain ⟨p, vs, rfl, _⟩ := h'; rfl
  | dic => have h' : Rep c.K G .dic v := h; simp only [Rep] at h'; obtain ⟨p, vs, rfl, _⟩ := h'; rfl
  | scr b => have h' : Rep c.K G (.scr b) v := h; simp only [Rep] at h'; obtain ⟨p, rfl, _⟩ := h'; rfl
  | st a => have h' : Rep c.K G (.st a) v := h; simp only [Rep] at h'; subst h'; rfl
  | exc b => have h' : Rep c.K G (.exc b) v := h; simp only [Rep] at h'; obtain ⟨p, rfl, _⟩ := h'; rfl
  | fn f a o u => have h' : Rep c.K G (.fn f a o u) v := h; simp only [Rep] at h'; obtain ⟨rfl, _⟩ := h'; rfl
theorem d2_isN {c : Cxt} : D2 c (fun x y H Q => y = .non ∧ Q (.bl (decide (x = .non))) H) gIsN := by
  intro G env s σ H x y d e k Q R p1 p2 h q
  unfold gIsN at h
  split at h
  · have h' : Rep c.K G .non y := p2
    simp only [Rep] at h'
    rw [isNon_of p1]
    exact ⟨h', q G H _ (.val (.bl d.isNon)) R (Ex.refl G) (by simp only [RV, Rep]) h⟩
  · exact h.elim
theorem d2_notN {c : Cxt} : D2 c (fun x y H Q => y = .non ∧ Q (.bl (!decide (x = .non))) H) gNotN := by
  intro G env s σ H x y d e k Q R p1 p2 h q
  unfold gNotN at h
  split at h
  · have h' : Rep c.K G .non y := p2
    simp only [Rep] at h'
    rw [isNon_of p1]
    exact ⟨h', q G H _ (.val (.bl (!d.isNon))) R (Ex.refl G) (by simp only [RV, Rep]) h⟩
  · exact h.elim
def gIsB : F2 := fun d e k => match d, e with
  | .bl a, .bl b => k (.val (.bl (decide (a = b))))
  | _, _ => False
def gNotB : F2 := fun d e k => match d, e with
  | .bl a, .bl b => k (.val (.bl (!decide (a = b))))
  | _, _ => False
theorem pr_bl {c : Cxt} {G H : Hp} {d : D} {v : V} {i : Bool} (h : PR c G H d v) (e : d = .bl i) : v = .bl i := by
  subst e
  have h' : Rep c.K G (.bl i) v := h
  simpa only [Rep] using h'
theorem d2_isB {c : Cxt} : D2 c (fun x y H Q => ∃ a b, x = .bl a ∧ y = .bl b ∧ Q (.bl (decide (a = b))) H) gIsB := by
  intro G env s σ H x y d e k Q R p1 p2 h q
  unfold gIsB at h
  split at h
  · exact ⟨_, _, pr_bl p1 rfl, pr_bl p2 rfl, q G H _ (.val (.bl _)) R (Ex.refl G) (by simp only [RV, Rep]) h⟩
  · exact h.elim
theorem d2_notB {c : Cxt} : D2 c (fun x y H Q => ∃ a b, x = .bl a ∧ y = .bl b ∧ Q (.bl (!decide (a = b))) H) gNotB := by
  intro G env s σ H x y d e k Q R p1 p2 h q
  unfold gNotB at h
  split at h
  · exact ⟨_, _, pr_bl p1 rfl, pr_bl p2 rfl, q G H _ (.val (.bl _)) R (Ex.refl G) (by simp only [RV, Rep]) h⟩
  · exact h.elim
def wB (f : FE) : FT := fun env s k => f env s fun r env1 s1 => match r.d with
  | .bl b => k b env1 s1
  | _ => False
def wNot (f : FT) : FT := fun env s k => f env s fun b env1 s1 => k (!b) env1 s1
def wAnd (f g : FT) : FT := fun env s k => f env s fun b env1 s1 => if b = true then g env1 s1 k else k false env1 s1
def wOr (f g : FT) : FT := fun env s k => f env s fun b env1 s1 => if b = true then k true env1 s1 else g env1 s1 k
def wAndV (f g : FE) : FE := fun env s k => f env s fun r env1 s1 => match r.d with
  | .bl b => if b = true then g env1 s1 k else k (.val (.bl false)) env1 s1
  | _ => False
def wOrV (f g : FE) : FE := fun env s k => f env s fun r env1 s1 => match r.d with
  | .bl b => if b = true then k (.val (.bl true)) env1 s1 else g env1 s1 k
  | _ => False
def wNotV (f : FE) : FE := fun env s k => f env s fun r env1 s1 => match r.d with
  | .bl b => k (.val (.bl (!b))) env1 s1
  | _ => False
def wIf (t : FT) (f g : FE) : FE := fun env s k => t env s fun b env1 s1 => if b = true then f env1 s1 k else g env1 s1 k
section
variable {c : Cxt} {ta tb : TE} {fa fb : FE} {t u : TT} {f g : FT}
theorem RV.bl {G H : Hp} {env : EnvD} {s : S} {σ : L2.St} {r : Sl} {v : V} {b : Bool} (h : RV c G H env σ v r) (e : r.d = .bl b) : v = .bl b := by
  cases r with
  | no => exact h.elim
  | val d => exact pr_bl (c := c) (G := G) (H := H) (d := d) (by
      have e' : d = .bl b := e
      subst e'
      exact h) e
  | own ds => cases e
theorem dt_test (h : DE c ta fa) : DT c (tTest ta) (wB fa) := by
  intro G env s σ H k Q R hf q
  refine h G env s σ H _ _ R hf fun G1 H1 v r env1 s1 R1 e1 rv1 k1 => ?_
  cases hd : r.d with
  | bl b =>
    rw [hd] at k1
    exact ⟨b, RV.bl (s := s1) rv1 hd, q G1 H1 b env1 s1 R1 e1 k1⟩
  | _ => rw [hd] at k1; exact k1.elim
theorem dt_B (h : DE c ta fa) : DT c (tB ta) (wB fa) := dt_test h
theorem dt_not (h : DT c t f) : DT c (tNot t) (wNot f) := fun G env s σ H k Q R hf q => h G env s σ H _ _ R hf fun G1 H1 b env1 s1 R1 e1 k1 => q G1 H1 (!b) env1 s1 R1 e1 k1
theorem dt_and (h : DT c t f) (h' : DT c u g) : DT c (tAnd t u) (wAnd f g) := by
  intro G env s σ H k Q R hf q
  refine h G env s σ H _ _ R hf fun G1 H1 b env1 s1 R1 e1 k1 => ?_
  cases b with
  | true => exact h' G1 env1 s1 σ H1 k Q R1 k1 fun G2 H2 b2 env2 s2 R2 e2 k2 => q G2 H2 b2 env2 s2 R2 (e1.trans e2) k2
  | false => exact q G1 H1 false env1 s1 R1 e1 k1
theorem dt_or (h : DT c t f) (h' : DT c u g) : DT c (tOr t u) (wOr f g) := by
  intro G env s σ H k Q R hf q
  refine h G env s σ H _ _ R hf fun G1 H1 b env1 s1 R1 e1 k1 => ?_
  cases b with
  | false => exact h' G1 env1 s1 σ H1 k Q R1 k1 fun G2 H2 b2 env2 s2 R2 e2 k2 => q G2 H2 b2 env2 s2 R2 (e1.trans e2) k2
  | true => exact q G1 H1 true env1 s1 R1 e1 k1
theorem de_andV (h : DE c ta fa) (h' : DE c tb fb) : DE c (tAndV ta tb) (wAndV fa fb) := by
  intro G env s σ H k Q R hf q
  refine h G env s σ H _ _ R hf fun G1 H1 v r env1 s1 R1 e1 rv1 k1 => ?_
  cases hd : r.d with
  | bl b =>
    rw [hd] at k1
    refine ⟨b, RV.bl (s := s1) rv1 hd, ?_⟩
    cases b with
    | true => exact h' G1 env1 s1 σ H1 k Q R1 k1 fun G2 H2 b2 r2 env2 s2 R2 e2 rv2 k2 => q G2 H2 b2 r2 env2 s2 R2 (e1.trans e2) rv2 k2
    | false => exact q G1 H1 _ (.val (.bl false)) env1 s1 R1 e1 (by simp only [RV, Rep]) k1
  | _ => rw [hd] at k1; exact k1.elim
theorem de_orV (h : DE c ta fa) (h' : DE c tb fb) : DE c (tOrV ta tb) (wOrV fa fb) := by
  intro G env s σ H k Q R hf q
  refine h G env s σ H _ _ R hf fun G1 H1 v r env1 s1 R1 e1 rv1 k1 => ?_
  cases hd : r.d with
  | bl b =>
    rw [hd] at k1
    refine ⟨b, RV.bl (s := s1) rv1 hd, ?_⟩
    cases b with
    | false => exact h' G1 env1 s1 σ H1 k Q R1 k1 fun G2 H2 b2 r2 env2 s2 R2 e2 rv2 k2 => q G2 H2 b2 r2 env2 s2 R2 (e1.trans e2) rv2 k2
    | true => exact q G1 H1 _ (.val (.bl true)) env1 s1 R1 e1 (by simp only [RV, Rep]) k1
  | _ => rw [hd] at k1; exact k1.elim
theorem de_notV (h : DE c ta fa) : DE c (tNotV ta) (wNotV fa) := by
  intro G env s σ H k Q R hf q
  refine h G env s σ H _ _ R hf fun G1 H1 v r env1 s1 R1 e1 rv1 k1 => ?_
  cases hd : r.d with
  | bl b =>
    rw [hd] at k1
    exact ⟨b, RV.bl (s := s1) rv1 hd, q G1 H1 _ (.val (.bl (!b))) env1 s1 R1 e1 (by simp only [RV, Rep]) k1⟩
  | _ => rw [hd] at k1; exact k1.elim
theorem de_if (h : DT c t f) (h1 : DE c ta fa) (h2 : DE c tb fb) : DE c (tIf t ta tb) (wIf f fa fb) := by
  intro G env s σ H k Q R hf q
  refine h G env s σ H _ _ R hf fun G1 H1 b env1 s1 R1 e1 k1 => ?_
  cases b with
  | true => exact h1 G1 env1 s1 σ H1 k Q R1 k1 fun G2 H2 b2 r2 env2 s2 R2 e2 rv2 k2 => q G2 H2 b2 r2 env2 s2 R2 (e1.trans e2) rv2 k2
  | false => exact h2 G1 env1 s1 σ H1 k Q R1 k1 fun G2 H2 b2 r2 env2 s2 R2 e2 rv2 k2 => q G2 H2 b2 r2 env2 s2 R2 (e1.trans e2) rv2 k2
end
def wChain (g g' : F2) (fa fb : FE) (fc : FP) : FE := fun env s k => fa env s fun ra env1 s1 => fb env1 s1 fun rb env2 s2 => g ra.d rb.d fun z => match z.d with
  | .bl true => fc env2 s2 fun dc env3 s3 => g' rb.d dc fun r => k r env3 s3
  | .bl false => k (.val (.bl false)) env2 s2
  | _ => False
theorem de_chain {c : Cxt} {r r' : R2} {g g' : F2} {ta tb tc : TE} {fa fb : FE} {fc : FP} (hr : D2 c r g) (hr' : D2 c r' g') (ha : DE c ta fa) (hb : DE c tb fb) (hc : DP c tc fc) : DE c (tChain r r' ta tb tc) (wChain g g' fa fb fc) := by
  intro G env s σ H k Q R hf q
  refine ha G env s σ H _ _ R hf fun G1 H1 x ra env1 s1 R1 e1 rv1 k1 => ?_
  obtain ⟨G2, R2, e2, rp⟩ := R1.toVal rv1
  refine hb G2 env1 s1 σ H1 _ _ R2 k1 fun G3 H3 y rb env3 s3 R3 e3 rv3 k3 => ?_
  obtain ⟨G4, R4, e4, rp4⟩ := R3.toVal rv3
  refine hr G4 env3 s3 σ H3 x y ra.d rb.d _ _ R4 (R4.pr (Rep.mono (e3.trans e4) _ rp)) (R4.pr rp4) k3 fun G5 H5 z rz R5 e5 rv5 k5 => ?_
  cases hd : rz.d with
  | bl b =>
    rw [hd] at k5
    refine ⟨b, RV.bl (s := s3) rv5 hd, ?_⟩
    cases b with
    | true =>
      show tc σ H5 _
      refine hc G5 env3 s3 σ H5 _ _ R5 k5 fun G6 H6 u dc env6 s6 R6 e6 p6 k6 => ?_
      exact hr' G6 env6 s6 σ H6 y u rb.d dc _ Q R6 (R6.pr (Rep.mono (e5.trans e6) _ rp4)) p6 k6 fun G7 H7 w r7 R7 e7 rv7 k7 => q G7 H7 w r7 env6 s6 R7 ((((((e1.trans e2).trans e3).trans e4).trans e5).trans e6).trans e7) rv7 k7
    | false => exact q G5 H5 _ (.val (.bl false)) env3 s3 R5 ((((e1.trans e2).trans e3).trans e4).trans e5) (by simp only [RV, Rep]) k5
  | _ => rw [hd] at k5; exact k5.elim
def wNil : FA := fun env s k => k [] env s
def wCons (f : FE) (g : FA) : FA := fun env s k => f env s fun r env1 s1 => g env1 s1 fun ds env2 s2 => k (r.d :: ds) env2 s2
def wTup (f : FA) : FE := fun env s k => f env s fun ds env1 s1 => ds.length ≤ sizeLine ∧ k (.val (.tup ds)) env1 s1
def wLst (f : FA) : FE := fun env s k => f env s fun ds env1 s1 => ds.length ≤ sizeLine ∧ k (.own ds) env1 s1
section
variable {c : Cxt} {ta : TE} {fa : FE} {t : TA} {f : FA}
theorem da_nil : DA c tNil wNil := fun G env s σ H k Q R hf q => q G H [] [] env s R (Ex.refl G) RepL.nil hf
theorem da_cons (h : DE c ta fa) (h' : DA c t f) : DA c (tCons ta t) (wCons fa f) := by
  intro G env s σ H k Q R hf q
  refine h G env s σ H _ _ R hf fun G1 H1 v r env1 s1 R1 e1 rv1 k1 => ?_
  obtain ⟨G2, R2, e2, rp⟩ := R1.toVal rv1
  exact h' G2 env1 s1 σ H1 _ _ R2 k1 fun G3 H3 vs ds env3 s3 R3 e3 rl k3 => q G3 H3 (v :: vs) (r.d :: ds) env3 s3 R3 ((e1.trans e2).trans e3) (RepL.cons (Rep.mono e3 _ rp) rl) k3
theorem de_tup (h : DA c t f) : DE c (tTup t) (wTup f) := by
  intro G env s σ H k Q R hf q
  refine h G env s σ H _ _ R hf fun G1 H1 vs ds env1 s1 R1 e1 rl k1 => ⟨by rw [rl.length]; exact k1.1, fun p hp => ?_⟩
  obtain ⟨G2, R2, e2, rp⟩ := R1.newTup hp rl
  exact q G2 _ _ (.val (.tup ds)) env1 s1 R2 (e1.trans e2) rp k1.2
theorem de_lst (h : DA c t f) : DE c (tLst t) (wLst f) := by
  intro G env s σ H k Q R hf q
  refine h G env s σ H _ _ R hf fun G1 H1 vs ds env1 s1 R1 e1 rl k1 => ⟨by rw [rl.length]; exact k1.1, fun p hp => ?_⟩
  obtain ⟨R2, rv⟩ := R1.newOwn hp rl
  exact q G1 _ _ (.own ds) env1 s1 R2 e1 rv k1.2
end
def wCB (g : FL) (f : FA) : FE := fun env s k => f env s fun ds env1 s1 => g ds fun r => k r env1 s1
theorem de_cb {c : Cxt} {r : List V → Hp → VK → Prop} {g : FL} {t : TA} {f : FA} (hr : DB c r g) (h : DA c t f) : DE c (tCB r t) (wCB g f) := by
  intro G env s σ H k Q R hf q
  refine h G env s σ H _ _ R hf fun G1 H1 vs ds env1 s1 R1 e1 rl k1 => ?_
  exact hr G1 env1 s1 σ H1 vs ds _ Q R1 rl k1 fun G2 H2 v r' R2 e2 rv k2 => q G2 H2 v r' env1 s1 R2 (e1.trans e2) rv k2
def wCB1 (g : F1) (f : FP) : FE := fun env s k => f env s fun d env1 s1 => g d fun r => k r env1 s1
theorem de_cb1 {c : Cxt} {r : List V → Hp → VK → Prop} {g : F1} {te : TE} {f : FP} (hr : D1 c (fun x => r [x]) g) (h : DP c te f) : DE c (tCB r (tCons te tNil)) (wCB1 g f) := by
  intro G env s σ H k Q R hf q
  refine h G env s σ H _ _ R hf fun G1 H1 x d env1 s1 R1 e1 p1 k1 => ?_
  exact hr G1 env1 s1 σ H1 x d _ Q R1 p1 k1 fun G2 H2 v r' R2 e2 rv k2 => q G2 H2 v r' env1 s1 R2 (e1.trans e2) rv k2
end DL
set_option Elab.async false
set_option linter.all false
set_option maxRecDepth 100000
set_option maxHeartbeats 4000000
namespace DL
open PySem L2
open Evl (Ex)
inductive Fl where
  | nx (e : EnvD) (s : S) | rt (r : Sl) (s : S) | bk (e : EnvD) (s : S) | ct (e : EnvD) (s : S)
abbrev FS := EnvD → S → (Fl → Prop) → Prop
abbrev FG := Sl → EnvD → S → (EnvD → S → Prop) → Prop
abbrev FGs := List D → EnvD → S → (EnvD → S → Prop) → Prop
structure DEnd (c : Cxt) (G : Hp) (k : Fl → Prop) (E : Ends) : Prop where
  nx : ∀ G' H' env' s' σ', Rel c G' env' s' σ' H' → Ex G G' → k (.nx env' s') → E.nx σ' H'
  rt : ∀ G' H' s' v r, Rel c G' [] s' [] H' → Ex G G' → RV c G' H' [] [] v r → k (.rt r s') → E.rt v H'
  bk : ∀ G' H' env' s' σ', Rel c G' env' s' σ' H' → Ex G G' → k (.bk env' s') → E.bk σ' H'
  ct : ∀ G' H' env' s' σ', Rel c G' env' s' σ' H' → Ex G G' → k (.ct env' s') → E.ct σ' H'
section
variable (c : Cxt)
def DS (t : TS) (f : FS) : Prop := ∀ (G : Hp) (env : EnvD) (s : S) (σ : L2.St) (H : Hp) (k : Fl → Prop) (E : Ends), Rel c G env s σ H → f env s k → DEnd c G k E → t E σ H
def DG (g : TG) (f : FG) : Prop := ∀ (G : Hp) (env : EnvD) (s : S) (σ : L2.St) (H : Hp) (v : V) (r : Sl) (k : EnvD → S → Prop) (Q : L2.St → Hp → Prop), Rel c G env s σ H → RV c G H env σ v r → f r env s k →
  (∀ G' H' env' s' σ', Rel c G' env' s' σ' H' → Ex G G' → k env' s' → Q σ' H') → g v σ H Q
def DGs (g : TGs) (f : FGs) : Prop := ∀ (G : Hp) (env : EnvD) (s : S) (σ : L2.St) (H : Hp) (vs : List V) (ds : List D) (k : EnvD → S → Prop) (Q : L2.St → Hp → Prop), Rel c G env s σ H → RepL c.K G ds vs → f ds env s k →
  (∀ G' H' env' s' σ', Rel c G' env' s' σ' H' → Ex G G' → k env' s' → Q σ' H') → g vs σ H Q
end
section
variable {c : Cxt} {G G' H : Hp} {env : EnvD} {s : S} {σ : L2.St} {k : Fl → Prop} {E : Ends}
theorem DEnd.mono (e : Ex G G') (h : DEnd c G k E) : DEnd c G' k E :=
  ⟨fun _ _ _ _ _ R x => h.nx _ _ _ _ _ R (e.trans x), fun _ _ _ _ _ R x => h.rt _ _ _ _ _ R (e.trans x), fun _ _ _ _ _ R x => h.bk _ _ _ _ _ R (e.trans x), fun _ _ _ _ _ R x => h.ct _ _ _ _ _ R (e.trans x)⟩
theorem Rel.bare (R : Rel c G env s σ H) : Rel c G [] s [] H :=
  { R with len := rfl, vals := fun i d h => by simp at h, owns := fun i d h => by simp at h, dist := fun i j d e v h => by simp at h }
theorem RV.bare {v : V} {r : Sl} (h : RV c G H env σ v r) : RV c G H [] [] v r := by
  cases r with
  | no => exact h
  | val d => exact h
  | own ds => exact ⟨h.1, fun i es q => by simp at q⟩
theorem Rel.set (R : Rel c G env s σ H) {v : V} {r : Sl} (h : RV c G H env σ v r) (i : Nat) : Rel c G (env.set i r) s (σ.set i (some v)) H := by
  have hl : (env.set i r).length = (σ.set i (some v)).length := by rw [List.length_set, List.length_set]; exact R.len
  by_cases hi : i < env.length
  · have hi' : i < σ.length := by rw [← R.len]; exact hi
    have at1 : ∀ x, (env.set i r)[i]? = some x → x = r := fun x q => by rw [List.getElem?_set_self hi] at q; exact (Option.some.inj q).symm
    have at2 : (σ.set i (some v))[i]? = some (some v) := by rw [List.getElem?_set_self hi']
    have o1 : ∀ j (x : Sl), j ≠ i → (env.set i r)[j]? = some x → env[j]? = some x := fun j x hj q => by rw [List.getElem?_set_ne (Ne.symm hj)] at q; exact q
    have o2 : ∀ j, j ≠ i → (σ.set i (some v))[j]? = σ[j]? := fun j hj => by rw [List.getElem?_set_ne (Ne.symm hj)]
    refine { R with len := hl, vals := fun j d hj => ?_, owns := fun j ds hj => ?_, dist := fun j l ds es w h1 h2 h3 h4 => ?_ }
    · by_cases hji : j = i
      · subst hji
        have e := at1 _ hj
        subst e
        exact ⟨v, at2, h⟩
      · obtain ⟨w, e1, e2⟩ := R.vals j d (o1 j _ hji hj)
        exact ⟨w, by rw [o2 j hji]; exact e1, e2⟩
    · by_cases hji : j = i
      · subst hji
        have e := at1 _ hj
        subst e
        exact ⟨v, at2, h.1⟩
      · obtain ⟨w, e1, e2⟩ := R.owns j ds (o1 j _ hji hj)
        exact ⟨w, by rw [o2 j hji]; exact e1, e2⟩
    · by_cases hji : j = i
      · by_cases hli : l = i
        · rw [hji, hli]
        · subst hji
          have e := at1 _ h1
          subst e
          rw [at2] at h3
          cases h3
          rw [o2 l hli] at h4
          exact absurd h4 (h.2 l es (o1 l _ hli h2))
      · by_cases hli : l = i
        · subst hli
          have e := at1 _ h2
          subst e
          rw [at2] at h4
          cases h4
          rw [o2 j hji] at h3
          exact absurd h3 (h.2 j ds (o1 j _ hji h1))
        · rw [o2 j hji] at h3
          rw [o2 l hli] at h4
          exact R.dist j l ds es w (o1 j _ hji h1) (o1 l _ hli h2) h3 h4
  · have e1 : env.set i r = env := List.set_eq_of_length_le (by omega)
    have e2 : σ.set i (some v) = σ := List.set_eq_of_length_le (by rw [← R.len]; omega)
    rw [e1, e2]
    exact R
theorem Rel.write (R : Rel c G env s σ H) {i : Nat} {ds es : List D} {p : Addr} {vs : List V} (h : env[i]? = some (.own ds)) (hs : σ[i]? = some (some (.ref p))) (hr : RepL c.K G es vs) :
    Rel c G (env.set i (.own es)) s σ (upd H p (.lst vs)) := by
  obtain ⟨v, h1, p', vs0, rfl, h3, h4, h5, h6, h7⟩ := R.owns i ds h
  rw [hs] at h1
  cases h1
  have hi : i < env.length := (List.getElem?_eq_some_iff.mp h).1
  have at1 : ∀ x, (env.set i (.own es))[i]? = some x → x = .own es := fun x q => by rw [List.getElem?_set_self hi] at q; exact (Option.some.inj q).symm
  have o1 : ∀ j (x : Sl), j ≠ i → (env.set i (.own es))[j]? = some x → env[j]? = some x := fun j x hj q => by rw [List.getElem?_set_ne (Ne.symm hj)] at q; exact q
  refine { ex := R.ex.mut h3, st := fun a ha => ⟨(R.st a ha).1, ?_⟩, sn := R.sn, keep := fun q o h8 h9 h10 => ?_, kn := fun q hq => ?_, h0n := R.h0n, tab := Tabs.updL R.tab h6, gnew := R.gnew, gx := R.gx, gtb := R.gtb,
           len := by rw [List.length_set]; exact R.len, vals := fun j d hj => ?_, owns := fun j fs hj => ?_, dist := fun j l fs gs w h8 h9 ha hb => ?_ }
  · obtain ⟨x, b, e1, e2⟩ := (R.st a ha).2
    exact ⟨x, b, e1, by rw [upd_ne (fun z => h5 (by rw [← z]; exact ha))]; exact e2⟩
  · have hb : q ≠ p := fun z => by rw [z, h4] at h8; cases h8
    rw [upd_ne hb]
    exact R.keep q o h8 h9 h10
  · by_cases hb : q = p
    · subst hb; rw [upd_same] at hq; cases hq
    · rw [upd_ne hb] at hq; exact R.kn q hq
  · by_cases hji : j = i
    · subst hji
      have e := at1 _ hj
      cases e
    · exact R.vals j d (o1 j _ hji hj)
  · by_cases hji : j = i
    · subst hji
      have e := at1 _ hj
      cases e
      exact ⟨_, hs, p, vs, rfl, h3, h4, h5, upd_same, hr⟩
    · obtain ⟨w, e1, q, ws, rfl, e3, e4, e5, e6, e7⟩ := R.owns j fs (o1 j _ hji hj)
      have hb : q ≠ p := fun z => hji (R.dist j i fs ds (.ref q) (o1 j _ hji hj) h e1 (by rw [z]; exact hs))
      exact ⟨_, e1, q, ws, rfl, e3, e4, e5, by rw [upd_ne hb]; exact e6, e7⟩
  · have g : ∀ (j : Nat) (fs : List D), (env.set i (.own es))[j]? = some (.own fs) → ∃ fs' : List D, env[j]? = some (Sl.own fs') := fun j fs hj => by
      by_cases hji : j = i
      · subst hji; exact ⟨ds, h⟩
      · exact ⟨fs, o1 j _ hji hj⟩
    obtain ⟨f1, e1⟩ := g j fs h8
    obtain ⟨f2, e2⟩ := g l gs h9
    exact R.dist j l f1 f2 w e1 e2 ha hb
end
def wNext : FS := fun env s k => k (.nx env s)
def wSeq (f g : FS) : FS := fun env s k => f env s fun fl => match fl with
  | .nx e s1 => g e s1 k
  | .rt r s1 => k (.rt r s1)
  | .bk e s1 => k (.bk e s1)
  | .ct e s1 => k (.ct e s1)
def wRet (f : FE) : FS := fun env s k => f env s fun r _ s1 => k (.rt r s1)
def wRetV (i : Nat) : FS := fun env s k => match at_ env i with
  | .no => False
  | .val d => k (.rt (.val d) s)
  | .own ds => k (.rt (.own ds) s)
def wRetN : FS := fun env s k => k (.rt (.val .non) s)
def wIfS (t : FT) (f g : FS) : FS := fun env s k => t env s fun b env1 s1 => if b = true then f env1 s1 k else g env1 s1 k
def wDrop (f : FE) : FS := fun env s k => f env s fun _ env1 s1 => k (.nx env1 s1)
def wAsg (f : FE) (g : FG) : FS := fun env s k => f env s fun r env1 s1 => g r env1 s1 fun env2 s2 => k (.nx env2 s2)
def wName (i : Nat) : FG := fun r env s k => k (env.set i r) s
def wTupT (n : Nat) (f : FGs) : FG := fun r env s k => match r.d with
  | .tup ds => ds.length = n ∧ f ds env s k
  | _ => False
def wGNil : FGs := fun ds env s k => ds = [] ∧ k env s
def wGCons (g : FG) (h : FGs) : FGs := fun ds env s k => match ds with
  | [] => False
  | d :: ds => g (.val d) env s fun env1 s1 => h ds env1 s1 k
def wPar (i j : Nat) (f : FA) : FS := fun env s k => f env s fun ds env1 s1 => match ds with
  | [d, e] => k (.nx ((env1.set i (.val d)).set j (.val e)) s1)
  | _ => False
def wBreak : FS := fun env s k => k (.bk env s)
def wCont : FS := fun env s k => k (.ct env s)
section
variable {c : Cxt} {ta : TE} {fa : FE} {t u : TS} {f g : FS} {tt : TT} {ft : FT}
theorem ds_next : DS c tNext wNext := fun G env s σ H k E R h q => q.nx G H env s σ R (Ex.refl G) h
theorem ds_break : DS c tBreak wBreak := fun G env s σ H k E R h q => q.bk G H env s σ R (Ex.refl G) h
theorem ds_cont : DS c tCont wCont := fun G env s σ H k E R h q => q.ct G H env s σ R (Ex.refl G) h
theorem ds_seq (h : DS c t f) (h' : DS c u g) : DS c (tSeq t u) (wSeq f g) := by
  intro G env s σ H k E R hf q
  exact h G env s σ H _ { E with nx := u E } R hf ⟨fun G' H' env' s' σ' R' e kk => h' G' env' s' σ' H' k E R' kk (q.mono e), q.rt, q.bk, q.ct⟩
theorem ds_ret (h : DE c ta fa) : DS c (tRet ta) (wRet fa) := by
  intro G env s σ H k E R hf q
  exact h G env s σ H _ _ R hf fun G' H' v r env' s' R' e rv kk => q.rt G' H' s' v r R'.bare e rv.bare kk
theorem ds_retV (i : Nat) : DS c (tRet (tVar i)) (wRetV i) := by
  intro G env s σ H k E R hf q
  unfold wRetV at hf
  cases e : at_ env i with
  | no => rw [e] at hf; exact hf.elim
  | val d =>
    rw [e] at hf
    obtain ⟨v, h1, h2⟩ := R.vals i d (at_val e (by simp))
    exact ⟨v, h1, q.rt G H s v (.val d) R.bare (Ex.refl G) h2 hf⟩
  | own ds =>
    rw [e] at hf
    obtain ⟨v, h1, h2⟩ := R.owns i ds (at_val e (by simp))
    exact ⟨v, h1, q.rt G H s v (.own ds) R.bare (Ex.refl G) ⟨h2, fun i es z => by simp at z⟩ hf⟩
theorem ds_retN : DS c tRetN wRetN := fun G env s σ H k E R hf q => q.rt G H s .non (.val .non) R.bare (Ex.refl G) (by simp only [RV, Rep]) hf
theorem ds_if (h : DT c tt ft) (h1 : DS c t f) (h2 : DS c u g) : DS c (tIfS tt t u) (wIfS ft f g) := by
  intro G env s σ H k E R hf q
  refine h G env s σ H _ _ R hf fun G1 H1 b env1 s1 R1 e1 k1 => ?_
  cases b with
  | true => exact h1 G1 env1 s1 σ H1 k E R1 k1 (q.mono e1)
  | false => exact h2 G1 env1 s1 σ H1 k E R1 k1 (q.mono e1)
theorem ds_drop (h : DE c ta fa) : DS c (tDrop ta) (wDrop fa) := by
  intro G env s σ H k E R hf q
  exact h G env s σ H _ _ R hf fun G' H' v r env' s' R' e rv kk => q.nx G' H' env' s' σ R' e kk
theorem ds_asg {tg : TG} {fg : FG} (h : DE c ta fa) (h' : DG c tg fg) : DS c (tAsg ta tg) (wAsg fa fg) := by
  intro G env s σ H k E R hf q
  refine h G env s σ H _ _ R hf fun G1 H1 v r env1 s1 R1 e1 rv1 k1 => ?_
  exact h' G1 env1 s1 σ H1 v r _ _ R1 rv1 k1 fun G2 H2 env2 s2 σ2 R2 e2 k2 => q.nx G2 H2 env2 s2 σ2 R2 (e1.trans e2) k2
theorem dg_name (i : Nat) : DG c (gName i) (wName i) := fun G env s σ H v r k Q R rv h q => q G H _ s _ (R.set rv i) (Ex.refl G) h
theorem dgs_nil : DGs c gNil wGNil := by
  intro G env s σ H vs ds k Q R rl h q
  obtain ⟨rfl, h⟩ := h
  simp only [RepL] at rl
  exact ⟨rl, q G H env s σ R (Ex.refl G) h⟩
theorem dgs_cons {tg : TG} {fg : FG} {ts : TGs} {fs : FGs} (h : DG c tg fg) (h' : DGs c ts fs) : DGs c (gCons tg ts) (wGCons fg fs) := by
  intro G env s σ H vs ds k Q R rl hf q
  cases ds with
  | nil => exact hf.elim
  | cons d ds =>
    simp only [RepL] at rl
    obtain ⟨v, r, rfl, h2, h3⟩ := rl
    refine ⟨v, r, rfl, h G env s σ H v (.val d) _ _ R h2 hf fun G1 H1 env1 s1 σ1 R1 e1 k1 => ?_⟩
    exact h' G1 env1 s1 σ1 H1 r ds k Q R1 (RepL.mono e1 ds h3) k1 fun G2 H2 env2 s2 σ2 R2 e2 k2 => q G2 H2 env2 s2 σ2 R2 (e1.trans e2) k2
theorem dg_tup {n : Nat} {ts : TGs} {fs : FGs} (h : DGs c ts fs) : DG c (gTup c.K n ts) (wTupT n fs) := by
  intro G env s σ H v r k Q R rv hf q
  unfold wTupT at hf
  cases r with
  | no => exact rv.elim
  | own ds => exact hf.elim
  | val d =>
    cases d with
    | tup ds =>
      have h' : Rep c.K G (.tup ds) v := rv
      simp only [Rep] at h'
      obtain ⟨p, vs, rfl, h2, h3⟩ := h'
      exact ⟨p, vs, rfl, Evl.ex_t R.ex h2, by rw [h3.length]; exact hf.1, h G env s σ H vs ds k Q R h3 hf.2 q⟩
    | _ => exact hf.elim
theorem ds_par {ta : TA} {fa : FA} (i j : Nat) (h : DA c ta fa) : DS c (tPar i j ta) (wPar i j fa) := by
  intro G env s σ H k E R hf q
  refine h G env s σ H _ _ R hf fun G1 H1 vs ds env1 s1 R1 e1 rl k1 => ?_
  match ds, rl, k1 with
  | [d, e], rl, k1 =>
    simp only [RepL] at rl
    obtain ⟨v, r, rfl, h2, w, r', rfl, h3, rfl⟩ := rl
    exact ⟨v, w, rfl, q.nx G1 H1 _ s1 _ ((R1.set (r := .val d) h2 i).set (r := .val e) h3 j) e1 k1⟩
end
def wApp (j : Nat) (f : FE) : FS := fun env s k => match at_ env j with
  | .own _ => f env s fun r env1 s1 => match at_ env1 j with
    | .own ds => ds.length < sizeLine ∧ k (.nx (env1.set j (.own (ds ++ [r.d]))) s1)
    | _ => False
  | _ => False
def wExt (j : Nat) (f : FE) : FS := fun env s k => match at_ env j with
  | .own _ => f env s fun r env1 s1 => match at_ env1 j, r.d with
    | .own ds, .lst es => ds.length + es.length ≤ sizeLine ∧ k (.nx (env1.set j (.own (ds ++ es))) s1)
    | _, _ => False
  | _ => False
def wPop (j : Nat) : FE := fun env s k => match at_ env j with
  | .own ds => ∃ d, ds[ds.length - 1]? = some d ∧ k (.val d) (env.set j (.own ds.dropLast)) s
  | _ => False
def setSt (s : S) (a : Addr) (i : Int) (d : D) (k : S → Prop) : Prop := match s, d with
  | some t, .int x => (i = 0 ∧ a = t.a) ∧ k (some { t with x := x })
  | _, _ => False
def wSub (j : Nat) (fi : FP) : FG := fun r env s k => match at_ env j with
  | .no => False
  | _ => fi env s fun di env1 s1 => match at_ env1 j, di with
    | .own ds, .int i => ∃ n, ixN ds.length i = some n ∧ k (env1.set j (.own (ds.set n r.d))) s1
    | .val (.st a), .int i => setSt s1 a i r.d fun s2 => k env1 s2
    | _, _ => False
section
variable {c : Cxt} {ta ti : TE} {fa : FE} {fi : FP}
theorem RepL.dropLast {K : PySem.W.Frag} {G : Hp} {ds : List D} {vs : List V} (h : RepL K G ds vs) : RepL K G ds.dropLast vs.dropLast := by
  rw [List.dropLast_eq_take, List.dropLast_eq_take, h.length]
  exact RepL.take _ h
theorem ds_app (j : Nat) (h : DE c ta fa) : DS c (tDrop (tBM c.K "list" rAppend (tVar j) (tCons ta tNil))) (wApp j fa) := by
  intro G env s σ H k E R hf q
  unfold wApp at hf
  cases e : at_ env j with
  | no => rw [e] at hf; exact hf.elim
  | val d => rw [e] at hf; exact hf.elim
  | own ds0 =>
    rw [e] at hf
    obtain ⟨v, h1, p, vs0, rfl, h3, h4, h5, h6, h7⟩ := R.owns j ds0 (at_val e (by simp))
    refine ⟨_, h1, Or.inl ⟨rfl, vs0, Evl.sq_of h6⟩, ?_⟩
    refine h G env s σ H _ _ R hf fun G1 H1 x r env1 s1 R1 e1 rv1 k1 => ?_
    obtain ⟨G2, R2, e2, rp⟩ := R1.toVal rv1
    cases e3 : at_ env1 j with
    | no => rw [e3] at k1; exact k1.elim
    | val d => rw [e3] at k1; exact k1.elim
    | own ds =>
      rw [e3] at k1
      obtain ⟨v, g1, p', vs, rfl, g3, g4, g5, g6, g7⟩ := R2.owns j ds (at_val e3 (by simp))
      rw [h1] at g1
      cases g1
      have R3 := R2.write (es := ds ++ [r.d]) (vs := vs ++ [x]) (at_val e3 (by simp)) h1 (RepL.append g7 (RepL.one rp))
      exact ⟨p, vs, x, rfl, rfl, g6, by rw [g7.length]; exact k1.1, q.nx G2 _ _ s1 σ R3 (e1.trans e2) k1.2⟩
theorem ds_ext (j : Nat) (h : DE c ta fa) : DS c (tDrop (tBM c.K "list" rExtend (tVar j) (tCons ta tNil))) (wExt j fa) := by
  intro G env s σ H k E R hf q
  unfold wExt at hf
  cases e : at_ env j with
  | no => rw [e] at hf; exact hf.elim
  | val d => rw [e] at hf; exact hf.elim
  | own ds0 =>
    rw [e] at hf
    obtain ⟨v, h1, p, vs0, rfl, h3, h4, h5, h6, h7⟩ := R.owns j ds0 (at_val e (by simp))
    refine ⟨_, h1, Or.inl ⟨rfl, vs0, Evl.sq_of h6⟩, ?_⟩
    refine h G env s σ H _ _ R hf fun G1 H1 x r env1 s1 R1 e1 rv1 k1 => ?_
    obtain ⟨G2, R2, e2, rp⟩ := R1.toVal rv1
    cases e3 : at_ env1 j with
    | no => rw [e3] at k1; exact k1.elim
    | val d => rw [e3] at k1; exact k1.elim
    | own ds =>
      rw [e3] at k1
      obtain ⟨v, g1, p', vs, rfl, g3, g4, g5, g6, g7⟩ := R2.owns j ds (at_val e3 (by simp))
      rw [h1] at g1
      cases g1
      cases hd : r.d with
      | lst es =>
        rw [hd] at k1 rp
        simp only [Rep] at rp
        obtain ⟨b, zs, rfl, r2, r3⟩ := rp
        have R3 := R2.write (es := ds ++ es) (vs := vs ++ zs) (at_val e3 (by simp)) h1 (RepL.append g7 r3)
        exact ⟨p, b, vs, zs, rfl, rfl, g6, R2.ex _ _ r2, by rw [g7.length, r3.length]; exact k1.1, q.nx G2 _ _ s1 σ R3 (e1.trans e2) k1.2⟩
      | _ => rw [hd] at k1; exact k1.elim
theorem de_pop (j : Nat) : DE c (tBM0 c.K "list" rPop (tVar j)) (wPop j) := by
  intro G env s σ H k Q R hf q
  unfold wPop at hf
  cases e : at_ env j with
  | no => rw [e] at hf; exact hf.elim
  | val d => rw [e] at hf; exact hf.elim
  | own ds =>
    rw [e] at hf
    obtain ⟨d, hd, hk⟩ := hf
    obtain ⟨v, h1, p, vs, rfl, h3, h4, h5, h6, h7⟩ := R.owns j ds (at_val e (by simp))
    obtain ⟨y, hy, ry⟩ := RepL.get h7 hd
    have R3 := R.write (es := ds.dropLast) (vs := vs.dropLast) (at_val e (by simp)) h1 (RepL.dropLast h7)
    exact ⟨_, h1, Or.inl ⟨rfl, vs, Evl.sq_of h6⟩, p, vs, y, rfl, rfl, h6, by rw [h7.length]; exact hy, q G _ y (.val d) _ s R3 (Ex.refl G) ry hk⟩
theorem dg_sub (j : Nat) (h : DP c ti fi) : DG c (gSub (tVar j) ti rSetL) (wSub j fi) := by
  intro G env s σ H v r k Q R rv hf q
  unfold wSub at hf
  obtain ⟨G0, R0, e0, rp⟩ := R.toVal rv
  have ne : at_ env j ≠ .no := fun e => by rw [e] at hf; exact hf
  have hf' : fi env s fun di env1 s1 => match at_ env1 j, di with
    | .own ds, .int i => ∃ n, ixN ds.length i = some n ∧ k (env1.set j (.own (ds.set n r.d))) s1
    | .val (.st a), .int i => setSt s1 a i r.d fun s2 => k env1 s2
    | _, _ => False := by
    cases e : at_ env j with
    | no => exact absurd e ne
    | val d => rw [e] at hf; exact hf
    | own ds => rw [e] at hf; exact hf
  obtain ⟨w, h1, _⟩ := at_rel R0 ne
  refine ⟨w, h1, h G0 env s σ H _ _ R0 hf' fun G1 H1 y di env1 s1 R1 e1 p1 k1 => ?_⟩
  have rp1 := Rep.mono e1 _ rp
  cases e2 : at_ env1 j with
  | no => rw [e2] at k1; exact k1.elim
  | own ds =>
    rw [e2] at k1
    cases di with
    | int i =>
      obtain ⟨n, hn, hk⟩ := k1
      obtain ⟨w', g1, p, vs, rfl, g3, g4, g5, g6, g7⟩ := R1.owns j ds (at_val e2 (by simp))
      rw [h1] at g1
      cases g1
      have R3 := R1.write (es := ds.set n r.d) (vs := vs.set n v) (at_val e2 (by simp)) h1 (RepL.set n g7 rp1)
      exact ⟨p, vs, i, n, rfl, pr_int p1 rfl, g6, by rw [g7.length]; exact hn, q G1 _ _ s1 σ R3 (e0.trans e1) hk⟩
    | _ => exact k1.elim
  | val d =>
    rw [e2] at k1
    cases d with
    | st a0 =>
      cases di with
      | int i =>
        have k2 : setSt s1 a0 i r.d fun s2 => k env1 s2 := k1
        clear k1
        unfold setSt at k2
        split at k2
        · rename_i t x hrd
          obtain ⟨⟨hi, ha0⟩, k3⟩ := k2
          subst hi ha0
          obtain ⟨w', g1, g2⟩ := R1.vals j (.st t.a) (at_val e2 (by simp))
          simp only [Rep] at g2
          subst g2
          rw [h1] at g1
          cases g1
          cases hc : c.a0 with
          | none => have := R1.sn hc; cases this
          | some a =>
            obtain ⟨s1a, x0, b0, e5, s1b⟩ := R1.st a hc
            cases e5
            rw [hrd] at rp1
            simp only [Rep] at rp1
            subst rp1
            refine ⟨a, _, 0, 0, rfl, pr_int p1 rfl, s1b, rfl, q G1 _ env1 (some ⟨x, b0, a⟩) σ ?_ (e0.trans e1) k3⟩
            refine { ex := R1.ex.mut s1a, st := fun b hb => ?_, sn := fun z => (by rw [hc] at z; cases z), keep := fun p o k1' k2 k3 => ?_, kn := fun p hp => ?_, h0n := R1.h0n, tab := Tabs.updL R1.tab s1b, gnew := R1.gnew, gx := R1.gx, gtb := R1.gtb, len := R1.len, vals := R1.vals,
                     owns := fun l es hl => ?_, dist := R1.dist }
            · rw [hc] at hb
              cases hb
              exact ⟨s1a, x, b0, rfl, upd_same⟩
            · rw [upd_ne (fun z => k2 (by rw [z]; exact hc))]
              exact R1.keep p o k1' k2 k3
            · by_cases hb : p = a
              · subst hb; rw [upd_same] at hp; cases hp
              · rw [upd_ne hb] at hp; exact R1.kn p hp
            · obtain ⟨w2, e1', p, vs, rfl, e3, e4, e5, e6, e7⟩ := R1.owns l es hl
              have hb : p ≠ a := fun z => e5 (by rw [z]; exact hc)
              exact ⟨_, e1', p, vs, rfl, e3, e4, e5, by rw [upd_ne hb]; exact e6, e7⟩
        · exact k2.elim
      | _ => exact k1.elim
    | _ => cases di <;> exact k1.elim
end
end DL
set_option Elab.async false
set_option linter.all false
set_option maxRecDepth 100000
set_option maxHeartbeats 4000000
namespace DL
open PySem L2
open Evl (Ex)
abbrev FI := EnvD → S → (List D → EnvD → S → Prop) → Prop
abbrev Cxt.h0 (c : Cxt) (H0 : Hp) : Cxt := { c with H0 := H0 }
structure Wk (c : Cxt) (G : Hp) (J : It) (ds : List D) : Prop where
  ex : ∃ (n : Nat) (Gd : Hp → Prop) (Y : Nat → Hp → V → Hp → Prop), n = ds.length ∧ Walk J n Gd Y ∧
    (∀ (H0 : {h : Hp // Ex c.H0 h}) G' H' env' s' σ', Rel (c.h0 H0.1) G' env' s' σ' H' → Ex G G' → Gd H') ∧
    ∀ i (H0 : {h : Hp // Ex c.H0 h}) G' H' env' s' σ' x H3, i < n → Rel (c.h0 H0.1) G' env' s' σ' H' → Ex G G' → Y i H' x H3 → ∃ G3 d, Rel (c.h0 H0.1) G3 env' s' σ' H3 ∧ Ex G' G3 ∧ ds[i]? = some d ∧ Rep c.K G3 d x
def DI (c : Cxt) (wi : TI) (f : FI) : Prop := ∀ (G : Hp) (env : EnvD) (s : S) (σ : L2.St) (H : Hp) (k : List D → EnvD → S → Prop) (R : It → Hp → Prop), Rel c G env s σ H → f env s k →
  (∀ G' H' J ds env' s', Rel c G' env' s' σ H' → Ex G G' → Wk c G' J ds → k ds env' s' → R J H') → wi σ H R
def forW (fg : FG) (fb : FS) (k : Fl → Prop) : List D → EnvD → S → Prop
  | [], env, s => k (.nx env s)
  | d :: ds, env, s => fg (.val d) env s fun env1 s1 => fb env1 s1 fun fl => match fl with
    | .nx e s2 => forW fg fb k ds e s2
    | .ct e s2 => forW fg fb k ds e s2
    | .bk e s2 => k (.nx e s2)
    | .rt r s2 => k (.rt r s2)
def wFor (fi : FI) (fg : FG) (fb : FS) : FS := fun env s k => fi env s fun ds env1 s1 => forW fg fb k ds env1 s1
def whileW (ft : FT) (fb : FS) (k : Fl → Prop) : Nat → EnvD → S → Prop
  | 0, _, _ => False
  | n + 1, env, s => ft env s fun b env1 s1 => if b = true then fb env1 s1 fun fl => match fl with
    | .nx e s2 => whileW ft fb k n e s2
    | .ct e s2 => whileW ft fb k n e s2
    | .bk e s2 => k (.nx e s2)
    | .rt r s2 => k (.rt r s2)
    else k (.nx env1 s1)
def wWhile (ft : FT) (fb : FS) : FS := fun env s k => ∃ n, whileW ft fb k n env s
section
variable {c : Cxt}
theorem ds_for {wi : TI} {fi : FI} {g : TG} {fg : FG} {tb : TS} {fb : FS} (hi : DI c wi fi) (hg : DG c g fg) (hb : DS c tb fb) : DS c (tFor wi g tb) (wFor fi fg fb) := by
  intro G env s σ H k E R hf q
  refine hi G env s σ H _ _ R hf fun G1 H1 J ds env1 s1 R1 e1 w k1 => ?_
  obtain ⟨n, Gd, Y, hn, wk, hG, hY⟩ := w.ex
  have q1 := q.mono e1
  refine for_it wk (fun i σ' H' => ∃ G' env' s', Rel c G' env' s' σ' H' ∧ Ex G1 G' ∧ forW fg fb k (ds.drop i) env' s') ⟨G1, env1, s1, R1, Ex.refl G1, by simpa using k1⟩
    (fun i σ' H' _ ⟨G', env', s', R', e', _⟩ => hG ⟨c.H0, Ex.refl _⟩ G' H' env' s' σ' R' e') ?_ ?_
  · rintro i x σ' H' H3 hin ⟨G', env', s', R', e', kk⟩ y
    obtain ⟨G3, d, R3, e3, hd, rd⟩ := hY i ⟨c.H0, Ex.refl _⟩ G' H' env' s' σ' x H3 hin R' e' y
    have hdrop : ds.drop i = d :: ds.drop (i + 1) := by
      obtain ⟨hl, hx⟩ := List.getElem?_eq_some_iff.mp hd
      rw [List.drop_eq_getElem_cons hl, hx]
    rw [hdrop] at kk
    refine hg G3 env' s' σ' H3 x (.val d) _ _ R3 rd kk fun G4 H4 env4 s4 σ4 R4 e4 k4 => ?_
    have eG : Ex G1 G4 := (e'.trans e3).trans e4
    refine hb G4 env4 s4 σ4 H4 _ _ R4 k4 ⟨fun G5 H5 env5 s5 σ5 R5 e5 k5 => ⟨G5, env5, s5, R5, eG.trans e5, k5⟩, fun G5 H5 s5 v r R5 e5 rv5 k5 => q1.rt G5 H5 s5 v r R5 (eG.trans e5) rv5 k5,
      fun G5 H5 env5 s5 σ5 R5 e5 k5 => q1.nx G5 H5 env5 s5 σ5 R5 (eG.trans e5) k5, fun G5 H5 env5 s5 σ5 R5 e5 k5 => ⟨G5, env5, s5, R5, eG.trans e5, k5⟩⟩
  · rintro σ' H' ⟨G', env', s', R', e', kk⟩
    rw [hn, List.drop_length] at kk
    exact q1.nx G' H' env' s' σ' R' e' kk
theorem ds_while {t : TT} {ft : FT} {tb : TS} {fb : FS} (ht : DT c t ft) (hb : DS c tb fb) : DS c (tWhile t tb) (wWhile ft fb) := by
  intro G env s σ H k E R hf q
  obtain ⟨n0, hf⟩ := hf
  refine ⟨fun n σ' H' => ∃ G' env' s', Rel c G' env' s' σ' H' ∧ Ex G G' ∧ whileW ft fb k n env' s', ⟨n0, G, env, s, R, Ex.refl G, hf⟩, ?_⟩
  rintro n σ' H' ⟨G', env', s', R', e', kk⟩
  cases n with
  | zero => exact kk.elim
  | succ n =>
    refine ht G' env' s' σ' H' _ _ R' kk fun G1 H1 b env1 s1 R1 e1 k1 => ?_
    have eG := e'.trans e1
    cases b with
    | true =>
      refine ⟨fun σ2 H2 => ∃ G2 env2 s2, Rel c G2 env2 s2 σ2 H2 ∧ Ex G G2 ∧ whileW ft fb k n env2 s2, fun σ2 H2 h2 => ⟨n, Nat.lt_succ_self n, h2⟩, ?_⟩
      exact hb G1 env1 s1 σ' H1 _ _ R1 k1 ⟨fun G5 H5 env5 s5 σ5 R5 e5 k5 => ⟨G5, env5, s5, R5, eG.trans e5, k5⟩, fun G5 H5 s5 v r R5 e5 rv5 k5 => q.rt G5 H5 s5 v r R5 (eG.trans e5) rv5 k5,
        fun G5 H5 env5 s5 σ5 R5 e5 k5 => q.nx G5 H5 env5 s5 σ5 R5 (eG.trans e5) k5, fun G5 H5 env5 s5 σ5 R5 e5 k5 => ⟨G5, env5, s5, R5, eG.trans e5, k5⟩⟩
    | false => exact q.nx G1 H1 env1 s1 σ' R1 eG k1
end
def wIt (f : FE) : FI := fun env s k => f env s fun r env1 s1 => match r.d with
  | .lst ds => k ds env1 s1
  | _ => False
def wItT (f : FE) : FI := fun env s k => f env s fun r env1 s1 => match r.d with
  | .tup ds => k ds env1 s1
  | _ => False
def intL (lo : Int) (n : Nat) : List D := (List.range n).map fun i => .int (lo + (i : Nat))
def intLC (lo c : Int) (n : Nat) : List D := (List.range n).map fun i => .int (lo + (i : Nat) * c)
def wRng1 (f : FA) : FI := fun env s k => f env s fun ds env1 s1 => match ds with
  | [.int j] => (-(2 ^ 62) ≤ j ∧ j < 2 ^ 62) ∧ k (intL 0 j.toNat) env1 s1
  | _ => False
def wRng2 (f : FA) : FI := fun env s k => f env s fun ds env1 s1 => match ds with
  | [.int i, .int j] => (-(2 ^ 62) ≤ i ∧ i < 2 ^ 62 ∧ -(2 ^ 62) ≤ j ∧ j < 2 ^ 62) ∧ k (intL i (j - i).toNat) env1 s1
  | _ => False
def wRng3 (f : FA) : FI := fun env s k => f env s fun ds env1 s1 => match ds with
  | [.int i, .int j, .int c] => ∃ n, RgC i j c n ∧ k (intLC i c n) env1 s1
  | _ => False
def enumD (ds : List D) : List D := ds.zipIdx.map fun p => .tup [.int (p.2 : Nat), p.1]
def zipD (ds es : List D) : List D := (ds.zip es).map fun p => .tup [p.1, p.2]
def wEnum (f : FA) : FI := fun env s k => f env s fun ds env1 s1 => match ds with
  | [.lst es] => k (enumD es) env1 s1
  | _ => False
def wZip (f : FA) : FI := fun env s k => f env s fun ds env1 s1 => match ds with
  | [.lst es, .lst fs] => k (zipD es fs) env1 s1
  | [.tup es, .tup fs] => k (zipD es fs) env1 s1
  | _ => False
def wRev (f : FA) : FI := fun env s k => f env s fun ds env1 s1 => match ds with
  | [.lst es] => k es.reverse env1 s1
  | _ => False
def chars (x : Str) : List D := x.cps.toList.map fun c => .str ⟨#[c]⟩
def wItS (f : FE) : FI := fun env s k => f env s fun r env1 s1 => match r.d with
  | .str x => k (chars x) env1 s1
  | _ => False
section
variable {c : Cxt} {G : Hp}
theorem wk_at {J : It} {ds : List D} {vs : List V} {Gd : Hp → Prop} (h : RepL c.K G ds vs) (w : Walk J vs.length Gd (YAt vs)) (hG : ∀ (H0 : {h : Hp // Ex c.H0 h}) G' H' env' s' σ', Rel (c.h0 H0.1) G' env' s' σ' H' → Ex G G' → Gd H') : Wk c G J ds :=
  ⟨vs.length, Gd, YAt vs, h.length, w, hG, fun i H0 G' H' env' s' σ' x H3 hi R' e' y => by
    obtain ⟨rfl, hx⟩ := y
    obtain ⟨d, h1, h2⟩ := RepL.getV h hx
    exact ⟨G', d, R', Ex.refl G', h1, Rep.mono e' d h2⟩⟩
theorem wk_fn {J : It} {ds : List D} {n : Nat} {f : Nat → V} (hn : n = ds.length) (w : Walk J n (fun _ => True) (YFn f)) (hd : ∀ i, i < n → ∃ d, ds[i]? = some d ∧ ∀ G, Rep c.K G d (f i)) : Wk c G J ds :=
  ⟨n, _, _, hn, w, fun _ _ _ _ _ _ _ _ => True.intro, fun i H0 G' H' env' s' σ' x H3 hi R' e' y => by
    obtain ⟨rfl, rfl⟩ := y
    obtain ⟨d, h1, h2⟩ := hd i hi
    exact ⟨G', d, R', Ex.refl G', h1, h2 G'⟩⟩
theorem wk_pair {J : It} {ds : List D} {n : Nat} {Gd : Hp → Prop} {xs ys : Nat → Option V} {df dg : Nat → D} (hn : n = ds.length) (w : Walk J n Gd (YPair xs ys)) (hG : ∀ (H0 : {h : Hp // Ex c.H0 h}) G' H' env' s' σ', Rel (c.h0 H0.1) G' env' s' σ' H' → Ex G G' → Gd H')
    (hd : ∀ i, i < n → ds[i]? = some (.tup [df i, dg i])) (h1 : ∀ i x, i < n → xs i = some x → Rep c.K G (df i) x) (h2 : ∀ i x, i < n → ys i = some x → Rep c.K G (dg i) x) : Wk c G J ds :=
  ⟨n, _, _, hn, w, hG, fun i H0 G' H' env' s' σ' x H3 hi R' e' y => by
    obtain ⟨T, a, b, rfl, hT, rfl, ha, hb⟩ := y
    obtain ⟨G3, R3, e3, rp⟩ := R'.newTup (vs := [a, b]) (ds := [df i, dg i]) hT (RepL.cons (Rep.mono e' _ (h1 i a hi ha)) (RepL.one (Rep.mono e' _ (h2 i b hi hb))))
    exact ⟨G3, _, R3, e3, hd i hi, rp⟩⟩
variable {te : TE} {fe : FE} {ta : TA} {fa : FA}
theorem di_list (h : DE c te fe) : DI c (iList c.K te) (wIt fe) := by
  intro G env s σ H k Q R hf q
  refine h G env s σ H _ _ R hf fun G1 H1 v r env1 s1 R1 e1 rv1 k1 => ?_
  obtain ⟨G2, R2, e2, rp⟩ := R1.toVal rv1
  cases hd : r.d with
  | lst ds =>
    rw [hd] at k1 rp
    simp only [Rep] at rp
    obtain ⟨p, vs, rfl, h2, h3⟩ := rp
    exact ⟨p, rfl, ⟨vs, Evl.sq_of (R2.ex _ _ h2)⟩, q G2 H1 _ ds env1 s1 R2 (e1.trans e2) (wk_at h3 (walk_list (K := c.K)) fun _ G' H' _ _ _ R' e' => Evl.sq_of (R'.ex _ _ (e' _ _ h2))) k1⟩
  | _ => rw [hd] at k1; exact k1.elim
theorem di_tup (h : DE c te fe) : DI c (iTup c.K te) (wItT fe) := by
  intro G env s σ H k Q R hf q
  refine h G env s σ H _ _ R hf fun G1 H1 v r env1 s1 R1 e1 rv1 k1 => ?_
  obtain ⟨G2, R2, e2, rp⟩ := R1.toVal rv1
  cases hd : r.d with
  | tup ds =>
    rw [hd] at k1 rp
    simp only [Rep] at rp
    obtain ⟨p, vs, rfl, h2, h3⟩ := rp
    exact ⟨p, rfl, ⟨vs, Evl.ex_t R2.ex h2⟩, q G2 H1 _ ds env1 s1 R2 (e1.trans e2) (wk_at h3 (walk_tup (K := c.K)) fun _ G' H' _ _ _ R' e' => Evl.ex_t (e'.trans R'.ex) h2) k1⟩
  | _ => rw [hd] at k1; exact k1.elim
theorem intL_get {lo : Int} {n i : Nat} (h : i < n) : (intL lo n)[i]? = some (.int (lo + (i : Nat))) := by
  unfold intL
  rw [List.getElem?_map, List.getElem?_range h]
  rfl
theorem intLC_get {lo c : Int} {n i : Nat} (h : i < n) : (intLC lo c n)[i]? = some (.int (lo + (i : Nat) * c)) := by
  unfold intLC
  rw [List.getElem?_map, List.getElem?_range h]
  rfl
theorem intL_length {lo : Int} {n : Nat} : (intL lo n).length = n := by unfold intL; simp
theorem intLC_length {lo c : Int} {n : Nat} : (intLC lo c n).length = n := by unfold intLC; simp
theorem repL1 {K : PySem.W.Frag} {G : Hp} {d : D} {vs : List V} (h : RepL K G [d] vs) : ∃ v, vs = [v] ∧ Rep K G d v := by
  simp only [RepL] at h
  obtain ⟨v, r, rfl, h2, rfl⟩ := h
  exact ⟨v, rfl, h2⟩
theorem repL2 {K : PySem.W.Frag} {G : Hp} {d e : D} {vs : List V} (h : RepL K G [d, e] vs) : ∃ v w, vs = [v, w] ∧ Rep K G d v ∧ Rep K G e w := by
  simp only [RepL] at h
  obtain ⟨v, r, rfl, h2, w, r', rfl, h3, rfl⟩ := h
  exact ⟨v, w, rfl, h2, h3⟩
theorem repL3 {K : PySem.W.Frag} {G : Hp} {d e f : D} {vs : List V} (h : RepL K G [d, e, f] vs) : ∃ v w u, vs = [v, w, u] ∧ Rep K G d v ∧ Rep K G e w ∧ Rep K G f u := by
  simp only [RepL] at h
  obtain ⟨v, r, rfl, h2, w, r', rfl, h3, u, r'', rfl, h4, rfl⟩ := h
  exact ⟨v, w, u, rfl, h2, h3, h4⟩
theorem rep_int {K : PySem.W.Frag} {G : Hp} {i : Int} {v : V} (h : Rep K G (.int i) v) : v = .int i := by simpa only [Rep] using h
theorem di_rng1 (h : DA c ta fa) : DI c (iRng1 ta) (wRng1 fa) := by
  intro G env s σ H k Q R hf q
  refine h G env s σ H _ _ R hf fun G1 H1 vs ds env1 s1 R1 e1 rl k1 => ?_
  split at k1
  · rename_i j
    obtain ⟨v, rfl, rv⟩ := repL1 rl
    have := rep_int rv
    subst this
    exact ⟨j, rfl, k1.1.1, k1.1.2, q G1 H1 _ _ env1 s1 R1 e1 (wk_fn (by rw [intL_length]) walk_range fun i hi => ⟨_, intL_get hi, fun _ => by simp only [Rep]⟩) k1.2⟩
  · exact k1.elim
theorem di_rng2 (h : DA c ta fa) : DI c (iRng2 ta) (wRng2 fa) := by
  intro G env s σ H k Q R hf q
  refine h G env s σ H _ _ R hf fun G1 H1 vs ds env1 s1 R1 e1 rl k1 => ?_
  split at k1
  · rename_i i j
    obtain ⟨v, w, rfl, rv, rw'⟩ := repL2 rl
    have := rep_int rv
    subst this
    have := rep_int rw'
    subst this
    exact ⟨i, j, rfl, k1.1, q G1 H1 _ _ env1 s1 R1 e1 (wk_fn (by rw [intL_length]) walk_range fun i hi => ⟨_, intL_get hi, fun _ => by simp only [Rep]⟩) k1.2⟩
  · exact k1.elim
theorem di_rng3 (h : DA c ta fa) : DI c (iRng3 ta) (wRng3 fa) := by
  intro G env s σ H k Q R hf q
  refine h G env s σ H _ _ R hf fun G1 H1 vs ds env1 s1 R1 e1 rl k1 => ?_
  split at k1
  · rename_i i j c'
    obtain ⟨v, w, u, rfl, rv, rw', ru⟩ := repL3 rl
    have := rep_int rv
    subst this
    have := rep_int rw'
    subst this
    have := rep_int ru
    subst this
    obtain ⟨n, hr, hk⟩ := k1
    exact ⟨i, j, c', n, rfl, hr, q G1 H1 _ _ env1 s1 R1 e1 (wk_fn (by rw [intLC_length]) walk_rangeC fun i hi => ⟨_, intLC_get hi, fun _ => by simp only [Rep]⟩) hk⟩
  · exact k1.elim
theorem enumD_length (ds : List D) : (enumD ds).length = ds.length := by unfold enumD; simp
theorem enumD_get {ds : List D} {i : Nat} (h : i < ds.length) : (enumD ds)[i]? = some (.tup [.int (i : Nat), ds[i]]) := by
  unfold enumD
  rw [List.getElem?_map, List.getElem?_zipIdx, List.getElem?_eq_getElem h]
  simp
theorem zipD_length (ds es : List D) : (zipD ds es).length = min ds.length es.length := by unfold zipD; simp
theorem zipD_get {ds es : List D} {i : Nat} (h : i < ds.length) (h' : i < es.length) : (zipD ds es)[i]? = some (.tup [ds[i], es[i]]) := by
  unfold zipD
  rw [List.getElem?_map, List.getElem?_eq_getElem (by simp; omega)]
  simp
theorem rep_lst {K : PySem.W.Frag} {G : Hp} {ds : List D} {v : V} (h : Rep K G (.lst ds) v) : ∃ p vs, v = .ref p ∧ G p = some (.lst vs) ∧ RepL K G ds vs := by simpa only [Rep] using h
theorem di_enum (h : DA c ta fa) : DI c (iEnum c.K ta) (wEnum fa) := by
  intro G env s σ H k Q R hf q
  refine h G env s σ H _ _ R hf fun G1 H1 vs ds env1 s1 R1 e1 rl k1 => ?_
  split at k1
  · rename_i es
    obtain ⟨v, rfl, rv⟩ := repL1 rl
    obtain ⟨p, ws, rfl, h2, h3⟩ := rep_lst rv
    refine ⟨p, ws, rfl, Evl.sq_of (R1.ex _ _ h2), q G1 H1 _ _ env1 s1 R1 e1 (wk_pair (df := fun i => .int (i : Nat)) (dg := fun i => es.getD i .non) (by rw [enumD_length]; exact h3.length) walk_enum (fun _ G' H' _ _ _ R' e' => Evl.sq_of (R'.ex _ _ (e' _ _ h2))) (fun i hi => ?_) (fun i x hi hx => ?_) (fun i x hi hx => ?_)) k1⟩
    · rw [h3.length] at hi
      rw [enumD_get hi, List.getD_eq_getElem?_getD, List.getElem?_eq_getElem hi]
      rfl
    · cases hx
      simp only [Rep]
    · obtain ⟨d, e2, e3⟩ := RepL.getV h3 hx
      rw [List.getD_eq_getElem?_getD, e2]
      exact e3
  · exact k1.elim
theorem walk_zipT {K : PySem.W.Frag} {a b : Addr} {xs ys : List V} {n : Nat} (hn : n = min xs.length ys.length) : Walk (RZ.ItzT K a b) n (fun H => SqT K H a xs ∧ SqT K H b ys) (YPair (fun i => xs[i]?) (fun i => ys[i]?)) := by
  subst hn
  refine ⟨fun i H hi q => ?_, fun H q => ⟨xs, ys, q.1, q.2, by omega⟩, fun i H x H' hi q y => ?_⟩
  · have h1 : i < xs.length := by omega
    have h2 : i < ys.length := by omega
    exact ⟨xs, ys, xs[i], ys[i], q.1, q.2, by simp [h1], by simp [h2]⟩
  · obtain ⟨T, x', y', h1, h2, h3, h4, h5⟩ := y
    exact ⟨T, x', y', h1, h2, h3, h4 xs q.1, h5 ys q.2⟩
theorem rep_tup {K : PySem.W.Frag} {G : Hp} {ds : List D} {v : V} (h : Rep K G (.tup ds) v) : ∃ p vs, v = .ref p ∧ SqT K G p vs ∧ RepL K G ds vs := by simpa only [Rep] using h
theorem zip_pair {es fs : List D} {ws ws' : List V} (h3 : RepL c.K G es ws) (h3' : RepL c.K G fs ws') {J : It} {Gd : Hp → Prop} (w : Walk J (min ws.length ws'.length) Gd (YPair (fun i => ws[i]?) (fun i => ws'[i]?))) (hG : ∀ (H0 : {h : Hp // Ex c.H0 h}) G' H' env' s' σ', Rel (c.h0 H0.1) G' env' s' σ' H' → Ex G G' → Gd H') : Wk c G J (zipD es fs) := by
  refine wk_pair (df := fun i => es.getD i .non) (dg := fun i => fs.getD i .non) (n := min ws.length ws'.length) (by rw [zipD_length, h3.length, h3'.length]) w hG (fun i hi => ?_) (fun i x hi hx => ?_) (fun i x hi hx => ?_)
  · rw [h3.length, h3'.length] at hi
    rw [zipD_get (by omega) (by omega), List.getD_eq_getElem?_getD, List.getElem?_eq_getElem (by omega), List.getD_eq_getElem?_getD, List.getElem?_eq_getElem (by omega)]
    rfl
  · obtain ⟨d, e2, e3⟩ := RepL.getV h3 hx
    rw [List.getD_eq_getElem?_getD, e2]
    exact e3
  · obtain ⟨d, e2, e3⟩ := RepL.getV h3' hx
    rw [List.getD_eq_getElem?_getD, e2]
    exact e3
theorem di_zip (h : DA c ta fa) : DI c (RZ.iZipA c.K ta) (wZip fa) := by
  intro G env s σ H k Q R hf q
  refine h G env s σ H _ _ R hf fun G1 H1 vs ds env1 s1 R1 e1 rl k1 => ?_
  split at k1
  · rename_i es fs
    obtain ⟨v, w, rfl, rv, rw'⟩ := repL2 rl
    obtain ⟨p, ws, rfl, h2, h3⟩ := rep_lst rv
    obtain ⟨p', ws', rfl, h2', h3'⟩ := rep_lst rw'
    exact ⟨p, p', ws, ws', rfl, Or.inl ⟨Evl.sq_of (R1.ex _ _ h2), Evl.sq_of (R1.ex _ _ h2'), q G1 H1 _ _ env1 s1 R1 e1 (zip_pair h3 h3' (walk_zip rfl) fun _ G' H' _ _ _ R' e' => ⟨Evl.sq_of (R'.ex _ _ (e' _ _ h2)), Evl.sq_of (R'.ex _ _ (e' _ _ h2'))⟩) k1⟩⟩
  · rename_i es fs
    obtain ⟨v, w, rfl, rv, rw'⟩ := repL2 rl
    obtain ⟨p, ws, rfl, h2, h3⟩ := rep_tup rv
    obtain ⟨p', ws', rfl, h2', h3'⟩ := rep_tup rw'
    exact ⟨p, p', ws, ws', rfl, Or.inr ⟨Evl.ex_t R1.ex h2, Evl.ex_t R1.ex h2', q G1 H1 _ _ env1 s1 R1 e1 (zip_pair h3 h3' (walk_zipT rfl) fun _ G' H' _ _ _ R' e' => ⟨Evl.ex_t (e'.trans R'.ex) h2, Evl.ex_t (e'.trans R'.ex) h2'⟩) k1⟩⟩
  · exact k1.elim
theorem di_rev (h : DA c ta fa) : DI c (iRev c.K ta) (wRev fa) := by
  intro G env s σ H k Q R hf q
  refine h G env s σ H _ _ R hf fun G1 H1 vs ds env1 s1 R1 e1 rl k1 => ?_
  split at k1
  · rename_i es
    obtain ⟨v, rfl, rv⟩ := repL1 rl
    obtain ⟨p, ws, rfl, h2, h3⟩ := rep_lst rv
    refine ⟨p, ws, rfl, Evl.sq_of (R1.ex _ _ h2), q G1 H1 _ _ env1 s1 R1 e1 ⟨ws.length, _, _, by rw [List.length_reverse]; exact h3.length, walk_rev, (fun _ G' H' _ _ _ R' e' => Evl.sq_of (R'.ex _ _ (e' _ _ h2))), fun i H0 G' H' env' s' σ' x H3 hi R' e' y => ?_⟩ k1⟩
    obtain ⟨rfl, hx⟩ := y
    obtain ⟨d, e2, e3⟩ := RepL.getV h3 hx
    refine ⟨G', d, R', Ex.refl G', ?_, Rep.mono e' d e3⟩
    rw [h3.length] at hi e2
    rw [List.getElem?_reverse hi]
    exact e2
  · exact k1.elim
theorem di_str (h : DE c te fe) : DI c (iStr te) (wItS fe) := by
  intro G env s σ H k Q R hf q
  refine h G env s σ H _ _ R hf fun G1 H1 v r env1 s1 R1 e1 rv1 k1 => ?_
  obtain ⟨G2, R2, e2, rp⟩ := R1.toVal rv1
  cases hd : r.d with
  | str x =>
    rw [hd] at k1 rp
    simp only [Rep] at rp
    subst rp
    refine ⟨x, rfl, q G2 H1 _ (chars x) env1 s1 R2 (e1.trans e2) ⟨x.cps.size, _, _, by unfold chars; simp, walk_str, fun _ _ _ _ _ _ _ _ => True.intro, fun i H0 G' H' env' s' σ' y H3 hi R' e' hy => ?_⟩ k1⟩
    obtain ⟨rfl, cc, hc, rfl⟩ := hy
    refine ⟨G', .str ⟨#[cc]⟩, R', Ex.refl G', ?_, by simp only [Rep]⟩
    unfold chars
    rw [List.getElem?_map]
    simp [hc]
  | _ => rw [hd] at k1; exact k1.elim
end
end DL
set_option Elab.async false
set_option linter.all false
set_option maxRecDepth 100000
set_option maxHeartbeats 1000000
namespace DL
open PySem L2
open Evl (Ex)
def gIx : F2 := fun d e k => match d, e with
  | .lst ds, .int i => ∃ x, atI ds i = some x ∧ k (.val x)
  | .tup ds, .int i => ∃ x, atI ds i = some x ∧ k (.val x)
  | .scr ns, .int i => ∃ n, atI ns i = some n ∧ k (.val (.int n))
  | _, _ => False
def stIx (s : S) (a : Addr) (e : D) (k : Sl → Prop) : Prop := match s, e with
  | some t, .int 0 => a = t.a ∧ k (.val (.int t.x))
  | some t, .int 1 => a = t.a ∧ k (.val (.bl t.b))
  | _, _ => False
def wIxv (i : Nat) (fb : FP) : FE := fun env s k => match at_ env i with
  | .no => False
  | _ => fb env s fun db env2 s2 => match at_ env2 i with
    | .no => False
    | .own ds => gIx (.lst ds) db fun r => k r env2 s2
    | .val (.st a) => stIx s2 a db fun r => k r env2 s2
    | .val d => gIx d db fun r => k r env2 s2
section
variable {c : Cxt}
theorem RepL.atI {K : PySem.W.Frag} {G : Hp} {ds : List D} {vs : List V} {i : Int} {x : D} (h : RepL K G ds vs) (e : atI ds i = some x) : ∃ v, L2.atI vs i = some v ∧ Rep K G x v := by
  unfold L2.atI at e ⊢
  rw [h.length]
  cases q : ixN ds.length i with
  | none => rw [q] at e; cases e
  | some j =>
    rw [q] at e
    exact RepL.get h e
theorem atI_map {α β : Type} {f : α → β} {xs : List α} {i : Int} {x : α} (e : atI xs i = some x) : atI (xs.map f) i = some (f x) := by
  unfold L2.atI at e ⊢
  rw [List.length_map]
  cases q : ixN xs.length i with
  | none => rw [q] at e; cases e
  | some j =>
    rw [q] at e
    have e' : xs[j]? = some x := e
    show (xs.map f)[j]? = some (f x)
    rw [List.getElem?_map, e']
    rfl
theorem d2_ix : D2 c (rIx c.K) gIx := by
  intro G env s σ H x y d e k Q R p1 p2 h q
  unfold gIx at h
  split at h
  · rename_i ds i
    obtain ⟨z, h1, h2⟩ := h
    obtain ⟨p, vs, rfl, h3, h4⟩ := p1
    obtain ⟨v, h5, h6⟩ := RepL.atI h4 h1
    exact Or.inl ⟨p, vs, i, v, rfl, pr_int p2 rfl, Evl.sq_of h3, h5, q G H v (.val z) R (Ex.refl G) h6 h2⟩
  · rename_i ds i
    obtain ⟨z, h1, h2⟩ := h
    have p1' : Rep c.K G (.tup ds) x := p1
    simp only [Rep] at p1'
    obtain ⟨p, vs, rfl, h3, h4⟩ := p1'
    obtain ⟨v, h5, h6⟩ := RepL.atI h4 h1
    exact Or.inr (Or.inl ⟨p, vs, i, v, rfl, pr_int p2 rfl, Evl.ex_t R.ex h3, h5, q G H v (.val z) R (Ex.refl G) h6 h2⟩)
  · rename_i ns i
    obtain ⟨z, h1, h2⟩ := h
    have p1' : Rep c.K G (.scr ns) x := p1
    simp only [Rep] at p1'
    obtain ⟨p, rfl, h3⟩ := p1'
    exact Or.inl ⟨p, _, i, _, rfl, pr_int p2 rfl, Evl.ex_l R.ex h3, atI_map (f := V.int) h1, q G H _ (.val (.int z)) R (Ex.refl G) (by simp only [RV, Rep]) h2⟩
  · exact h.elim
theorem de_ixv {ti : TE} {fi : FP} (i : Nat) (h : DP c ti fi) : DE c (tOp (rIx c.K) (tVar i) ti) (wIxv i fi) := by
  intro G env s σ H k Q R hf q
  unfold wIxv at hf
  have ne : at_ env i ≠ .no := fun e => by rw [e] at hf; exact hf
  have hf' : fi env s fun db env2 s2 => match at_ env2 i with
    | .no => False
    | .own ds => gIx (.lst ds) db fun r => k r env2 s2
    | .val (.st a) => stIx s2 a db fun r => k r env2 s2
    | .val d => gIx d db fun r => k r env2 s2 := by
    cases e : at_ env i with
    | no => exact absurd e ne
    | val d => rw [e] at hf; exact hf
    | own ds => rw [e] at hf; exact hf
  obtain ⟨v, h1, _⟩ := at_rel R ne
  refine ⟨v, h1, h G env s σ H _ _ R hf' fun G3 H3 y db env3 s3 R3 e3 p3 k3 => ?_⟩
  have ne3 : at_ env3 i ≠ .no := fun e => by rw [e] at k3; exact k3
  obtain ⟨v', h3, h4⟩ := at_rel R3 ne3
  have e : v' = v := by rw [h1] at h3; cases h3; rfl
  subst e
  have go : ∀ d : D, PR c G3 H3 d v' → gIx d db (fun r => k r env3 s3) → rIx c.K v' y H3 Q := fun d pd g =>
    d2_ix G3 env3 s3 σ H3 v' y d db _ Q R3 pd p3 g fun G4 H4 w r' R4 e4 rv4 k4 => q G4 H4 w r' env3 s3 R4 (e3.trans e4) rv4 k4
  cases e4 : at_ env3 i with
  | no => exact absurd e4 ne3
  | own ds =>
    rw [e4] at h4 k3
    exact go _ h4 k3
  | val d =>
    rw [e4] at h4 k3
    cases d with
    | st a0 =>
      have h4' : Rep c.K G3 (.st a0) v' := h4
      simp only [Rep] at h4'
      subst h4'
      have k4 : stIx s3 a0 db fun r => k r env3 s3 := k3
      clear k3
      have st : ∀ t, s3 = some t → a0 = t.a → SqL c.K H3 a0 [.int t.x, .bl t.b] := fun t ht ha => by
        subst ht
        cases hc : c.a0 with
        | none => have := R3.sn hc; cases this
        | some a =>
          obtain ⟨s1a, x0, b0, e5, s1b⟩ := R3.st a hc
          cases e5
          subst ha
          exact Evl.sq_of s1b
      unfold stIx at k4
      split at k4
      · rename_i t
        exact Or.inl ⟨a0, _, 0, _, rfl, pr_int p3 rfl, st t rfl k4.1, rfl, q G3 H3 _ (.val (.int t.x)) env3 (some t) R3 e3 (by simp only [RV, Rep]) k4.2⟩
      · rename_i t
        exact Or.inl ⟨a0, _, 1, _, rfl, pr_int p3 rfl, st t rfl k4.1, rfl, q G3 H3 _ (.val (.bl t.b)) env3 (some t) R3 e3 (by simp only [RV, Rep]) k4.2⟩
      · exact k4.elim
    | _ => exact go _ h4 k3
end
def cutD (ds : List D) (lo hi : Option Int) : List D := (ds.drop (HT.sIx ds.length 0 lo)).take (HT.sIx ds.length ds.length hi - HT.sIx ds.length 0 lo)
abbrev FO := EnvD → S → (Option Int → EnvD → S → Prop) → Prop
def DO (c : Cxt) (t : TO) (f : FO) : Prop := ∀ (G : Hp) (env : EnvD) (s : S) (σ : L2.St) (H : Hp) (k : Option Int → EnvD → S → Prop) (Q : Option Int → Hp → Prop), Rel c G env s σ H → f env s k →
  (∀ G' H' o env' s', Rel c G' env' s' σ H' → Ex G G' → k o env' s' → Q o H') → t σ H Q
def wNoPart : FO := fun env s k => k none env s
def wPart (f : FP) : FO := fun env s k => f env s fun d env1 s1 => match d with
  | .int i => k (some i) env1 s1
  | _ => False
def wSl (f : FE) (fl fh : FO) : FE := fun env s k => f env s fun r env1 s1 => fl env1 s1 fun lo env2 s2 => fh env2 s2 fun hi env3 s3 => match r.d with
  | .lst ds => k (.own (cutD ds lo hi)) env3 s3
  | _ => False
def wSlv (i : Nat) (fl fh : FO) : FE := fun env s k => match at_ env i with
  | .no => False
  | _ => fl env s fun lo env2 s2 => fh env2 s2 fun hi env3 s3 => match (at_ env3 i).d with
    | .lst ds => k (.own (cutD ds lo hi)) env3 s3
    | _ => False
section
variable {c : Cxt}
theorem do_none : DO c tNoPart wNoPart := fun G env s σ H k Q R hf q => q G H none env s R (Ex.refl G) hf
theorem do_some {te : TE} {f : FP} (h : DP c te f) : DO c (tPart te) (wPart f) := by
  intro G env s σ H k Q R hf q
  refine h G env s σ H _ _ R hf fun G1 H1 v d env1 s1 R1 e1 p1 k1 => ?_
  cases d with
  | int i => exact ⟨i, pr_int p1 rfl, q G1 H1 (some i) env1 s1 R1 e1 k1⟩
  | _ => exact k1.elim
theorem RepL.cut {K : PySem.W.Frag} {G : Hp} {ds : List D} {vs : List V} {lo hi : Option Int} (h : RepL K G ds vs) : RepL K G (cutD ds lo hi) (cutV vs lo hi) := by
  unfold cutD cutV
  rw [h.length]
  exact RepL.take _ (RepL.drop _ h)
theorem de_sl {te : TE} {f : FE} {tl th : TO} {fl fh : FO} (h : DE c te f) (h1 : DO c tl fl) (h2 : DO c th fh) : DE c (tSl (rSlL c.K) te tl th) (wSl f fl fh) := by
  intro G env s σ H k Q R hf q
  refine h G env s σ H _ _ R hf fun G1 H1 v r env1 s1 R1 e1 rv1 k1 => ?_
  obtain ⟨G2, R2, e2, rp⟩ := R1.toVal rv1
  refine h1 G2 env1 s1 σ H1 _ _ R2 k1 fun G3 H3 lo env3 s3 R3 e3 k3 => ?_
  refine h2 G3 env3 s3 σ H3 _ _ R3 k3 fun G4 H4 hi env4 s4 R4 e4 k4 => ?_
  cases hd : r.d with
  | lst ds =>
    rw [hd] at k4 rp
    obtain ⟨p, vs, rfl, g2, g3⟩ := rep_lst (Rep.mono (e3.trans e4) _ rp)
    refine ⟨p, vs, rfl, Evl.sq_of (R4.ex _ _ g2), fun l hl => ?_⟩
    obtain ⟨R5, rv5⟩ := R4.newOwn hl (RepL.cut (lo := lo) (hi := hi) g3)
    exact q G4 _ _ (.own _) env4 s4 R5 (((e1.trans e2).trans e3).trans e4) rv5 k4
  | _ => rw [hd] at k4; exact k4.elim
theorem de_slv {i : Nat} {tl th : TO} {fl fh : FO} (h1 : DO c tl fl) (h2 : DO c th fh) : DE c (tSl (rSlL c.K) (tVar i) tl th) (wSlv i fl fh) := by
  intro G env s σ H k Q R hf q
  unfold wSlv at hf
  have ne : at_ env i ≠ .no := fun e => by rw [e] at hf; exact hf
  have hf' : fl env s fun lo env2 s2 => fh env2 s2 fun hi env3 s3 => match (at_ env3 i).d with
    | .lst ds => k (.own (cutD ds lo hi)) env3 s3
    | _ => False := by
    cases e : at_ env i with
    | no => exact absurd e ne
    | val d => rw [e] at hf; exact hf
    | own ds => rw [e] at hf; exact hf
  obtain ⟨v, g1, _⟩ := at_rel R ne
  refine ⟨v, g1, h1 G env s σ H _ _ R hf' fun G3 H3 lo env3 s3 R3 e3 k3 => ?_⟩
  refine h2 G3 env3 s3 σ H3 _ _ R3 k3 fun G4 H4 hi env4 s4 R4 e4 k4 => ?_
  have ne4 : at_ env4 i ≠ .no := fun e => by rw [e] at k4; exact k4
  obtain ⟨v', g3, g4⟩ := at_rel R4 ne4
  have e : v' = v := by rw [g1] at g3; cases g3; rfl
  subst e
  cases hd : (at_ env4 i).d with
  | lst ds =>
    rw [hd] at k4 g4
    obtain ⟨p, vs, rfl, g5, g6⟩ := g4
    refine ⟨p, vs, rfl, Evl.sq_of g5, fun l hl => ?_⟩
    obtain ⟨R5, rv5⟩ := R4.newOwn hl (RepL.cut (lo := lo) (hi := hi) g6)
    exact q G4 _ _ (.own _) env4 s4 R5 (e3.trans e4) rv5 k4
  | _ => rw [hd] at k4; exact k4.elim
end
def rLenX (K : PySem.W.Frag) : List V → Hp → VK → Prop := fun xs H Q => ∃ x n, xs = [x] ∧ LenV K x H n ∧ Q (.int n) H
def rListX (K : PySem.W.Frag) : List V → Hp → VK → Prop := fun xs H Q => ∃ p ys, xs = [.ref p] ∧ (SqL K H p ys ∨ SqT K H p ys) ∧ ∀ l, H l = none → Q (.ref l) (upd H l (.lst ys))
def rTupX (K : PySem.W.Frag) : List V → Hp → VK → Prop := fun xs H Q => ∃ p ys, xs = [.ref p] ∧ ((SqL K H p ys ∧ ∀ l, H l = none → Q (.ref l) (upd H l (.tup ys))) ∨ (SqT K H p ys ∧ Q (.ref p) H))
def gLen : F1 := fun d k => match d with
  | .lst ds => k (.val (.int ds.length))
  | .tup ds => k (.val (.int ds.length))
  | .scr ns => k (.val (.int ns.length))
  | .str x => x.length ≤ sizeLine ∧ k (.val (.int x.length))
  | _ => False
def gList : F1 := fun d k => match d with
  | .lst ds => k (.own ds)
  | .tup ds => k (.own ds)
  | _ => False
def gTuple : F1 := fun d k => match d with
  | .lst ds => k (.val (.tup ds))
  | .tup ds => k (.val (.tup ds))
  | _ => False
section
variable {c : Cxt}
theorem d1_len : D1 c (fun x => rLenX c.K [x]) gLen := by
  intro G env s σ H x d k Q R p1 h q
  cases d with
  | lst ds =>
    obtain ⟨p, vs, rfl, h3, h4⟩ := p1
    exact ⟨_, vs.length, rfl, Or.inl ⟨vs, Evl.sq_of h3, rfl⟩, by rw [h4.length]; exact q G H _ (.val (.int ds.length)) R (Ex.refl G) (by simp only [RV, Rep]) h⟩
  | tup ds =>
    have p1' : Rep c.K G (.tup ds) x := p1
    simp only [Rep] at p1'
    obtain ⟨p, vs, rfl, h3, h4⟩ := p1'
    exact ⟨_, vs.length, rfl, Or.inr ⟨vs, Evl.ex_t R.ex h3, rfl⟩, by rw [h4.length]; exact q G H _ (.val (.int ds.length)) R (Ex.refl G) (by simp only [RV, Rep]) h⟩
  | scr ns =>
    have p1' : Rep c.K G (.scr ns) x := p1
    simp only [Rep] at p1'
    obtain ⟨p, rfl, h3⟩ := p1'
    exact ⟨_, (ns.map V.int).length, rfl, Or.inl ⟨_, Evl.ex_l R.ex h3, rfl⟩, by rw [List.length_map]; exact q G H _ (.val (.int ns.length)) R (Ex.refl G) (by simp only [RV, Rep]) h⟩
  | str z =>
    have p1' : Rep c.K G (.str z) x := p1
    simp only [Rep] at p1'
    subst p1'
    exact ⟨_, z.length, rfl, ⟨h.1, rfl⟩, q G H _ (.val (.int z.length)) R (Ex.refl G) (by simp only [RV, Rep]) h.2⟩
  | _ => exact h.elim
theorem d1_list : D1 c (fun x => rListX c.K [x]) gList := by
  intro G env s σ H x d k Q R p1 h q
  cases d with
  | lst ds =>
    obtain ⟨p, vs, rfl, h3, h4⟩ := p1
    refine ⟨p, vs, rfl, Or.inl (Evl.sq_of h3), fun l hl => ?_⟩
    obtain ⟨R5, rv5⟩ := R.newOwn hl h4
    exact q G _ _ (.own ds) R5 (Ex.refl G) rv5 h
  | tup ds =>
    have p1' : Rep c.K G (.tup ds) x := p1
    simp only [Rep] at p1'
    obtain ⟨p, vs, rfl, h3, h4⟩ := p1'
    refine ⟨p, vs, rfl, Or.inr (Evl.ex_t R.ex h3), fun l hl => ?_⟩
    obtain ⟨R5, rv5⟩ := R.newOwn hl h4
    exact q G _ _ (.own ds) R5 (Ex.refl G) rv5 h
  | _ => exact h.elim
theorem d1_tuple : D1 c (fun x => rTupX c.K [x]) gTuple := by
  intro G env s σ H x d k Q R p1 h q
  cases d with
  | lst ds =>
    obtain ⟨p, vs, rfl, h3, h4⟩ := p1
    refine ⟨p, vs, rfl, Or.inl ⟨Evl.sq_of h3, fun l hl => ?_⟩⟩
    obtain ⟨G2, R5, e5, rv5⟩ := R.newTup hl h4
    exact q G2 _ _ (.val (.tup ds)) R5 e5 rv5 h
  | tup ds =>
    have p1' : Rep c.K G (.tup ds) x := p1
    have p1'' := p1'
    simp only [Rep] at p1'
    obtain ⟨p, vs, rfl, h3, h4⟩ := p1'
    exact ⟨p, vs, rfl, Or.inr ⟨Evl.ex_t R.ex h3, q G H _ (.val (.tup ds)) R (Ex.refl G) p1'' h⟩⟩
  | _ => exact h.elim
def gCat : F2 := fun d e k => match d, e with
  | .lst ds, .lst es => ds.length + es.length ≤ sizeLine ∧ k (.own (ds ++ es))
  | _, _ => False
def gRep : F2 := fun d e k => match d, e with
  | .lst ds, .int i => (-(2 ^ 63) ≤ i ∧ i < 2 ^ 63 ∧ ds.length * i.toNat ≤ sizeLine) ∧ k (.own (List.replicate i.toNat ds).flatten)
  | _, _ => False
def gCatT : F2 := fun d e k => match d, e with
  | .tup ds, .tup es => ds.length + es.length ≤ sizeLine ∧ k (.val (.tup (ds ++ es)))
  | _, _ => False
def gCatS : F2 := fun d e k => match d, e with
  | .str x, .str y => x.length + y.length ≤ sizeLine ∧ k (.val (.str (x ++ y)))
  | _, _ => False
theorem pr_str {G H : Hp} {x : Str} {v : V} (h : PR c G H (.str x) v) : v = .str x := by
  have h' : Rep c.K G (.str x) v := h
  simpa only [Rep] using h'
theorem d2_cat : D2 c rCat gCat := by
  intro G env s σ H x y d e k Q R p1 p2 h q
  unfold gCat at h
  split at h
  · rename_i ds es
    obtain ⟨p, vs, rfl, h3, h4⟩ := p1
    obtain ⟨p', vs', rfl, h3', h4'⟩ := p2
    refine ⟨p, p', vs, vs', rfl, rfl, h3, h3', by rw [h4.length, h4'.length]; exact h.1, fun l hl => ?_⟩
    obtain ⟨R5, rv5⟩ := R.newOwn hl (RepL.append h4 h4')
    exact q G _ _ (.own _) R5 (Ex.refl G) rv5 h.2
  · exact h.elim
theorem d2_rep : D2 c rRep gRep := by
  intro G env s σ H x y d e k Q R p1 p2 h q
  unfold gRep at h
  split at h
  · rename_i ds i
    obtain ⟨p, vs, rfl, h3, h4⟩ := p1
    refine ⟨p, i, vs, rfl, pr_int p2 rfl, h3, h.1.1, h.1.2.1, by rw [h4.length]; exact h.1.2.2, fun l hl => ?_⟩
    obtain ⟨R5, rv5⟩ := R.newOwn hl (RepL.replicate i.toNat h4)
    exact q G _ _ (.own _) R5 (Ex.refl G) rv5 h.2
  · exact h.elim
theorem RepL.nil_iff {K : PySem.W.Frag} {G : Hp} {ds : List D} {vs : List V} (h : RepL K G ds vs) (e : vs = []) : ds = [] := by
  have := h.length
  subst e
  exact List.eq_nil_of_length_eq_zero this.symm
theorem d2_catT : D2 c (rCatA c.K) gCatT := by
  intro G env s σ H x y d e k Q R p1 p2 h q
  unfold gCatT at h
  split at h
  · rename_i ds es
    have p1' : Rep c.K G (.tup ds) x := p1
    have p2' : Rep c.K G (.tup es) y := p2
    have p1o := p1'
    have p2o := p2'
    simp only [Rep] at p1' p2'
    obtain ⟨p, vs, rfl, h3, h4⟩ := p1'
    obtain ⟨p', vs', rfl, h3', h4'⟩ := p2'
    refine ⟨p, p', vs, vs', rfl, rfl, Evl.ex_t R.ex h3, Evl.ex_t R.ex h3', by rw [h4.length, h4'.length]; exact h.1, fun z => ?_, fun z z' => ?_, fun z z' l hl => ?_⟩
    · have e1 := RepL.nil_iff h4 z
      subst e1
      exact q G H _ (.val (.tup es)) R (Ex.refl G) p2o h.2
    · have e1 := RepL.nil_iff h4' z'
      subst e1
      exact q G H _ (.val (.tup ds)) R (Ex.refl G) p1o (by have := h.2; rwa [List.append_nil] at this)
    · obtain ⟨G2, R5, e5, rv5⟩ := R.newTup hl (RepL.append h4 h4')
      exact q G2 _ _ (.val (.tup _)) R5 e5 rv5 h.2
  · exact h.elim
theorem d2_catS : D2 c (fun x y H Q => ∃ i j, x = .str i ∧ y = .str j ∧ i.length + j.length ≤ sizeLine ∧ Q (.str (i ++ j)) H) gCatS := by
  intro G env s σ H x y d e k Q R p1 p2 h q
  unfold gCatS at h
  split at h
  · exact ⟨_, _, pr_str p1, pr_str p2, h.1, q G H _ (.val (.str _)) R (Ex.refl G) (by simp only [RV, Rep]) h.2⟩
  · exact h.elim
end
def rAbsX : List V → Hp → VK → Prop := fun xs H Q => ∃ i, xs = [.int i] ∧ Q (.int (if i < 0 then -i else i)) H
def rIntX : List V → Hp → VK → Prop := fun xs H Q => (∃ i, xs = [.int i] ∧ Q (.int i) H) ∨ ∃ k, xs = [.bl k] ∧ Q (.int (if k then 1 else 0)) H
def rMaxX : List V → Hp → VK → Prop := fun xs H Q => ∃ i j, xs = [.int i, .int j] ∧ Q (.int (if j > i then j else i)) H
def rMinX : List V → Hp → VK → Prop := fun xs H Q => ∃ i j, xs = [.int i, .int j] ∧ Q (.int (if j < i then j else i)) H
def gAbs : F1 := fun d k => match d with
  | .int i => k (.val (.int (if i < 0 then -i else i)))
  | _ => False
def gInt : F1 := fun d k => match d with
  | .int i => k (.val (.int i))
  | .bl b => k (.val (.int (if b then 1 else 0)))
  | _ => False
def gMax2 : FL := fun ds k => match ds with
  | [.int i, .int j] => k (.val (.int (if j > i then j else i)))
  | _ => False
def gMin2 : FL := fun ds k => match ds with
  | [.int i, .int j] => k (.val (.int (if j < i then j else i)))
  | _ => False
def bools : List D → Option (List Bool)
  | [] => some []
  | .bl b :: r => (bools r).map (b :: ·)
  | _ :: _ => none
def gAll : F1 := fun d k => match d with
  | .lst ds => ∃ bs : List Bool, ds = bs.map D.bl ∧ k (.val (.bl (bs.all id)))
  | _ => False
def gAny : F1 := fun d k => match d with
  | .lst ds => ∃ bs : List Bool, ds = bs.map D.bl ∧ k (.val (.bl (bs.any id)))
  | _ => False
section
variable {c : Cxt}
theorem d1_abs : D1 c (fun x => rAbsX [x]) gAbs := by
  intro G env s σ H x d k Q R p1 h q
  unfold gAbs at h
  split at h
  · rename_i i
    exact ⟨i, by rw [pr_int p1 rfl], q G H _ (.val (.int _)) R (Ex.refl G) (by simp only [RV, Rep]) h⟩
  · exact h.elim
theorem d1_int : D1 c (fun x => rIntX [x]) gInt := by
  intro G env s σ H x d k Q R p1 h q
  unfold gInt at h
  split at h
  · rename_i i
    exact Or.inl ⟨i, by rw [pr_int p1 rfl], q G H _ (.val (.int _)) R (Ex.refl G) (by simp only [RV, Rep]) h⟩
  · rename_i b
    exact Or.inr ⟨b, by rw [pr_bl p1 rfl], q G H _ (.val (.int _)) R (Ex.refl G) (by simp only [RV, Rep]) h⟩
  · exact h.elim
theorem db_max2 : DB c rMaxX gMax2 := by
  intro G env s σ H xs ds k Q R rl h q
  unfold gMax2 at h
  split at h
  · rename_i i j
    obtain ⟨v, w, rfl, h1, h2⟩ := repL2 rl
    exact ⟨i, j, by rw [rep_int h1, rep_int h2], q G H _ (.val (.int _)) R (Ex.refl G) (by simp only [RV, Rep]) h⟩
  · exact h.elim
theorem db_min2 : DB c rMinX gMin2 := by
  intro G env s σ H xs ds k Q R rl h q
  unfold gMin2 at h
  split at h
  · rename_i i j
    obtain ⟨v, w, rfl, h1, h2⟩ := repL2 rl
    exact ⟨i, j, by rw [rep_int h1, rep_int h2], q G H _ (.val (.int _)) R (Ex.refl G) (by simp only [RV, Rep]) h⟩
  · exact h.elim
theorem repL_bls {G : Hp} : ∀ {bs : List Bool} {vs : List V}, RepL c.K G (bs.map D.bl) vs → vs = bs.map V.bl
  | [], _, h => by simpa only [List.map_nil, RepL] using h
  | b :: bs, _, h => by
    simp only [List.map_cons, RepL] at h
    obtain ⟨v, r, rfl, h2, h3⟩ := h
    simp only [Rep] at h2
    rw [h2, repL_bls h3]
    rfl
theorem d1_all : D1 c (fun x => rAll c.K [x]) gAll := by
  intro G env s σ H x d k Q R p1 h q
  unfold gAll at h
  split at h
  · obtain ⟨bs, rfl, h⟩ := h
    obtain ⟨p, vs, rfl, h3, h4⟩ := p1
    rw [repL_bls h4] at h3
    exact ⟨p, bs, rfl, Evl.sq_of h3, q G H _ (.val (.bl _)) R (Ex.refl G) (by simp only [RV, Rep]) h⟩
  · exact h.elim
theorem d1_any : D1 c (fun x => rAny c.K [x]) gAny := by
  intro G env s σ H x d k Q R p1 h q
  unfold gAny at h
  split at h
  · obtain ⟨bs, rfl, h⟩ := h
    obtain ⟨p, vs, rfl, h3, h4⟩ := p1
    rw [repL_bls h4] at h3
    exact ⟨p, bs, rfl, Evl.sq_of h3, q G H _ (.val (.bl _)) R (Ex.refl G) (by simp only [RV, Rep]) h⟩
  · exact h.elim
end
def D.tyN : D → String
  | .non => "NoneType"
  | .bl _ => "bool"
  | .int _ => "int"
  | .str _ => "str"
  | .lst _ => "list"
  | .tup _ => "tuple"
  | .dic => "dict"
  | .scr _ => "list"
  | .st _ => "list"
  | .exc _ => "list"
  | .fn .. => "list"
def tyB (n t : String) : Bool := n == t || (n == "bool" && t == "int")
def isTy (d : D) (t : String) : Bool := tyB d.tyN t
theorem kit_all : ∀ n ∈ ["NoneType", "bool", "int", "str", "list", "tuple", "dict"], ∀ t ∈ ["int", "bool", "str", "list", "tuple"], kitB n t = some (tyB n t) := by decide +kernel
inductive TyOk : String → Prop where
  | int : TyOk "int" | bool : TyOk "bool" | str : TyOk "str" | list : TyOk "list" | tuple : TyOk "tuple"
theorem kit_is {K : PySem.W.Frag} {t : String} (h : TyOk t) (d : D) : PySem.W.kitOne K (.type d.tyN) (.type t) = some (isTy d t) := by
  refine kit_ty ?_
  exact kit_all _ (by cases d <;> simp [D.tyN]) _ (by cases h <;> simp)
def notScr : D → Prop
  | .scr _ => False
  | .st _ => False
  | .exc _ => False
  | .fn .. => False
  | _ => True
theorem tyX_of {c : Cxt} {G H : Hp} {env : EnvD} {s : S} {σ : L2.St} (R : Rel c G env s σ H) {d : D} {v : V} (h : PR c G H d v) (hk : notScr d) : TyX c.K H v (.type d.tyN) := by
  cases d with
  | non => have h' : Rep c.K G .non v := h; simp only [Rep] at h'; subst h'; exact .base .non
  | bl b => rw [pr_bl h rfl]; exact .base (.bl b)
  | int b => rw [pr_int h rfl]; exact .base (.int b)
  | str b => rw [pr_str h]; exact .base (.str b)
  | lst ds => obtain ⟨p, vs, rfl, h3, h4⟩ := h; exact .base (.lst h3)
  | tup ds =>
    have h' : Rep c.K G (.tup ds) v := h
    simp only [Rep] at h'
    obtain ⟨p, vs, rfl, h3, h4⟩ := h'
    rcases Evl.ex_t R.ex h3 with (h5 | ⟨o, h5⟩) | ⟨o, its, n, h5, h6, _⟩
    · exact .base (.tup h5)
    · exact .fTuple h5
    · exact .kTuple h5 h6
  | dic => have h' : Rep c.K G .dic v := h; simp only [Rep] at h'; obtain ⟨p, kvs, rfl, h3⟩ := h'; exact .base (.dK (R.ex _ _ h3))
  | scr ns => exact hk.elim
  | st a => exact hk.elim
  | exc a => exact hk.elim
  | fn f a o u => exact hk.elim
def wIsi (t : String) (f : FP) : FE := fun env s k => f env s fun d env1 s1 => notScr d ∧ k (.val (.bl (isTy d t))) env1 s1
def wIsi2 (t u : String) (f : FP) : FE := fun env s k => f env s fun d env1 s1 => notScr d ∧ k (.val (.bl (isTy d t || isTy d u))) env1 s1
theorem de_isi {c : Cxt} {te : TE} {f : FP} {t : String} (ht : TyOk t) (h : DP c te f) : DE c (tCB (rIsi c.K) (tCons te (tCons (tC (.ty t)) tNil))) (wIsi t f) := by
  intro G env s σ H k Q R hf q
  refine h G env s σ H _ _ R hf fun G1 H1 v d env1 s1 R1 e1 p1 k1 => ?_
  exact ⟨v, .ty t, _, .type t, isTy d t, rfl, .ty t, tyX_of R1 p1 k1.1, kit_is ht d, q G1 H1 _ (.val (.bl _)) env1 s1 R1 e1 (by simp only [RV, Rep]) k1.2⟩
theorem de_isi2 {c : Cxt} {te : TE} {f : FP} {t u : String} (ht : TyOk t) (hu : TyOk u) (h : DP c te f) : DE c (tCB (rIsiT c.K) (tCons te (tCons (tTup (tCons (tC (.ty t)) (tCons (tC (.ty u)) tNil))) tNil))) (wIsi2 t u f) := by
  intro G env s σ H k Q R hf q
  refine h G env s σ H _ _ R hf fun G1 H1 v d env1 s1 R1 e1 p1 k1 => ⟨by show 2 ≤ sizeLine; decide, fun tp htp => ?_⟩
  have R2 := R1.new (o := .tup [.ty t, .ty u]) htp (fun _ z => by cases z)
  have p2 : PR c G1 (upd H1 tp (.tup [.ty t, .ty u])) d v := by
    cases d with
    | lst ds =>
      obtain ⟨p, vs, g1, g2, g3⟩ := p1
      exact ⟨p, vs, g1, Ex.new htp _ _ g2, g3⟩
    | _ => exact p1
  refine ⟨v, tp, [.ty t, .ty u], .type d.tyN, [.type t, .type u], (isTy d t || isTy d u), rfl, upd_same, .cons (.ty t) (.cons (.ty u) .nil), tyX_of R2 p2 k1.1, ?_, q G1 _ _ (.val (.bl (isTy d t || isTy d u))) env1 s1 R2 e1 (by simp only [RV, Rep]) k1.2⟩
  refine kitAny_cons (kit_is ht d) (fun z => ?_) (fun z => by rw [z]; rfl)
  rw [z, Bool.false_or]
  refine kitAny_cons (kit_is hu d) (fun z => ?_) (fun z => z)
  rw [z]
  exact kitAny_nil
end DL
set_option Elab.async false
set_option linter.all false
set_option maxRecDepth 100000
set_option maxHeartbeats 1000000
namespace DL
open PySem L2 PySem.Spec PyProof.Rows
open Evl (Ex)
abbrev Fn := List D → S → (Sl → S → Prop) → (Str → S → Prop) → Prop
def spD (K : PySem.W.Frag) (T : List (Addr × Str)) (cl : Str → Addr) (F : Fn) : Sp := fun vs H Q E =>
  ∃ (c : Cxt) (G : Hp) (s : S) (ds : List D) (k : Sl → S → Prop) (xq : Str → S → Prop), c.K = K ∧ c.T = T ∧ Rel c G [] s [] H ∧ RepL c.K G ds vs ∧ F ds s k xq ∧
    (∀ G' H' v r s', Rel c G' [] s' [] H' → RV c G' H' [] [] v r → k r s' → Q v H') ∧ (∀ G' H' cn s', Rel c G' [] s' [] H' → xq cn s' → E (.ref (cl cn)) none H')
def EOk (c : Cxt) (cl : Str → Addr) (E : XK) (xq : Str → S → Prop) : Prop := ∀ G H cn s, Rel c G [] s [] H → xq cn s → E (.ref (cl cn)) none H
section
variable {c : Cxt} {G H : Hp} {env : EnvD} {s : S} {σ : L2.St}
def Cxt.inn (c : Cxt) (H G : Hp) : Cxt := { c with H0 := noT H, G0 := G }
theorem Rel.inn (R : Rel c G env s σ H) : Rel (c.inn H G) G [] s [] H :=
  { ex := R.ex, st := R.st, sn := R.sn, keep := fun _ _ h _ _ => (noT_some h).1, kn := fun _ h => noT_none h, h0n := fun p ps z => (noT_some z).2 ps rfl, tab := R.tab, gnew := fun _ _ _ h => h, gx := Ex.refl G, gtb := R.gtb, len := rfl,
    vals := fun i d h => by simp at h, owns := fun i d h => by simp at h, dist := fun i j d e v h => by simp at h }
theorem Rel.out (R : Rel c G env s σ H) {G' H' : Hp} {s' : S} (R' : Rel (c.inn H G) G' [] s' [] H') : Rel c G' env s' σ H' := by
  have e : Ex G G' := R'.gx
  refine { ex := R'.ex, st := R'.st, sn := R'.sn, keep := fun p o h1 h2 h3 => R'.keep p o (noT_of (R.keep p o h1 h2 h3) h3) h2 h3, kn := fun p h => R.knN (R'.kn p h), h0n := R.h0n, tab := R'.tab, gnew := fun p ws h1 h2 => ?_, gx := R.gx.trans e, gtb := R'.gtb, len := R.len,
           vals := fun i d hi => ?_, owns := fun i ds hi => ?_, dist := R.dist }
  · obtain ⟨us, hu⟩ := R.lstN h1
    exact R'.gnew p us hu (R.gnew p ws h1 h2)
  · obtain ⟨v, h1, h2⟩ := R.vals i d hi
    exact ⟨v, h1, Rep.mono e d h2⟩
  · obtain ⟨v, h1, p, vs, rfl, h3, h4, h5, h6, h7⟩ := R.owns i ds hi
    have h6n := noT_of h6 (fun _ z => by cases z)
    have hn : noT H p ≠ none := fun z => by rw [z] at h6n; cases h6n
    exact ⟨_, h1, p, vs, rfl, R'.gnew p vs h6n h3, h4, h5, R'.keep p _ h6n h5 (fun _ z => by cases z), RepL.mono e ds h7⟩
theorem RV.out (R : Rel c G env s σ H) {G' H' : Hp} {s' : S} (R' : Rel (c.inn H G) G' [] s' [] H') {v : V} {r : Sl} (h : RV (c.inn H G) G' H' [] [] v r) : RV c G' H' env σ v r := by
  cases r with
  | no => exact h
  | val d => exact h
  | own ds =>
    obtain ⟨⟨p, vs, rfl, h3, h4, h5, h6, h7⟩, _⟩ := h
    have h4' : noT H p = none := h4
    exact ⟨⟨p, vs, rfl, h3, R.knN h4', h5, h6, h7⟩, R.newApartN h4'⟩
end
def wCall (F : Fn) (xq : Str → S → Prop) (fa : FA) : FE := fun env s k => fa env s fun ds env1 s1 => F ds s1 (fun r s2 => k r env1 s2) xq
def wCallLend (F : Fn) (xq : Str → S → Prop) (j : Nat) (fa : FA) : FE := fun env s k => match at_ env j with
  | .own _ => fa env s fun ds env1 s1 => match at_ env1 j with
    | .own [.int x, .bl b] => ∀ a, F (.st a :: ds) (some ⟨x, b, a⟩) (fun r s2 => ∃ x' b', s2 = some ⟨x', b', a⟩ ∧ k r (env1.set j (.own [.int x', .bl b'])) s1) (fun cn _ => xq cn s1)
    | _ => False
  | _ => False
abbrev FB := EnvD → S → (List D → EnvD → S → Prop) → Prop
def PQ (c : Cxt) (G H : Hp) : D → V → Prop
  | .lst ds, v => ∃ p vs, v = .ref p ∧ c.a0 ≠ some p ∧ H p = some (.lst vs) ∧ RepL c.K G ds vs
  | d, v => Rep c.K G d v
def PQL (c : Cxt) (G H : Hp) : List D → List V → Prop
  | [], vs => vs = []
  | d :: ds, vs => ∃ v r, vs = v :: r ∧ PQ c G H d v ∧ PQL c G H ds r
def DAB (c : Cxt) (t : TA) (f : FB) : Prop := ∀ (G : Hp) (env : EnvD) (s : S) (σ : L2.St) (H : Hp) (k : List D → EnvD → S → Prop) (Q : List V → Hp → Prop), Rel c G env s σ H → f env s k →
  (∀ G' H' vs ds env' s', Rel c G' env' s' σ H' → Ex G G' → PQL c G' H' ds vs → k ds env' s' → Q vs H') → t σ H Q
def wBNil : FB := fun env s k => k [] env s
def wBVar (i : Nat) (g : FB) : FB := fun env s k => at_ env i ≠ .no ∧ g env s fun ds env1 s1 => at_ env1 i ≠ .no ∧ k ((at_ env1 i).d :: ds) env1 s1
def wBCons (f : FE) (g : FB) : FB := fun env s k => f env s fun r env1 s1 => g env1 s1 fun ds env2 s2 => k (r.d :: ds) env2 s2
def isScal : D → Prop
  | .non => True
  | .bl _ => True
  | .int _ => True
  | .str _ => True
  | _ => False
def wCallB (F : Fn) (xq : Str → S → Prop) (fa : FB) : FE := fun env s k => fa env s fun ds env1 s1 => F ds s1 (fun r s2 => isScal r.d ∧ k r env1 s2) xq
section
variable {c : Cxt}
theorem Rel.pq {G H : Hp} {env : EnvD} {s : S} {σ : L2.St} (R : Rel c G env s σ H) {d : D} {v : V} (h : Rep c.K G d v) : PQ c G H d v := by
  cases d with
  | lst ds =>
    obtain ⟨p, vs, rfl, h2, h3⟩ := rep_lst h
    exact ⟨p, vs, rfl, (fun z => by rw [(R.st p z).1] at h2; cases h2), R.ex _ _ h2, h3⟩
  | _ => exact h
theorem at_relQ {G H : Hp} {env : EnvD} {s : S} {σ : L2.St} (R : Rel c G env s σ H) {i : Nat} (h : at_ env i ≠ .no) : ∃ v, σ[i]? = some (some v) ∧ PQ c G H (at_ env i).d v := by
  cases e : at_ env i with
  | no => exact absurd e h
  | val d =>
    obtain ⟨v, h1, h2⟩ := R.vals i d (at_val e (by simp))
    exact ⟨v, h1, R.pq h2⟩
  | own ds =>
    obtain ⟨v, h1, p, vs, h2, h3, h4, h5, h6, h7⟩ := R.owns i ds (at_val e (by simp))
    exact ⟨v, h1, p, vs, h2, h5, h6, h7⟩
theorem dab_nil : DAB c tNil wBNil := fun G env s σ H k Q R hf q => q G H [] [] env s R (Ex.refl G) rfl hf
theorem dab_var {t : TA} {g : FB} (i : Nat) (h : DAB c t g) : DAB c (tCons (tVar i) t) (wBVar i g) := by
  intro G env s σ H k Q R hf q
  obtain ⟨h0, hf⟩ := hf
  obtain ⟨v, h1, _⟩ := at_relQ R h0
  refine ⟨v, h1, h G env s σ H _ _ R hf fun G1 H1 vs ds env1 s1 R1 e1 p1 k1 => ?_⟩
  obtain ⟨v', h3, h4⟩ := at_relQ R1 k1.1
  have e : v' = v := by rw [h1] at h3; cases h3; rfl
  subst e
  exact q G1 H1 _ ((at_ env1 i).d :: ds) env1 s1 R1 e1 ⟨v', vs, rfl, h4, p1⟩ k1.2
theorem dab_cons {ta : TE} {fa : FE} {t : TA} {g : FB} (ha : DE c ta fa) (h : DAB c t g) : DAB c (tCons ta t) (wBCons fa g) := by
  intro G env s σ H k Q R hf q
  refine ha G env s σ H _ _ R hf fun G1 H1 v r env1 s1 R1 e1 rv1 k1 => ?_
  obtain ⟨G2, R2, e2, rp⟩ := R1.toVal rv1
  exact h G2 env1 s1 σ H1 _ _ R2 k1 fun G3 H3 vs ds env3 s3 R3 e3 p3 k3 => q G3 H3 (v :: vs) (r.d :: ds) env3 s3 R3 ((e1.trans e2).trans e3) ⟨v, vs, rfl, R3.pq (Rep.mono e3 _ rp), p3⟩ k3
theorem pql_known {G H : Hp} (ex : Ex G H) (ga : ∀ a, c.a0 = some a → G a = none) (gt : ∀ p ps, G p ≠ some (.tbl ps)) : ∀ {ds : List D} {vs : List V}, PQL c G H ds vs →
    ∃ G', Ex G G' ∧ Ex G' H ∧ (∀ a, c.a0 = some a → G' a = none) ∧ (∀ p ps, G' p ≠ some (.tbl ps)) ∧ RepL c.K G' ds vs
  | [], _, h => ⟨G, Ex.refl G, ex, ga, gt, by have h' : _ = [] := h; subst h'; exact RepL.nil⟩
  | d :: ds, _, h => by
    obtain ⟨v, r, rfl, h1, h2⟩ := h
    obtain ⟨G', e1, e2, e3, e4, e5⟩ := pql_known ex ga gt h2
    cases d with
    | lst es =>
      obtain ⟨p, vs, rfl, g1, g2, g3⟩ := h1
      have e6 : Ex G' (upd G' p (.lst vs)) := fun q o hq => by
        by_cases hb : q = p
        · subst hb
          rw [upd_same]
          have := e2 _ _ hq
          rw [g2] at this
          exact this
        · rw [upd_ne hb]; exact hq
      refine ⟨upd G' p (.lst vs), e1.trans e6, fun q o hq => ?_, fun a ha => ?_, fun q ps hq => ?_, RepL.cons ?_ (RepL.mono e6 ds e5)⟩
      · by_cases hb : q = p
        · subst hb; rw [upd_same] at hq; cases hq; exact g2
        · rw [upd_ne hb] at hq; exact e2 q o hq
      · rw [upd_ne (fun z => g1 (by rw [← z]; exact ha))]; exact e3 a ha
      · by_cases hb : q = p
        · subst hb; rw [upd_same] at hq; cases hq
        · rw [upd_ne hb] at hq; exact e4 q ps hq
      · simp only [Rep]
        exact ⟨p, vs, rfl, upd_same, RepL.mono (e1.trans e6) es g3⟩
    | _ => exact ⟨G', e1, e2, e3, e4, RepL.cons (Rep.mono e1 _ h1) e5⟩
theorem rep_scal {G G' : Hp} {d : D} {v : V} (h : isScal d) (r : Rep c.K G d v) : Rep c.K G' d v := by
  cases d with
  | non => simpa only [Rep] using r
  | bl b => simpa only [Rep] using r
  | int b => simpa only [Rep] using r
  | str b => simpa only [Rep] using r
  | _ => exact h.elim
end
section
variable {c : Cxt} {cl : Str → Addr} {E : XK} {xq : Str → S → Prop} {F : Fn} {t : TA} {fa : FA}
theorem de_call (hE : EOk c cl E xq) (h : DA c t fa) : DE c (tCall (spD c.K c.T cl F) [] E t) (wCall F xq fa) := by
  intro G env s σ H k Q R hf q
  refine h G env s σ H _ _ R hf fun G1 H1 vs ds env1 s1 R1 e1 rl k1 => ?_
  show spD c.K c.T cl F (vs ++ []) H1 Q E
  rw [List.append_nil]
  refine ⟨c.inn H1 G1, G1, s1, ds, _, xq, rfl, rfl, R1.inn, rl, k1, fun G' H' v r s' R' rv kk => ?_, fun G' H' cn s' R' hx => ?_⟩
  · exact q G' H' v r env1 s' (R1.out R') (e1.trans R'.gx) (RV.out R1 R' rv) kk
  · exact hE G' H' cn s' (R1.bare.out (G' := G') (H' := H') (s' := s') R') hx
theorem de_callLend (j : Nat) (hE : EOk c cl E xq) (h : DA c t fa) : DE c (tCall (spD c.K c.T cl F) [] E (tCons (tVar j) t)) (wCallLend F xq j fa) := by
  intro G env s σ H k Q R hf q
  unfold wCallLend at hf
  cases e : at_ env j with
  | no => rw [e] at hf; exact hf.elim
  | val d => rw [e] at hf; exact hf.elim
  | own ds0 =>
    rw [e] at hf
    obtain ⟨v, h1, _⟩ := R.owns j ds0 (at_val e (by simp))
    refine ⟨v, h1, h G env s σ H _ _ R hf fun G1 H1 vs ds env1 s1 R1 e1 rl k1 => ?_⟩
    show spD c.K c.T cl F ((v :: vs) ++ []) H1 Q E
    rw [List.append_nil]
    cases e3 : at_ env1 j with
    | no => rw [e3] at k1; exact k1.elim
    | val d => rw [e3] at k1; exact k1.elim
    | own ds1 =>
      rw [e3] at k1
      split at k1
      · rename_i x b heq
        cases heq
        obtain ⟨v', g1, p, ws, rfl, g3, g4, g5, g6, g7⟩ := R1.owns j _ (at_val e3 (by simp))
        rw [h1] at g1
        cases g1
        obtain ⟨w1, w2, rfl, r1, r2⟩ := repL2 g7
        have ew1 := rep_int r1
        subst ew1
        simp only [Rep] at r2
        subst r2
        have hn : H1 p ≠ none := fun z => by rw [z] at g6; cases g6
        have Ri : Rel { c with a0 := some p, H0 := noT H1, G0 := G1 } G1 [] (some ⟨x, b, p⟩) [] H1 :=
          { ex := R1.ex, st := fun a ha => (by cases ha; exact ⟨g3, x, b, rfl, g6⟩), sn := fun z => (by cases z), keep := fun _ _ h _ _ => (noT_some h).1, kn := fun _ h => noT_none h, h0n := fun p ps z => (noT_some z).2 ps rfl, tab := R1.tab, gnew := fun _ _ _ h => h, gx := Ex.refl G1, gtb := R1.gtb, len := rfl,
            vals := fun i d h => by simp at h, owns := fun i d h => by simp at h, dist := fun i j d e v h => by simp at h }
        have back : ∀ G' H' s', Rel { c with a0 := some p, H0 := noT H1, G0 := G1 } G' [] s' [] H' → ∃ x' b', s' = some ⟨x', b', p⟩ ∧ Rel c G' (env1.set j (.own [.int x', .bl b'])) s1 σ H' := by
          intro G' H' s' R'
          obtain ⟨kg, x', b', k2, k3⟩ := R'.st p rfl
          have eG : Ex G1 G' := R'.gx
          have kp : ∀ a o, H1 a = some o → a ≠ p → (∀ ps, o ≠ .tbl ps) → H' a = some o := fun a o e1 e2 e3 => R'.keep a o (noT_of e1 e3) (fun z => e2 (Option.some.inj z).symm) e3
          have at1 : ∀ i (y : Sl), i ≠ j → (env1.set j (.own [.int x', .bl b']))[i]? = some y → env1[i]? = some y := fun i y hi q => by rw [List.getElem?_set_ne (Ne.symm hi)] at q; exact q
          have atj : ∀ y, (env1.set j (.own [.int x', .bl b']))[j]? = some y → y = .own [.int x', .bl b'] := fun y q => by
            rw [List.getElem?_set_self (List.getElem?_eq_some_iff.mp (at_val e3 (by simp))).1] at q
            exact (Option.some.inj q).symm
          refine ⟨x', b', k2, { ex := R'.ex, st := fun a ha => ?_, sn := R1.sn, keep := fun a o h2 h3 h4 => ?_, kn := fun a h => R1.knN (R'.kn a h), h0n := R1.h0n, tab := R'.tab, gnew := fun a ws h2 h3 => (by obtain ⟨us, hu⟩ := R1.lstN h2; exact R'.gnew a us hu (R1.gnew a ws h2 h3)), gx := R1.gx.trans eG, gtb := R'.gtb, len := (by rw [List.length_set]; exact R1.len), vals := fun i d hi => ?_, owns := fun i es hi => ?_, dist := fun i l es fs w h8 h9 ha hb => ?_ }⟩
          · obtain ⟨m1, y, z, m2, m3⟩ := R1.st a ha
            have hap : a ≠ p := fun z => g5 (by rw [← z]; exact ha)
            exact ⟨R'.gnew a _ (noT_of m3 (fun _ z => by cases z)) m1, y, z, m2, kp a _ m3 hap (fun _ z => by cases z)⟩
          · have hap : a ≠ p := fun z => by rw [z, g4] at h2; cases h2
            exact kp a o (R1.keep a o h2 h3 h4) hap h4
          · have hij : i ≠ j := fun z => by
              rw [z] at hi
              have := atj _ hi
              cases this
            obtain ⟨w, m1, m2⟩ := R1.vals i d (at1 i _ hij hi)
            exact ⟨w, m1, Rep.mono eG d m2⟩
          · by_cases hij : i = j
            · subst hij
              have := atj _ hi
              cases this
              exact ⟨_, h1, p, _, rfl, kg, g4, g5, k3, RepL.cons (by simp only [Rep]) (RepL.one (by simp only [Rep]))⟩
            · obtain ⟨w, m1, a, us, rfl, m3, m4, m5, m6, m7⟩ := R1.owns i es (at1 i _ hij hi)
              have hap : a ≠ p := fun z => hij (R1.dist i j es _ (.ref a) (at1 i _ hij hi) (at_val e3 (by simp)) m1 (by rw [z]; exact h1))
              exact ⟨_, m1, a, us, rfl, R'.gnew a _ (noT_of m6 (fun _ z => by cases z)) m3, m4, m5, kp a _ m6 hap (fun _ z => by cases z), RepL.mono eG es m7⟩
          · have g : ∀ (i : Nat) (es : List D), (env1.set j (.own [.int x', .bl b']))[i]? = some (.own es) → ∃ es' : List D, env1[i]? = some (Sl.own es') := fun i es hi => by
              by_cases hij : i = j
              · subst hij; exact ⟨_, at_val e3 (by simp)⟩
              · exact ⟨es, at1 i _ hij hi⟩
            obtain ⟨f1, e1⟩ := g i es h8
            obtain ⟨f2, e2⟩ := g l fs h9
            exact R1.dist i l f1 f2 w e1 e2 ha hb
        refine ⟨{ c with a0 := some p, H0 := noT H1, G0 := G1 }, G1, some ⟨x, b, p⟩, .st p :: ds, _, _, rfl, rfl, Ri, RepL.cons (by simp only [Rep]) rl, k1 p, fun G' H' v r s' R' rv kk => ?_, fun G' H' cn s' R' hx => ?_⟩
        · obtain ⟨x', b', e5, kk⟩ := kk
          obtain ⟨x2, b2, e6, R2⟩ := back G' H' s' R'
          rw [e5] at e6
          cases e6
          refine q G' H' v r _ s1 R2 (e1.trans R'.gx) ?_ kk
          cases r with
          | no => exact rv
          | val d => exact rv
          | own es =>
            obtain ⟨⟨a, us, rfl, m3, m4, m5, m6, m7⟩, _⟩ := rv
            have m4' : noT H1 a = none := m4
            refine ⟨⟨a, us, rfl, m3, R1.knN m4', R1.a0neN m4', m6, m7⟩, fun i fs hi hv => ?_⟩
            obtain ⟨w, n1, a2, us2, rfl, n3, n4, n5, n6, n7⟩ := R2.owns i fs hi
            rw [n1] at hv
            cases hv
            by_cases hij : i = j
            · subst hij
              rw [h1] at n1
              cases n1
              rw [noT_of g6 (fun _ z => by cases z)] at m4'
              cases m4'
            · have hi' : env1[i]? = some (.own fs) := by rw [List.getElem?_set_ne (Ne.symm hij)] at hi; exact hi
              obtain ⟨w, o1, a3, us3, rfl, o3, o4, o5, o6, o7⟩ := R1.owns i fs hi'
              rw [n1] at o1
              cases o1
              rw [noT_of o6 (fun _ z => by cases z)] at m4'
              cases m4'
        · obtain ⟨x2, b2, e6, R2⟩ := back G' H' s' R'
          exact hE G' H' cn s1 R2.bare hx
      · exact k1.elim
theorem de_callB {g : FB} (hE : EOk c cl E xq) (h : DAB c t g) : DE c (tCall (spD c.K c.T cl F) [] E t) (wCallB F xq g) := by
  intro G env s σ H k Q R hf q
  refine h G env s σ H _ _ R hf fun G1 H1 vs ds env1 s1 R1 e1 rl k1 => ?_
  show spD c.K c.T cl F (vs ++ []) H1 Q E
  rw [List.append_nil]
  obtain ⟨G2, x1, x2, x3, x4, x5⟩ := pql_known R1.ex (fun a ha => (R1.st a ha).1) R1.gtb rl
  have Ri : Rel (c.inn H1 G2) G2 [] s1 [] H1 :=
    { ex := x2, st := fun a ha => ⟨x3 a ha, (R1.st a ha).2⟩, sn := R1.sn, keep := fun _ _ h _ _ => (noT_some h).1, kn := fun _ h => noT_none h, h0n := fun p ps z => (noT_some z).2 ps rfl, tab := R1.tab, gnew := fun _ _ _ h => h, gx := Ex.refl G2, gtb := x4, len := rfl,
      vals := fun i d h => by simp at h, owns := fun i d h => by simp at h, dist := fun i j d e v h => by simp at h }
  have back : ∀ {G' H' s'}, Rel (c.inn H1 G2) G' [] s' [] H' → Rel c G1 env1 s' σ H' := fun {G' H' s'} R' => by
    refine { ex := (x1.trans R'.gx).trans R'.ex, st := fun a ha => ⟨(R1.st a ha).1, (R'.st a ha).2⟩, sn := R'.sn, keep := fun p o h1 h2 h3 => R'.keep p o (noT_of (R1.keep p o h1 h2 h3) h3) h2 h3, kn := fun p h => R1.knN (R'.kn p h), h0n := R1.h0n, tab := R'.tab, gnew := R1.gnew, gx := R1.gx, gtb := R1.gtb, len := R1.len,
             vals := R1.vals, owns := fun i es hi => ?_, dist := R1.dist }
    obtain ⟨v, h1, p, us, rfl, h3, h4, h5, h6, h7⟩ := R1.owns i es hi
    exact ⟨_, h1, p, us, rfl, h3, h4, h5, R'.keep p _ (noT_of h6 (fun _ z => by cases z)) h5 (fun _ z => by cases z), h7⟩
  refine ⟨c.inn H1 G2, G2, s1, ds, _, xq, rfl, rfl, Ri, x5, k1, fun G' H' v r s' R' rv kk => ?_, fun G' H' cn s' R' hx => ?_⟩
  · refine q G1 H' v r env1 s' (back R') e1 ?_ kk.2
    cases r with
    | no => exact rv
    | val d => exact rep_scal kk.1 rv
    | own es => exact kk.1.elim
  · exact hE G1 H' cn s' (back R').bare hx
def wRaise (xq : Str → S → Prop) (cn : Str) : FS := fun _ s _ => xq cn s
theorem ds_raise (hE : EOk c cl E xq) (cn : Str) : DS c (fun _ _ H => E (.ref (cl cn)) none H) (wRaise xq cn) := fun G env s σ H k D' R hf q => hE G H cn s R.bare hf
end
def wipeD (env : EnvD) : List Nat → EnvD
  | [] => env
  | v :: vs => (wipeD env vs).set v .no
def noOwn (env : EnvD) : List Nat → Prop
  | [] => True
  | v :: vs => (match at_ env v with | .own _ => False | _ => True) ∧ noOwn env vs
def compW (fg : FG) (ft : FT) (fe : FE) (vs : List Nat) (k : List D → EnvD → S → Prop) : List D → List D → EnvD → S → Prop
  | [], acc, env, s => k acc env s
  | d :: ds, acc, env, s => fg (.val d) env s fun env1 s1 => ft env1 s1 fun b env2 s2 => if b = true then fe env2 s2 fun r env3 s3 => compW fg ft fe vs k ds (acc ++ [r.d]) (wipeD env3 vs) s3 else compW fg ft fe vs k ds acc (wipeD env2 vs) s2
def backD (env0 env : EnvD) : List Nat → EnvD
  | [] => env
  | v :: vs => (backD env0 env vs).set v (at_ env0 v)
def wComp (fi : FI) (fg : FG) (ft : FT) (fe : FE) (vs : List Nat) : FE := fun env s k => fi env s fun ds env1 s1 => noOwn env1 vs ∧ ds.length < sizeLine ∧ compW fg ft fe vs (fun acc env2 s2 => k (.own acc) (backD env1 env2 vs) s2) ds [] (wipeD env1 vs) s1
def wYes : FT := fun env s k => k true env s
def GW (g : TG) (vs : List Nat) : Prop := ∀ (v : V) (σ : L2.St) (H : Hp) (Q : L2.St → Hp → Prop), g v σ H (fun σ2 H2 => wipe σ2 vs = wipe σ vs → Q σ2 H2) → g v σ H fun σ2 H2 => wipe σ2 vs = wipe σ vs ∧ Q σ2 H2
def GWs (g : TGs) (vs : List Nat) : Prop := ∀ (us : List V) (σ : L2.St) (H : Hp) (Q : L2.St → Hp → Prop), g us σ H (fun σ2 H2 => wipe σ2 vs = wipe σ vs → Q σ2 H2) → g us σ H fun σ2 H2 => wipe σ2 vs = wipe σ vs ∧ Q σ2 H2
section
variable {c : Cxt}
theorem dt_yes : DT c tYes wYes := fun G env s σ H k Q R hf q => q G H true env s R (Ex.refl G) hf
theorem wipe_get_mem {σ : L2.St} {i : Nat} : ∀ {vs : List Nat}, i ∈ vs → i < σ.length → (wipe σ vs)[i]? = some none
  | [], h, _ => by simp at h
  | v :: vs, h, hl => by
    unfold wipe
    by_cases hv : v = i
    · subst hv
      rw [List.getElem?_set_self (by rw [wipe_length]; exact hl)]
    · rw [List.getElem?_set_ne hv]
      rcases List.mem_cons.mp h with e | h
      · exact absurd e.symm hv
      · exact wipe_get_mem h hl
theorem wipe_keep {σ : L2.St} {i : Nat} : ∀ {vs : List Nat}, i ∉ vs → (wipe σ vs)[i]? = σ[i]?
  | [], _ => rfl
  | v :: vs, h => by
    simp only [List.mem_cons, not_or] at h
    unfold wipe
    rw [List.getElem?_set_ne (fun e => h.1 e.symm)]
    exact wipe_keep h.2
theorem wipe_ext {σ τ : L2.St} {vs : List Nat} (hl : σ.length = τ.length) (h : ∀ i, i ∉ vs → σ[i]? = τ[i]?) : wipe σ vs = wipe τ vs := by
  refine List.ext_getElem? fun i => ?_
  by_cases hi : i ∈ vs
  · by_cases hl2 : i < σ.length
    · rw [wipe_get_mem hi hl2, wipe_get_mem hi (by rw [← hl]; exact hl2)]
    · rw [List.getElem?_eq_none (by rw [wipe_length]; omega), List.getElem?_eq_none (by rw [wipe_length]; omega)]
  · rw [wipe_keep hi, wipe_keep hi]
    exact h i hi
theorem wipe_set {σ : L2.St} {i : Nat} {x : Option V} {vs : List Nat} (h : i ∈ vs) : wipe (σ.set i x) vs = wipe σ vs :=
  wipe_ext (by rw [List.length_set]) fun j hj => by rw [List.getElem?_set_ne (fun e => hj (by rw [← e]; exact h))]
theorem wipe_wipe {σ : L2.St} {vs : List Nat} : wipe (wipe σ vs) vs = wipe σ vs := wipe_ext (wipe_length _ _) fun j hj => wipe_keep hj
theorem gw_name {i : Nat} {vs : List Nat} (h : i ∈ vs) : GW (gName i) vs := fun v σ H Q q => ⟨wipe_set h, q (wipe_set h)⟩
theorem gws_nil {vs : List Nat} : GWs gNil vs := fun us σ H Q q => ⟨q.1, rfl, q.2 rfl⟩
theorem gws_cons {g : TG} {gs : TGs} {vs : List Nat} (mono : ∀ (us : List V) (σ : L2.St) (H : Hp) (Q Q' : L2.St → Hp → Prop), (∀ a b, Q a b → Q' a b) → gs us σ H Q → gs us σ H Q') {i : Nat} (hg : g = gName i) (h : i ∈ vs) (hs : GWs gs vs) : GWs (gCons g gs) vs := by
  subst hg
  intro us σ H Q q
  obtain ⟨v, r, e, q⟩ := q
  refine ⟨v, r, e, ?_⟩
  have q' : gs r (σ.set i (some v)) H fun σ2 H2 => wipe σ2 vs = wipe σ vs → Q σ2 H2 := q
  have := hs r (σ.set i (some v)) H Q (by rw [wipe_set h]; exact q')
  rw [wipe_set h] at this
  exact this
theorem gs_mono_nil : ∀ (us : List V) (σ : L2.St) (H : Hp) (Q Q' : L2.St → Hp → Prop), (∀ a b, Q a b → Q' a b) → gNil us σ H Q → gNil us σ H Q' := fun _ _ _ _ _ h q => ⟨q.1, h _ _ q.2⟩
theorem gw_tup2 {i j n : Nat} {vs : List Nat} (hi : i ∈ vs) (hj : j ∈ vs) : GW (gTup c.K n (gCons (gName i) (gCons (gName j) gNil))) vs := by
  intro v σ H Q q
  obtain ⟨a, xs, e, h1, h2, x, r, e2, y, r2, e3, e4, q⟩ := q
  have e5 : wipe ((σ.set i (some x)).set j (some y)) vs = wipe σ vs := by rw [wipe_set hj, wipe_set hi]
  exact ⟨a, xs, e, h1, h2, x, r, e2, y, r2, e3, e4, e5, q e5⟩
theorem gw_tup3 {i j l n : Nat} {vs : List Nat} (hi : i ∈ vs) (hj : j ∈ vs) (hl : l ∈ vs) : GW (gTup c.K n (gCons (gName i) (gCons (gName j) (gCons (gName l) gNil)))) vs := by
  intro v σ H Q q
  obtain ⟨a, xs, e, h1, h2, x, r, e2, y, r2, e3, z, r3, e4, e6, q⟩ := q
  have e5 : wipe (((σ.set i (some x)).set j (some y)).set l (some z)) vs = wipe σ vs := by rw [wipe_set hl, wipe_set hj, wipe_set hi]
  exact ⟨a, xs, e, h1, h2, x, r, e2, y, r2, e3, z, r3, e4, e6, e5, q e5⟩
theorem wipeD_length (env : EnvD) : ∀ vs : List Nat, (wipeD env vs).length = env.length
  | [] => rfl
  | v :: vs => by unfold wipeD; rw [List.length_set, wipeD_length env vs]
theorem wipeD_some {env : EnvD} {i : Nat} {x : Sl} (hx : x ≠ .no) : ∀ {vs : List Nat}, (wipeD env vs)[i]? = some x → env[i]? = some x ∧ i ∉ vs
  | [], h => ⟨h, by simp⟩
  | v :: vs, h => by
    unfold wipeD at h
    by_cases hi : v = i
    · subst hi
      by_cases hv : v < (wipeD env vs).length
      · rw [List.getElem?_set_self hv] at h; cases h; exact absurd rfl hx
      · rw [List.getElem?_eq_none (by simpa using hv)] at h; cases h
    · rw [List.getElem?_set_ne hi] at h
      obtain ⟨h1, h2⟩ := wipeD_some hx h
      exact ⟨h1, by simp only [List.mem_cons, not_or]; exact ⟨fun e => hi e.symm, h2⟩⟩
theorem wipeD_keep {env : EnvD} {i : Nat} : ∀ {vs : List Nat}, i ∉ vs → (wipeD env vs)[i]? = env[i]?
  | [], _ => rfl
  | v :: vs, h => by
    simp only [List.mem_cons, not_or] at h
    unfold wipeD
    rw [List.getElem?_set_ne (fun e => h.1 e.symm)]
    exact wipeD_keep h.2
theorem Rel.wipe {G H : Hp} {env : EnvD} {s : S} {σ : L2.St} (R : Rel c G env s σ H) (vs : List Nat) : Rel c G (wipeD env vs) s (L2.wipe σ vs) H :=
  { R with len := (by rw [wipeD_length, wipe_length]; exact R.len)
           vals := fun i d hi => (by
             obtain ⟨h1, h2⟩ := wipeD_some (by simp) hi
             rw [wipe_keep h2]
             exact R.vals i d h1)
           owns := fun i ds hi => (by
             obtain ⟨h1, h2⟩ := wipeD_some (by simp) hi
             rw [wipe_keep h2]
             exact R.owns i ds h1)
           dist := fun i j ds es v h1 h2 h3 h4 => (by
             obtain ⟨a1, a2⟩ := wipeD_some (by simp) h1
             obtain ⟨b1, b2⟩ := wipeD_some (by simp) h2
             rw [wipe_keep a2] at h3
             rw [wipe_keep b2] at h4
             exact R.dist i j ds es v a1 b1 h3 h4) }
theorem at_of : ∀ {env : EnvD} {i : Nat} {x : Sl}, env[i]? = some x → at_ env i = x
  | [], i, x, h => by simp at h
  | y :: r, 0, x, h => by simpa [at_] using h
  | y :: r, i + 1, x, h => at_of (env := r) (i := i) (by simpa using h)
theorem noOwn_at {env : EnvD} : ∀ {vs : List Nat} {i : Nat} {es : List D}, noOwn env vs → i ∈ vs → env[i]? ≠ some (.own es)
  | [], i, es, _, h => by simp at h
  | v :: vs, i, es, hn, h => by
    rcases List.mem_cons.mp h with rfl | h
    · intro e
      have h1 := hn.1
      rw [at_of e] at h1
      exact h1
    · exact noOwn_at hn.2 h
theorem backD_length (env0 env : EnvD) : ∀ vs : List Nat, (backD env0 env vs).length = env.length
  | [] => rfl
  | v :: vs => by unfold backD; rw [List.length_set, backD_length env0 env vs]
theorem backD_keep {env0 env : EnvD} {i : Nat} : ∀ {vs : List Nat}, i ∉ vs → (backD env0 env vs)[i]? = env[i]?
  | [], _ => rfl
  | v :: vs, h => by
    simp only [List.mem_cons, not_or] at h
    unfold backD
    rw [List.getElem?_set_ne (fun e => h.1 e.symm)]
    exact backD_keep h.2
theorem backD_mem {env0 env : EnvD} {i : Nat} {x : Sl} : ∀ {vs : List Nat}, i ∈ vs → (backD env0 env vs)[i]? = some x → x = at_ env0 i
  | [], h, _ => by simp at h
  | v :: vs, h, e => by
    unfold backD at e
    by_cases hv : v = i
    · subst hv
      by_cases hl : v < (backD env0 env vs).length
      · rw [List.getElem?_set_self hl] at e; exact (Option.some.inj e).symm
      · rw [List.getElem?_eq_none (by rw [List.length_set]; omega)] at e; cases e
    · rw [List.getElem?_set_ne hv] at e
      rcases List.mem_cons.mp h with q | q
      · exact absurd q.symm hv
      · exact backD_mem q e
theorem Rel.unwipe {G G' H H' : Hp} {env env2 : EnvD} {s s' : S} {σ : L2.St} {vs : List Nat} (R : Rel c G env s σ H) (e : Ex G G') (hn : noOwn env vs) (R' : Rel c G' env2 s' (L2.wipe σ vs) H') : Rel c G' (backD env env2 vs) s' σ H' := by
  have own : ∀ (i : Nat) (ds : List D), (backD env env2 vs)[i]? = some (.own ds) → i ∉ vs ∧ env2[i]? = some (.own ds) := fun i ds hi => by
    by_cases hv : i ∈ vs
    · have h1 := backD_mem hv hi
      exact absurd (at_val h1.symm (by simp)) (noOwn_at hn hv)
    · exact ⟨hv, by rw [backD_keep hv] at hi; exact hi⟩
  exact { R' with len := (by rw [backD_length, R'.len, wipe_length])
                  vals := fun i d hi => (by
                    by_cases hv : i ∈ vs
                    · have h1 := backD_mem hv hi
                      obtain ⟨v, h1, h2⟩ := R.vals i d (at_val h1.symm (by simp))
                      exact ⟨v, h1, Rep.mono e d h2⟩
                    · rw [backD_keep hv] at hi
                      have := R'.vals i d hi
                      rwa [wipe_keep hv] at this)
                  owns := fun i ds hi => (by
                    obtain ⟨hv, h1⟩ := own i ds hi
                    have := R'.owns i ds h1
                    rwa [wipe_keep hv] at this)
                  dist := fun i j ds es v h1 h2 h3 h4 => (by
                    obtain ⟨a1, a2⟩ := own i ds h1
                    obtain ⟨b1, b2⟩ := own j es h2
                    exact R'.dist i j ds es v a2 b2 (by rw [wipe_keep a1]; exact h3) (by rw [wipe_keep b1]; exact h4)) }
theorem Rel.hide {G H : Hp} {env : EnvD} {s : S} {σ : L2.St} (R : Rel c G env s σ H) {p : Addr} {o : HO} (h : H p = some o) (hg : G p = none) (h0 : c.H0 p = none) (ap : Apart env σ (.ref p)) (ho : ∀ ps, o ≠ .tbl ps := by intro _ z; cases z) : Rel (c.h0 (upd c.H0 p o)) G env s σ H :=
  { R with keep := fun q u h1 h2 h3 => (by
             have h1 : upd c.H0 p o q = some u := h1
             by_cases hb : q = p
             · subst hb
               rw [upd_same] at h1
               cases h1
               exact h
             · rw [upd_ne hb] at h1
               exact R.keep q u h1 h2 h3)
           kn := fun q hq => (by
             have hb : q ≠ p := fun z => by rw [z, h] at hq; cases hq
             show upd c.H0 p o q = none
             rw [upd_ne hb]
             exact R.kn q hq)
           h0n := fun q ps z => (by
             have z : upd c.H0 p o q = some (.tbl ps) := z
             by_cases hb : q = p
             · subst hb; rw [upd_same] at z; exact ho ps (Option.some.inj z)
             · rw [upd_ne hb] at z; exact R.h0n q ps z)
           gnew := fun q ws h1 h2 => (by
             by_cases hb : q = p
             · rw [hb]; exact hg
             · have h1' : upd c.H0 p o q = some (.lst ws) := h1
               rw [upd_ne hb] at h1'
               exact R.gnew q ws h1' h2)
           owns := fun i ds hi => (by
             obtain ⟨v, e1, q, vs, rfl, e3, e4, e5⟩ := R.owns i ds hi
             have hb : q ≠ p := fun z => ap i ds hi (by rw [e1, z])
             exact ⟨_, e1, q, vs, rfl, e3, by show upd c.H0 p o q = none; rw [upd_ne hb]; exact e4, e5⟩) }
theorem Rel.unhide {G H : Hp} {env : EnvD} {s : S} {σ : L2.St} {p : Addr} {o : HO} (h0 : c.H0 p = none) (R : Rel (c.h0 (upd c.H0 p o)) G env s σ H) : Rel c G env s σ H := by
  have up : ∀ q u, c.H0 q = some u → (upd c.H0 p o) q = some u := fun q u e => by rw [upd_ne (fun z => by rw [z, h0] at e; cases e)]; exact e
  have dn : ∀ q, upd c.H0 p o q = none → c.H0 q = none := fun q e => by
    by_cases hb : q = p
    · rw [hb, upd_same] at e; cases e
    · rw [upd_ne hb] at e; exact e
  exact { R with keep := fun q u h1 h2 h3 => R.keep q u (up q u h1) h2 h3
                 kn := fun q hq => dn q (R.kn q hq)
                 h0n := fun q ps z => R.h0n q ps (up q _ z)
                 gnew := fun q ws h1 h2 => R.gnew q ws (up q _ h1) h2
                 owns := fun i ds hi => (by
                   obtain ⟨v, e1, q, vs, rfl, e3, e4, e5⟩ := R.owns i ds hi
                   exact ⟨_, e1, q, vs, rfl, e3, dn q e4, e5⟩) }
theorem de_comp {wi : TI} {fi : FI} {g : TG} {fg : FG} {tt : TT} {ft : FT} {te : TE} {fe : FE} {vs : List Nat} (hi : DI c wi fi) (hg : ∀ H0, DG (c.h0 H0) g fg) (ht : ∀ H0, DT (c.h0 H0) tt ft) (he : ∀ H0, DE (c.h0 H0) te fe) (hw : GW g vs) :
    DE c (tLc wi g tt te vs) (wComp fi fg ft fe vs) := by
  intro G env s σ H k Q R hf q
  refine hi G env s σ H _ _ R hf fun G1 H1 J ds env1 s1 R1 e1 w k1 => ?_
  obtain ⟨hn, hlen, k1⟩ := k1
  obtain ⟨n, Gd, Y, hnn, wk, hG, hY⟩ := w.ex
  intro Dl hD
  have h0 : c.H0 Dl = none := R1.kn Dl hD
  have ha0 : c.a0 ≠ some Dl := R1.a0ne hD
  have R1n := R1.new (o := .lst []) hD (fun _ z => by cases z)
  have ap0 := R1.newApart hD
  have apw : Apart (wipeD env1 vs) (L2.wipe σ vs) (.ref Dl) := fun i es h1 h2 => by
    obtain ⟨a1, a2⟩ := wipeD_some (by simp) h1
    rw [wipe_keep a2] at h2
    exact ap0 i es a1 h2
  have apo : ∀ {avs G4 env4 s4 σ4 H4}, Rel (c.h0 (upd c.H0 Dl (.lst avs))) G4 env4 s4 σ4 H4 → Apart env4 σ4 (.ref Dl) := fun {avs G4 env4 s4 σ4 H4} R4 i es h1 h2 => by
    obtain ⟨v, e1, q, us, rfl, e3, e4, _⟩ := R4.owns i es h1
    rw [e1] at h2
    cases h2
    have e4' : upd c.H0 Dl (.lst avs) Dl = none := e4
    rw [upd_same] at e4'
    cases e4'
  have HDl : ∀ {avs G4 env4 s4 σ4 H4}, Rel (c.h0 (upd c.H0 Dl (.lst avs))) G4 env4 s4 σ4 H4 → H4 Dl = some (.lst avs) ∧ G4 Dl = none := fun {avs G4 env4 s4 σ4 H4} R4 =>
    ⟨R4.keep Dl _ upd_same ha0 (fun _ z => by cases z), R4.gnew Dl avs (by show upd c.H0 Dl _ Dl = some (.lst avs); rw [upd_same]) (by
      have : c.G0 Dl = none := by
        cases q : c.G0 Dl with
        | none => rfl
        | some o => have := R1.ex _ _ (R1.gx _ _ q); rw [hD] at this; cases this
      exact this)⟩
  refine lc_it wk (fun i H' => ∃ G' acc avs env' s', Rel (c.h0 (upd c.H0 Dl (.lst avs))) G' env' s' (L2.wipe σ vs) H' ∧ Ex G1 G' ∧ RepL c.K G' acc avs ∧ acc.length ≤ i ∧
      compW fg ft fe vs (fun acc env2 s2 => k (.own acc) (backD env1 env2 vs) s2) (ds.drop i) acc env' s') ?_ ?_ ?_ ?_
  · exact ⟨G1, [], [], _, s1, (R1n.wipe vs).hide upd_same (R1.g0 hD) h0 apw, Ex.refl G1, RepL.nil, Nat.le_refl _, by simpa using k1⟩
  · rintro i H' _ ⟨G', acc, avs, env', s', R', e', _⟩
    exact hG ⟨_, Ex.new h0⟩ G' H' _ s' _ R' e'
  · rintro i x H' H3 hin ⟨G', acc, avs, env', s', R', e', hacc, hal, kk⟩ y
    obtain ⟨G3, d, R3, e3, hd, rd⟩ := hY i ⟨_, Ex.new h0⟩ G' H' _ s' _ x H3 hin R' e' y
    have hdrop : ds.drop i = d :: ds.drop (i + 1) := by
      obtain ⟨hl, hx⟩ := List.getElem?_eq_some_iff.mp hd
      rw [List.drop_eq_getElem_cons hl, hx]
    rw [hdrop] at kk
    have hw' : ∀ (Q : L2.St → Hp → Prop), g x (L2.wipe σ vs) H3 (fun σ2 H2 => L2.wipe σ2 vs = L2.wipe σ vs → Q σ2 H2) → g x (L2.wipe σ vs) H3 (fun σ2 H2 => L2.wipe σ2 vs = L2.wipe σ vs ∧ Q σ2 H2) := by
      intro Q q
      have := hw x (L2.wipe σ vs) H3 Q (by rw [wipe_wipe]; exact q)
      rw [wipe_wipe] at this
      exact this
    refine hw' _ ?_
    refine hg _ G3 _ s' _ H3 x (.val d) _ _ R3 rd kk fun G4 H4 env4 s4 σ4 R4 e4 k4 => ?_
    intro hwipe
    refine ht _ G4 env4 s4 σ4 H4 _ _ R4 k4 fun G5 H5 b env5 s5 R5 e5 k5 => ?_
    have fin : ∀ {G6 env6 s6 H6}, Rel (c.h0 (upd c.H0 Dl (.lst avs))) G6 env6 s6 σ4 H6 → Rel (c.h0 (upd c.H0 Dl (.lst avs))) G6 (wipeD env6 vs) s6 (L2.wipe σ vs) H6 := fun {G6 env6 s6 H6} R6 => by
      have := R6.wipe vs
      rw [hwipe] at this
      exact this
    cases b with
    | true =>
      refine he _ G5 env5 s5 σ4 H5 _ _ R5 k5 fun G6 H6 v r env6 s6 R6 e6 rv6 k6 => ?_
      obtain ⟨G7, R7, e7, rp⟩ := R6.toVal rv6
      have R8 := fin R7
      obtain ⟨hl, hg7⟩ := HDl R8
      have eAll : Ex G' G7 := (((e3.trans e4).trans e5).trans e6).trans e7
      have hacc7 : RepL c.K G7 (acc ++ [r.d]) (avs ++ [v]) := RepL.append (RepL.mono eAll acc hacc) (RepL.one rp)
      refine ⟨avs, hl, by rw [hacc.length]; omega, G7, acc ++ [r.d], avs ++ [v], _, s6, ?_, e'.trans eAll, hacc7, by simp; omega, k6⟩
      have ap9 := apo R8
      have R9 := R8.unhide h0
      have R10 : Rel c G7 (wipeD env6 vs) s6 (L2.wipe σ vs) (upd H6 Dl (.lst (avs ++ [v]))) :=
        { R9 with ex := R9.ex.mut hg7
                  st := fun a ha => (by
                    obtain ⟨m1, y, z, m2, m3⟩ := R9.st a ha
                    exact ⟨m1, y, z, m2, by rw [upd_ne (fun z => ha0 (by rw [← z]; exact ha))]; exact m3⟩)
                  keep := fun p o h1 h2 h3 => (by
                    rw [upd_ne (fun z => by rw [z, h0] at h1; cases h1)]
                    exact R9.keep p o h1 h2 h3)
                  kn := fun p hp => (by
                    by_cases hb : p = Dl
                    · rw [hb]; exact h0
                    · rw [upd_ne hb] at hp; exact R9.kn p hp)
                  tab := Tabs.updL R9.tab hl
                  owns := fun i es hi => (by
                    obtain ⟨w, n1, p, us, rfl, n3, n4, n5, n6, n7⟩ := R9.owns i es hi
                    have hb : p ≠ Dl := fun z => ap9 i es hi (by rw [n1, z])
                    exact ⟨_, n1, p, us, rfl, n3, n4, n5, by rw [upd_ne hb]; exact n6, n7⟩) }
      exact R10.hide upd_same hg7 h0 ap9
    | false =>
      exact ⟨G5, acc, avs, _, s5, fin R5, e'.trans ((e3.trans e4).trans e5), RepL.mono ((e3.trans e4).trans e5) acc hacc, by omega, k5⟩
  · rintro H' ⟨G', acc, avs, env', s', R', e', hacc, hal, kk⟩
    rw [hnn, List.drop_length] at kk
    obtain ⟨hl, hgD⟩ := HDl R'
    have ap9 := apo R'
    have R2 := R1.unwipe e' hn (R'.unhide h0)
    refine q G' H' _ (.own acc) _ s' R2 (e1.trans e') ⟨⟨Dl, avs, rfl, hgD, h0, ha0, hl, hacc⟩, fun i es h1 h2 => ?_⟩ kk
    by_cases hv : i ∈ vs
    · exact absurd (at_val (backD_mem hv h1).symm (by simp)) (noOwn_at hn hv)
    · rw [backD_keep hv] at h1
      exact ap9 i es h1 (by rw [wipe_keep hv]; exact h2)
end
def start_ (N : List Str) (ds : List D) : EnvD := ds.map Sl.val ++ List.replicate (N.length - ds.length) Sl.no
def kBody (k : Sl → S → Prop) : Fl → Prop := fun fl => match fl with
  | .rt r s => k r s
  | .nx _ s => k (.val .non) s
  | _ => False
section
variable {P : Program} {w : World} {K : PySem.W.Frag} {mg : Str → Option Value} {base : Heap} {T : List (Addr × Str)} {cl : Str → Addr}
theorem rel_start {c : Cxt} {G H : Hp} {s : S} {ds : List D} {vs : List V} {N : List Str} (R : Rel c G [] s [] H) (rl : RepL c.K G ds vs) : Rel c G (start_ N ds) s (L2.start N vs) H := by
  have hl := rl.length
  refine { R with len := ?_, vals := fun i d hi => ?_, owns := fun i es hi => ?_, dist := fun i j es fs v h1 _ _ _ => ?_ }
  · unfold start_ L2.start
    simp [hl]
  · unfold start_ at hi
    unfold L2.start
    by_cases h : i < ds.length
    · rw [List.getElem?_append_left (by simpa using h), List.getElem?_map] at hi
      cases e : ds[i]? with
      | none => rw [e] at hi; cases hi
      | some d' =>
        rw [e] at hi
        cases hi
        obtain ⟨v, h1, h2⟩ := RepL.get rl e
        refine ⟨v, ?_, h2⟩
        rw [List.getElem?_append_left (by simpa [hl] using h), List.getElem?_map, h1]
        rfl
    · rw [List.getElem?_append_right (by simpa using h), List.getElem?_replicate] at hi
      split at hi <;> cases hi
  · unfold start_ at hi
    by_cases h : i < ds.length
    · rw [List.getElem?_append_left (by simpa using h), List.getElem?_map] at hi
      cases e : ds[i]? with
      | none => rw [e] at hi; cases hi
      | some d' => rw [e] at hi; cases hi
    · rw [List.getElem?_append_right (by simpa using h), List.getElem?_replicate] at hi
      split at hi <;> cases hi
  · unfold start_ at h1
    by_cases h : i < ds.length
    · rw [List.getElem?_append_left (by simpa using h), List.getElem?_map] at h1
      cases e : ds[i]? with
      | none => rw [e] at h1; cases h1
      | some d' => rw [e] at h1; cases h1
    · rw [List.getElem?_append_right (by simpa using h), List.getElem?_replicate] at h1
      split at h1 <;> cases h1
theorem Fun.okD {x qual : Str} {st : Stmt} {f : Addr} {fd : FuncData} {N ps : List Str} {k : Nat} {F : Fn} {fs : (Str → S → Prop) → FS} (Fu : L2.Fun K x qual st f fd) (S : FnScope N ps (defScope st))
    (len : ∀ ds s k xq, F ds s k xq → ds.length = ps.length)
    (hF : ∀ ds s k xq, F ds s k xq → fs xq (start_ N ds) s (kBody k))
    (hbody : ∀ (cdv : Value) (A : Around) (outer : List Env) (s : Shared) (H : Hp) (E : XK), Room k (A.deeper (envOfC qual (defScope st) s.heap.objs.size f cdv)) →
      ∃ t, PSs (cxOf (L2.CX P w) P w K mg base N qual (defScope st) f cdv A outer s H E) (defBody st) t ∧ ∀ (c : Cxt) (xq : Str → DL.S → Prop), c.K = K → c.T = T → EOk c cl E xq → DS c t (fs xq)) :
    FnOk P w K mg base (L2.CX P w) (k + 1) f fd ps (spD K T cl F) := by
  refine Fu.okX S (fun vs H Q E h => ?_) (fun cdv A outer s H vs Q E hr h => ?_)
  · obtain ⟨c, G, s, ds, k, xq, _, _, _, rl, hf, _⟩ := h
    rw [rl.length]
    exact len ds s k xq hf
  · obtain ⟨t, h1, h2⟩ := hbody cdv A outer s H E hr
    obtain ⟨c, G, s', ds, k, xq, hK, hT, R, rl, hf, hq, hx⟩ := h
    refine ⟨t, h1, ?_⟩
    refine h2 c xq hK hT (fun G' H' cn s2 R' hc => ?_) G (start_ N ds) s' (L2.start N vs) H (kBody k) _ (rel_start R rl) (hF ds s' k xq hf) ⟨fun G' H' env' s2 σ' R' e kk => ?_, fun G' H' s2 v r R' e rv kk => hq G' H' v r s2 R' rv kk, fun _ _ _ _ _ _ _ kk => kk.elim, fun _ _ _ _ _ _ _ kk => kk.elim⟩
    · exact hx G' H' cn s2 R' hc
    · exact hq G' H' .non (.val .non) s2 R'.bare (by simp only [RV, Rep]) kk
end
end DL
set_option Elab.async false
set_option linter.all false
set_option maxRecDepth 100000
set_option maxHeartbeats 1000000
namespace DL
open PySem L2 PySem.Spec PyProof.Rows
open Evl (Ex)
structure Def (P : Program) (w : World) (K : PySem.W.Frag) (mg : Str → Option Value) (base : Heap) (T : List (Addr × Str)) (f : Str) (ps : List Str) (k : Nat) (F : Fn) : Prop where
  ex : ∃ (fa : Addr) (fd : FuncData), mg f = some (.ref fa) ∧ PySem.W.keepIn K (.ref fa) = true ∧ Binds K fd ps [] ∧ FnOk P w K mg base (L2.CX P w) k fa fd ps (spD K T (He.ga K) F) ∧
    ∃ oc od osl, K.lookup fa = some ⟨oc, od, .func fd, osl⟩
theorem Def.mono {P : Program} {w : World} {K : PySem.W.Frag} {mg : Str → Option Value} {base : Heap} {T : List (Addr × Str)} {f : Str} {ps : List Str} {j k : Nat} {F : Fn} (d : Def P w K mg base T f ps j F) (h : j ≤ k) : Def P w K mg base T f ps k F := by
  obtain ⟨fa, fd, h1, h2, h3, h4, h5⟩ := d.ex
  exact ⟨fa, fd, h1, h2, h3, h4.mono h, h5⟩
section
variable {X : Cx} {K : PySem.W.Frag} {T : List (Addr × Str)} {f : Str} {ps : List Str} {k : Nat} {F : Fn} {E : XK} {e e1 e2 e3 o : Expr} {es : List Expr} {t : TA} {te : TE} {p pos p1 p2 p3 apos cpos tpos : Pos} {tg : Expr} {elts : List Expr} {kk : Nat}
theorem pe_def (Dd : Def X.prog X.w K X.mg X.base T f ps k F) (hr : Room k X.A) (hx : Passes (L2.CX X.prog X.w) X E) (ha : PA X (e :: es) t) (hK : X.K = K := by rfl) (hg : Gl X f := by rfl) (hdb : (f == ("__debug__" : Str)) = false := by decide)
    (he : starEach (e :: es) X.env = (false, eval e X.env) :: starEach es X.env := by rfl) (hpl : (backTo pos (starEach es X.env)).any (·.1) = false := by rfl) : PE X (.Call (.Name f p) (e :: es) [] pos) (tCall (spD K T (He.ga K) F) [] E t) := by
  subst hK
  obtain ⟨fa, fd, h1, h2, h3, h4, _⟩ := Dd.ex
  exact pe_call h4 hr hg h1 h2 h3 .nil hx ha hdb he hpl
variable (K)
theorem pe_len (hm : X.mg "len" = none) (ha : PE X e te) (hK : X.K = K := by rfl) (hg : Gl X "len" := by rfl) (hs : starEach [e] X.env = (false, eval e X.env) :: starEach [] X.env := by rfl) : PE X (.Call (.Name "len" p) [e] [] pos) (tCB (rLenX K) (tCons te tNil)) := by
  subst hK
  exact pe_callB call_len hg hm PySem.boot_len (pa_cons ha pa_nil hs) (he := hs)
theorem pe_list (hm : X.mg "list" = none) (ha : PE X e te) (hK : X.K = K := by rfl) (hg : Gl X "list" := by rfl) (hs : starEach [e] X.env = (false, eval e X.env) :: starEach [] X.env := by rfl) : PE X (.Call (.Name "list" p) [e] [] pos) (tCB (rListX K) (tCons te tNil)) := by
  subst hK
  exact pe_callTy call_list_of hg hm boot_list (pa_cons ha pa_nil hs) (he := hs)
theorem pe_tuple (hm : X.mg "tuple" = none) (ha : PE X e te) (hK : X.K = K := by rfl) (hg : Gl X "tuple" := by rfl) (hs : starEach [e] X.env = (false, eval e X.env) :: starEach [] X.env := by rfl) : PE X (.Call (.Name "tuple" p) [e] [] pos) (tCB (rTupX K) (tCons te tNil)) := by
  subst hK
  exact pe_callTy call_tuple_of hg hm boot_tuple (pa_cons ha pa_nil hs) (he := hs)
theorem pe_abs (hm : X.mg "abs" = none) (ha : PE X e te) (hg : Gl X "abs" := by rfl) (hs : starEach [e] X.env = (false, eval e X.env) :: starEach [] X.env := by rfl) : PE X (.Call (.Name "abs" p) [e] [] pos) (tCB rAbsX (tCons te tNil)) :=
  pe_callB call_abs hg hm boot_abs (pa_cons ha pa_nil hs) (he := hs)
theorem pe_int' (hm : X.mg "int" = none) (ha : PE X e te) (hg : Gl X "int" := by rfl) (hs : starEach [e] X.env = (false, eval e X.env) :: starEach [] X.env := by rfl) : PE X (.Call (.Name "int" p) [e] [] pos) (tCB rIntX (tCons te tNil)) :=
  pe_callTy call_int1 hg hm PyProof.Rows.boot_int (pa_cons ha pa_nil hs) (he := hs)
theorem pe_all (hm : X.mg "all" = none) (ha : PE X e te) (hc : X.calm = true := by rfl) (hK : X.K = K := by rfl) (hg : Gl X "all" := by rfl) (hs : starEach [e] X.env = (false, eval e X.env) :: starEach [] X.env := by rfl) : PE X (.Call (.Name "all" p) [e] [] pos) (tCB (rAll K) (tCons te tNil)) := by
  subst hK
  exact pe_callB (cr_all hc) hg hm (by decide +kernel) (pa_cons ha pa_nil hs) (he := hs)
theorem pe_any (hm : X.mg "any" = none) (ha : PE X e te) (hc : X.calm = true := by rfl) (hK : X.K = K := by rfl) (hg : Gl X "any" := by rfl) (hs : starEach [e] X.env = (false, eval e X.env) :: starEach [] X.env := by rfl) : PE X (.Call (.Name "any" p) [e] [] pos) (tCB (rAny K) (tCons te tNil)) := by
  subst hK
  exact pe_callB (cr_any hc) hg hm (by decide +kernel) (pa_cons ha pa_nil hs) (he := hs)
theorem pe_max2 (hm : X.mg "max" = none) (ha : PA X [e1, e2] t) (hc : X.calm = true := by rfl) (hg : Gl X "max" := by rfl) (he : starEach [e1, e2] X.env = (false, eval e1 X.env) :: starEach [e2] X.env := by rfl) (hpl : (backTo pos (starEach [e2] X.env)).any (·.1) = false := by rfl) : PE X (.Call (.Name "max" p) [e1, e2] [] pos) (tCB rMaxX t) :=
  pe_callB (call_max2 hc) hg hm (by decide +kernel) ha (he := he) (hpl := hpl)
theorem pe_min2 (hm : X.mg "min" = none) (ha : PA X [e1, e2] t) (hc : X.calm = true := by rfl) (hg : Gl X "min" := by rfl) (he : starEach [e1, e2] X.env = (false, eval e1 X.env) :: starEach [e2] X.env := by rfl) (hpl : (backTo pos (starEach [e2] X.env)).any (·.1) = false := by rfl) : PE X (.Call (.Name "min" p) [e1, e2] [] pos) (tCB rMinX t) :=
  pe_callB (call_min2 hc) hg hm (by decide +kernel) ha (he := he) (hpl := hpl)
theorem pe_ty {n : Str} {s : String} (hm : X.mg n = none) (hv : bootBuiltins n = some (.type s)) (hg : Gl X n := by rfl) (hn : n ≠ "__name__" := by decide) (hd : (n == ("__debug__" : Str)) = false := by decide) : PE X (.Name n p) (tC (.ty s)) :=
  pe_bltn (v := .ty s) hg hm hv rfl hn hd
theorem pe_isi {n : Str} {s : String} (hi : X.mg "isinstance" = none) (hm : X.mg n = none) (hv : bootBuiltins n = some (.type s)) (ha : PE X e te) (hK : X.K = K := by rfl) (hg : Gl X "isinstance" := by rfl) (hg2 : Gl X n := by rfl) (hn : n ≠ "__name__" := by decide) (hd : (n == ("__debug__" : Str)) = false := by decide)
    (he : starEach [e, .Name n p2] X.env = (false, eval e X.env) :: starEach [.Name n p2] X.env := by rfl) (hs2 : starEach [.Name n p2] X.env = (false, eval (.Name n p2) X.env) :: starEach [] X.env := by rfl) (hpl : (backTo pos (starEach [.Name n p2] X.env)).any (·.1) = false := by rfl) :
    PE X (.Call (.Name "isinstance" p) [e, .Name n p2] [] pos) (tCB (rIsi K) (tCons te (tCons (tC (.ty s)) tNil))) := by
  subst hK
  exact pe_callB call_isi hg hi boot_isinstance (pa_cons ha (pa_cons (pe_ty hm hv hg2 hn hd) pa_nil hs2) he) (he := he) (hpl := hpl)
theorem pe_isi2 {n m : Str} {s u : String} {kk : Nat} (hi : X.mg "isinstance" = none) (hm : X.mg n = none) (hv : bootBuiltins n = some (.type s)) (hm' : X.mg m = none) (hv' : bootBuiltins m = some (.type u)) (ha : PE X e te) (hK : X.K = K := by rfl) (hg : Gl X "isinstance" := by rfl) (hg2 : Gl X n := by rfl) (hg3 : Gl X m := by rfl)
    (hn : n ≠ "__name__" := by decide) (hd : (n == ("__debug__" : Str)) = false := by decide) (hn' : m ≠ "__name__" := by decide) (hd' : (m == ("__debug__" : Str)) = false := by decide)
    (he : starEach [e, .Tuple [.Name n p1, .Name m p2] kk p3] X.env = (false, eval e X.env) :: starEach [.Tuple [.Name n p1, .Name m p2] kk p3] X.env := by rfl) (hs2 : starEach [.Tuple [.Name n p1, .Name m p2] kk p3] X.env = (false, eval (.Tuple [.Name n p1, .Name m p2] kk p3) X.env) :: starEach [] X.env := by rfl)
    (hs3 : starEach [.Name n p1, .Name m p2] X.env = (false, eval (.Name n p1) X.env) :: starEach [.Name m p2] X.env := by rfl) (hs4 : starEach [.Name m p2] X.env = (false, eval (.Name m p2) X.env) :: starEach [] X.env := by rfl)
    (hpl : (backTo pos (starEach [.Tuple [.Name n p1, .Name m p2] kk p3] X.env)).any (·.1) = false := by rfl) :
    PE X (.Call (.Name "isinstance" p) [e, .Tuple [.Name n p1, .Name m p2] kk p3] [] pos) (tCB (rIsiT K) (tCons te (tCons (tTup (tCons (tC (.ty s)) (tCons (tC (.ty u)) tNil))) tNil))) := by
  subst hK
  exact pe_callB call_isiT hg hi boot_isinstance (pa_cons ha (pa_cons (pe_tup (pa_cons (pe_ty hm hv hg2 hn hd) (pa_cons (pe_ty hm' hv' hg3 hn' hd') pa_nil hs4) hs3)) pa_nil hs2) he) (he := he) (hpl := hpl)
theorem ix_K (hK : X.K = K := by rfl) : IxR X (rIx K) := by subst hK; exact ix_seq
theorem sl_K (hK : X.K = K := by rfl) : SlR X (rSlL K) := by subst hK; exact sl_list
theorem eq_K (hu : X.A.units + 64 < cLine) (hK : X.K = K := by rfl) : OpR X (compareOp .Eq) (rEqD K) := by subst hK; exact op_eqD hu
theorem ne_K (hu : X.A.units + 64 < cLine) (hK : X.K = K := by rfl) : OpR X (compareOp .NotEq) (rNeD K) := by subst hK; exact op_neD hu
theorem catT_K (hK : X.K = K := by rfl) : OpR X (binaryOp .Add) (rCatA K) := by subst hK; exact op_catA
theorem it_list {tl : TE} (ha : PE X e tl) (hK : X.K = K := by rfl) : PI X tg e (iList K tl) := by subst hK; exact pi_list ha
theorem it_tup {tl : TE} (ha : PE X e tl) (hK : X.K = K := by rfl) : PI X tg e (iTup K tl) := by subst hK; exact pi_tup ha
theorem it_enum (hm : X.mg "enumerate" = none) (ha : PA X [e] t) (hK : X.K = K := by rfl) (hg : Gl X "enumerate" := by rfl) (hs : starEach [e] X.env = [(false, eval e X.env)] := by rfl) : PI X (.Tuple elts kk tpos) (.Call (.Name "enumerate" p) [e] [] pos) (iEnum K t) := by subst hK; exact pi_enum hg hm ha hs
theorem it_zip (hm : X.mg "zip" = none) (ha : PA X [e1, e2] t) (hK : X.K = K := by rfl) (hg : Gl X "zip" := by rfl) (hs : starEach [e1, e2] X.env = (false, eval e1 X.env) :: starEach [e2] X.env := by rfl) (hpl : (backTo pos (starEach [e2] X.env)).any (·.1) = false := by rfl) :
    PI X (.Tuple elts kk tpos) (.Call (.Name "zip" p) [e1, e2] [] pos) (RZ.iZipA K t) := by subst hK; exact RZ.pi_zipA hg hm ha hs hpl
theorem it_rev (hm : X.mg "reversed" = none) (ha : PA X [e] t) (hK : X.K = K := by rfl) (hg : Gl X "reversed" := by rfl) (hs : starEach [e] X.env = [(false, eval e X.env)] := by rfl) : PI X tg (.Call (.Name "reversed" p) [e] [] pos) (iRev K t) := by subst hK; exact pi_reversed hg hm ha hs
theorem tg_tup {es : List Expr} {k : Nat} {t : TGs} {n : Nat} (h : PGs X es t) (hK : X.K = K := by rfl) (hc : X.calm = true := by rfl) (hn : (assignEach es X.env).length = n := by rfl) (hst : (assignEach es X.env).findIdx? (·.1) = none := by rfl) : PG X (.Tuple es k pos) (gTup K n t) := by
  subst hK; exact pg_tup hc h hn hst
theorem pe_app (ho : PE X o te) (ha : PA X [e] t) (hK : X.K = K := by rfl) (hbase : attributeBase o "append" X.env (eval o X.env) = eval o X.env := by rfl)
    (hfew : ((backTo cpos (starEach [e] X.env)).all (fun x => !x.1) && (backToKw cpos (keywordEach [] X.env)).all (fun x => x.1.isSome) && decide ([e].length + ([] : List Keyword).length + (if ([] : List Keyword).isEmpty then 0 else 1) < 30)) = true := by rfl)
    (hline : (apos.endLine == cpos.line) = true := by rfl) (hs : starEach [e] X.env = (false, eval e X.env) :: starEach [] X.env := by rfl) (hplain : (backTo cpos (starEach [] X.env)).any (·.1) = false := by rfl) :
    PE X (.Call (.Attribute o "append" apos) [e] [] cpos) (tBM K "list" rAppend te t) := by
  subst hK; exact pe_bm PySem.F.plainAttrs_list PySem.F.slot_list_append PySem.F.type_list_append mt_append ho ha hbase hfew hline hs hplain
theorem pe_ext (ho : PE X o te) (ha : PA X [e] t) (hK : X.K = K := by rfl) (hbase : attributeBase o "extend" X.env (eval o X.env) = eval o X.env := by rfl)
    (hfew : ((backTo cpos (starEach [e] X.env)).all (fun x => !x.1) && (backToKw cpos (keywordEach [] X.env)).all (fun x => x.1.isSome) && decide ([e].length + ([] : List Keyword).length + (if ([] : List Keyword).isEmpty then 0 else 1) < 30)) = true := by rfl)
    (hline : (apos.endLine == cpos.line) = true := by rfl) (hs : starEach [e] X.env = (false, eval e X.env) :: starEach [] X.env := by rfl) (hplain : (backTo cpos (starEach [] X.env)).any (·.1) = false := by rfl) :
    PE X (.Call (.Attribute o "extend" apos) [e] [] cpos) (tBM K "list" rExtend te t) := by
  subst hK; exact pe_bm PySem.F.plainAttrs_list PySem.F.slot_list_extend PySem.F.type_list_extend mt_extend ho ha hbase hfew hline hs hplain
theorem pe_pop (ho : PE X o te) (hK : X.K = K := by rfl) (hbase : attributeBase o "pop" X.env (eval o X.env) = eval o X.env := by rfl) (hline : (apos.endLine == cpos.line) = true := by rfl) :
    PE X (.Call (.Attribute o "pop" apos) [] [] cpos) (tBM0 K "list" rPop te) := by
  subst hK; exact pe_bm0 PySem.F.plainAttrs_list PySem.F.slot_list_pop PySem.F.type_list_pop mt_pop ho hbase hline
end
abbrev E0' : XK := fun _ _ _ => False
theorem eok0 {c : Cxt} {cl : Str → Addr} : EOk c cl E0 (fun _ _ => False) := fun _ _ _ _ _ h => h
structure Book where
  fn : List He.DefD
  fa : List He.Fa
  tu : List (Str × List He.Dv)
  tf : List He.Defn := []
  ck : PySem.W.Frag → Bool := fun _ => true
def Book.tt (b : Book) (K : PySem.W.Frag) : Bool := b.tu.all fun q => He.eqO (PySem.W.nsIn K mainGlobals q.1) (some (some (.ref (He.ga K q.1)))) && He.tupB K q.1 q.2
def seerB (K : PySem.W.Frag) : Bool :=
  (PySem.W.nsOkIn K cStatics && (He.eqO (PySem.W.nsIn K cStatics "sys.audit-hooks") (some none) && He.eqO (PySem.W.nsIn K cStatics "sys.dict") (some none))) &&
  ((PySem.W.nsOkIn K sysModules && He.eqO (PySem.W.nsIn K sysModules "_pylong") (some none)) &&
  (He.eqO (PySem.W.nsIn K mainGlobals "__builtins__") (some (some (.ref (He.ga K "__builtins__")))) && (match K.lookup (He.ga K "__builtins__") with
    | some ⟨.type c, some d, _, _⟩ => decide (c = "module" ∧ d = builtinsNs)
    | _ => false)))
theorem seerB_ok {K : PySem.W.Frag} {P : Program} {base : Heap} {mg : Str → Option Value} (h : seerB K = true) (hK : K.In base) (hG : base.Ns mainGlobals mg) (ht : P.given.tree = none) : SeerB P base := by
  obtain ⟨h1, h2⟩ := He.ba h
  obtain ⟨a1, a2⟩ := He.ba h1
  obtain ⟨a3, a4⟩ := He.ba a2
  obtain ⟨b1, b2⟩ := He.ba h2
  obtain ⟨b3, b4⟩ := He.ba b1
  obtain ⟨c1, c2⟩ := He.ba b2
  have n1 := Heap.Ns.of_isNs (PySem.W.isNs_of_in hK a1)
  have n2 := Heap.Ns.of_isNs (PySem.W.isNs_of_in hK b3)
  refine ⟨⟨_, n1, PySem.W.ns_none_of hK n1 (He.eqO_ok a3), PySem.W.ns_none_of hK n1 (He.eqO_ok a4)⟩, ⟨_, n2, PySem.W.ns_none_of hK n2 (He.eqO_ok b4)⟩, ?_, ht⟩
  split at c2
  · rename_i c d dt sl q
    obtain ⟨rfl, rfl⟩ := of_decide_eq_true c2
    exact ⟨mg, _, _, hG, PySem.W.mg_of hK hG (He.eqO_ok c1), hK _ _ q, rfl, rfl⟩
  · cases c2
def exB (b : Book) (K : PySem.W.Frag) : Bool := b.tt K && (decide ((b.tf.map fun p => (He.cT K p).2).Nodup) && (b.ck K && seerB K))
def asZ (n : Nat) (g : Addr → Option Obj) : List Addr := He.asD g n ++ [cStatics, sysModules]
def obsZ (n : Nat) (b : Book) (g : Addr → Option Obj) : He.AlX :=
  let K := He.frT g (asZ n g)
  (He.obsT b.fa b.fn [] K, exB b K && He.tabsB g b.tf K)
theorem saysZ_of {n : Nat} {b : Book} {w : World} {h : Heap} (e : obsZ n b h.get? = He.valX b.fn [] w) : He.SaysX b.fa b.fn [] b.tf (exB b) w h (He.frT h.get? (asZ n h.get?)) := by
  have e1 := congrArg (fun z : He.AlX => z.1) e
  obtain ⟨h1, h2⟩ := He.ba (show (exB b (He.frT h.get? (asZ n h.get?)) && He.tabsB h.get? b.tf (He.frT h.get? (asZ n h.get?))) = true from congrArg (fun z : He.AlX => z.2) e)
  generalize hK : He.frT h.get? (asZ n h.get?) = K at *
  have e1' : He.obsT b.fa b.fn [] K = He.valT b.fn [] w := by rw [← hK]; exact e1
  have look : ∀ q ∈ b.tf, PySem.W.codeHdIn K (He.cT K q).1 (He.cT K q).2 = true ∧ ∃ o, h.get? (He.cT K q).2 = some o ∧ He.emptyTab o = true := by
    intro q hq
    have z := List.all_eq_true.mp h2 q hq
    obtain ⟨z1, z2⟩ := He.ba z
    refine ⟨z1, ?_⟩
    split at z2
    · rename_i o ho
      exact ⟨o, ho, z2⟩
    · cases z2
  refine ⟨e1', h1, fun q hq => (look q hq).1, fun q hq => ?_, fun q hq => ?_⟩
  · obtain ⟨_, o, h3, h4⟩ := look q hq
    have := He.frT_none (as := asZ n h.get?) h3 h4
    rwa [hK] at this
  · obtain ⟨_, o, h3, h4⟩ := look q hq
    rw [h3, He.emptyTab_eq h4]
def hookZ (n : Nat) (b : Book) : PySem.W.Hook where
  α := He.AlX
  obs s := obsZ n b s.heap.get?
  val w := He.valX b.fn [] w
  says w h := ∃ K : PySem.W.Frag, K.In h ∧ He.SaysX b.fa b.fn [] b.tf (exB b) w h K
  of _ _ e := ⟨_, He.frT_in, saysZ_of e⟩
  keeps _ _ _ := fun ⟨K, a, c⟩ k => ⟨K, PySem.W.Frag.In.keeps a k, ⟨c.t, c.more, c.hd, c.out, fun q hq => k _ _ (c.empty q hq)⟩⟩
theorem obsZ_eq {n : Nat} {b : Book} {g : Addr → Option Obj} {s : Shared} (h : ∀ a, g a = s.heap.get? a) : obsZ n b g = (hookZ n b).obs s := by
  obtain rfl : g = s.heap.get? := funext h
  rfl
abbrev SaysM (b : Book) (w : World) (h : Heap) (K : PySem.W.Frag) : Prop := He.SaysX b.fa b.fn [] b.tf (exB b) w h K
def tabT (b : Book) (K : PySem.W.Frag) : List (Addr × Str) := b.tf.map fun p => ((He.cT K p).2, p.1 ++ ".<locals>." ++ "<lambda>")
structure Txt (b : Book) (K : PySem.W.Frag) (mg : Str → Option Value) : Prop where
  d : He.SaysD b.fa b.fn K
  nd : (b.tf.map fun p => (He.cT K p).2).Nodup
  ck : b.ck K = true
  seer : seerB K = true
  glo : ∀ (i : Nat) (x : Str), b.fa[i]? = some (.glo x) → mg x = some (.ref (He.ga K x))
  free : ∀ (i : Nat) (x : Str), b.fa[i]? = some (.free x) → mg x = none
  tup : ∀ (i : Nat) (x : Str) (vs : List He.Dv), b.tu[i]? = some (x, vs) → mg x = some (.ref (He.ga K x)) ∧ ∀ H, SqT K H (He.ga K x) (vs.map (He.Dv.v K))
  exc : ∀ (i : Nat) (x : Str), b.fa[i]? = some (.exc x) → PySem.W.excIn K (He.ga K x) He.veBase "ValueError.__new__" = true ∧ PySem.W.keepIn K (.ref (He.ga K x)) = true ∧ PySem.W.subIn K (.ref (He.ga K x)) (.type "BaseException") = some true ∧ PySem.W.typeIn K (.ref (He.ga K x)) = some (.type "type")
  str : ∀ (i : Nat) (x z : Str), b.fa[i]? = some (.str x z) → ∃ t, mg x = some (.str z t)
  int : ∀ (i : Nat) (x : Str) (z : Int), b.fa[i]? = some (.int x z) → ∃ t, mg x = some (.int z t)
theorem Txt.mk' {b : Book} {K : PySem.W.Frag} {w : World} {mg : Str → Option Value} {h : Heap} (X : K.In h) (G : h.Ns mainGlobals mg) (c : SaysM b w h K) : Txt b K mg :=
  have hx := He.ba (show (b.tt K && (decide ((b.tf.map fun p => (He.cT K p).2).Nodup) && (b.ck K && seerB K))) = true from c.more)
  ⟨c.t.d, of_decide_eq_true (He.ba hx.2).1, (He.ba (He.ba hx.2).2).1, (He.ba (He.ba hx.2).2).2, fun i x hx => He.glo_ok X G (c.t.d.fact i hx), fun i x hx => He.free_ok X G (c.t.d.fact i hx), fun i x vs hi => (by
    have h1 := List.all_eq_true.mp hx.1 (x, vs) (List.mem_of_getElem? hi)
    obtain ⟨h2, h3⟩ := He.ba h1
    exact ⟨PySem.W.mg_of X G (He.eqO_ok h2), He.tupB_ok h3⟩), fun i x hx => He.exc_ok (c.t.d.fact i hx), fun i x z hx => He.str_ok X G (c.t.d.fact i hx), fun i x z hx => He.int_ok X G (c.t.d.fact i hx)⟩
structure TBs (b : Book) (K : PySem.W.Frag) (mg : Str → Option Value) (base : Heap) (T : List (Addr × Str)) (P : Program) : Prop where
  eq : T = tabT b K
  tb : ∀ p ∈ b.tf, LamX.TabB base mg (He.cT K p).1 (He.cT K p).2
  seer : SeerB P base
section
variable {b : Book} {K : PySem.W.Frag} {mg : Str → Option Value}
theorem Txt.fun_ (X : Txt b K mg) (i : Nat) {d : He.DefD} (h : b.fn[i]? = some d := by rfl) : ∃ fd, FunD K d.name d.qual d.params d.body d.scope (d.dvs K) (d.kws K) (He.fAd K d.at_) fd := X.d.def_ i h
end
theorem Txt.def_ {b : Book} {P : Program} {w : World} {K : PySem.W.Frag} {mg : Str → Option Value} {base : Heap} {T : List (Addr × Str)} (X : Txt b K mg) (i j : Nat) {st : Stmt} {f : Str} {N ps : List Str} {k : Nat} {F : Fn} {fs : (Str → S → Prop) → FS}
    (hd : b.fn[i]? = some ⟨(f, none), f, f, defArgs st, defBody st, defScope st, [], []⟩) (hg : b.fa[j]? = some (.glo f)) (Sc : FnScope N ps (defScope st))
    (hbind : ∀ (kV doc pm : Value) (an : Option Addr) (cdv ct : Value) (us : List Value), us.length = ps.length → bindArgs (PySem.W.fnOf f f (defArgs st) (defBody st) (defScope st) .none kV doc pm an cdv ct) ⟨us, []⟩ = pure (ps.zip us))
    (len : ∀ ds s k xq, F ds s k xq → ds.length = ps.length) (hF : ∀ ds s k xq, F ds s k xq → fs xq (start_ N ds) s (kBody k))
    (hbody : ∀ (fa : Addr) (cdv : Value) (A : Around) (outer : List Env) (s : Shared) (H : Hp) (E : XK), cdv = .ref (He.cT K (f, none)).1 → Room k (A.deeper (envOfC f (defScope st) s.heap.objs.size fa cdv)) →
      ∃ t, PSs (cxOf (L2.CX P w) P w K mg base N f (defScope st) fa cdv A outer s H E) (defBody st) t ∧ ∀ (c : Cxt) (xq : Str → DL.S → Prop), c.K = K → c.T = T → EOk c (He.ga K) E xq → DS c t (fs xq)) :
    Def P w K mg base T f ps (k + 1) F := by
  obtain ⟨fd, FD⟩ := X.fun_ i hd
  refine ⟨He.ga K f, fd, X.glo j f hg, FD.kp, FD.bindsN hbind, ?_, let ⟨oc, od, _, _, _, _, _, _, _, osl, _, lk, _⟩ := FD.ex; ⟨oc, od, osl, lk⟩⟩
  have FD' : FunD K f f (defArgs st) (defBody st) (defScope st) [] [] (He.ga K f) fd := FD
  obtain ⟨oc, od, dV, kV, doc, pm, an, cdv, ct, osl, rfl, lk, hcd, _, _⟩ := FD'.ex
  have hcv : cdv = .ref (He.cT K (f, none)).1 := by
    obtain ⟨c, e⟩ := He.codeIn_ref hcd
    have e2 : He.codeOf K (f, none) = c := He.codeOf_eq (fd := PySem.W.fnOf f f (defArgs st) (defBody st) (defScope st) dV kV doc pm an cdv ct) lk (by rw [← e] <;> rfl)
    show cdv = .ref (He.codeOf K (f, none))
    rw [e2, e]
  refine fn_of lk hcd Sc (fun vs H Q E h => ?_) (fun A outer s H vs Q E hr h => ?_)
  · obtain ⟨c, G, s, ds, k, xq, _, _, _, rl, hf, _⟩ := h
    rw [rl.length]
    exact len ds s k xq hf
  · obtain ⟨t, h1, h2⟩ := hbody _ cdv A outer s H E hcv hr
    obtain ⟨c, G, s', ds, k, xq, hK, hT, R, rl, hf, hq, hx⟩ := h
    refine ⟨t, h1, ?_⟩
    refine h2 c xq hK hT (fun G' H' cn s2 R' hc => ?_) G (start_ N ds) s' (L2.start N vs) H (kBody k) _ (rel_start R rl) (hF ds s' k xq hf) ⟨fun G' H' env' s2 σ' R' e kk => ?_, fun G' H' s2 v r R' e rv kk => hq G' H' v r s2 R' rv kk, fun _ _ _ _ _ _ _ kk => kk.elim, fun _ _ _ _ _ _ _ kk => kk.elim⟩
    · exact hx G' H' cn s2 R' hc
    · exact hq G' H' .non (.val .non) s2 R'.bare (by simp only [RV, Rep]) kk
theorem Txt.def0 {b : Book} {P : Program} {w : World} {K : PySem.W.Frag} {mg : Str → Option Value} {base : Heap} {T : List (Addr × Str)} (X : Txt b K mg) (i j : Nat) {st : Stmt} {f : Str} {ps : List Str}
    (hd : b.fn[i]? = some ⟨(f, none), f, f, defArgs st, defBody st, defScope st, [], []⟩) (hg : b.fa[j]? = some (.glo f))
    (hbind : ∀ (kV doc pm : Value) (an : Option Addr) (cdv ct : Value) (us : List Value), us.length = ps.length → bindArgs (PySem.W.fnOf f f (defArgs st) (defBody st) (defScope st) .none kV doc pm an cdv ct) ⟨us, []⟩ = pure (ps.zip us)) :
    Def P w K mg base T f ps 0 (fun _ _ _ _ => False) := by
  obtain ⟨fd, FD⟩ := X.fun_ i hd
  refine ⟨He.ga K f, fd, X.glo j f hg, FD.kp, FD.bindsN hbind, ?_, let ⟨oc, od, _, _, _, _, _, _, _, osl, _, lk, _⟩ := FD.ex; ⟨oc, od, osl, lk⟩⟩
  exact ⟨fun vs H Q E h => by obtain ⟨c, G, s, ds, k, xq, _, _, _, rl, hf, _⟩ := h; exact hf.elim, fun A outer s H args us vs Q E hr he hb hv h => by obtain ⟨c, G, s, ds, k, xq, _, _, _, rl, hf, _⟩ := h; exact hf.elim⟩
theorem TBs.sx {b : Book} {X : Cx} {T : List (Addr × Str)} {k : Nat} (B : TBs b X.K X.mg X.base T X.prog) (hr : Room k X.A) (hk : 32 ≤ k := by decide) (h1 : X.env.scope.isGenerator = false := by rfl) (h2 : X.env.scope.isCoroutine = false := by rfl) (h3 : ∃ l, X.stack = X.env :: l := by exact ⟨_, rfl⟩) : SeerX X :=
  ⟨B.seer, h1, h2, h3, by have := hr.dp; have e : Builtin.pylongFrames = 100 := rfl; rw [e]; omega⟩
theorem ps_raiseD {b : Book} {X : Cx} (Tx : Txt b X.K X.mg) (i j : Nat) {C m : Str} {E : XK} {jj : Nat} {p p2 pos pos2 : Pos} (hx : b.fa[i]? = some (.exc C)) (hg0 : b.fa[j]? = some (.glo C)) (hc : X.calm = true) (tk : Takes X (fun cls d _ H => E cls d H)) (hg : Gl X C := by rfl) (hdb : (C == ("__debug__" : Str)) = false := by decide) :
    PS X (.Raise (some (.Call (.Name C p) [.Constant (.str m) jj p2] [] pos)) none pos2) (fun _ _ H => E (.ref (He.ga X.K C)) none H) := by
  obtain ⟨h1, h2, h3, h4⟩ := Tx.exc i C hx
  exact ps_raise hc tk (pmk_own PySem.F.excBase_ValueError h1 (Tx.glo j C hg0) h2 (raises_own h3 h4) hg hdb)
open Classical in
theorem only_at {K : PySem.W.Frag} {H : Hp} {a : Addr} {xs : List V} (hS : SqL K H a xs) : ∃ G : Hp, Ex G H ∧ (∀ p ps, G p ≠ some (.tbl ps)) ∧ SqL K G a xs := by
  refine ⟨fun p => if p = a ∧ ∀ ps, H a ≠ some (.tbl ps) then H a else none, fun p o hp => ?_, fun p ps hp => ?_, ?_⟩
  · dsimp only at hp
    split at hp
    · rename_i q; rw [q.1]; exact hp
    · cases hp
  · dsimp only at hp
    split at hp
    · rename_i q; exact q.2 ps hp
    · cases hp
  · rcases hS with (h | ⟨o, h⟩) | h
    · exact .inl (.inl (by dsimp only; rw [if_pos ⟨rfl, fun ps z => by rw [h] at z; cases z⟩]; exact h))
    · exact .inl (.inr ⟨o, by dsimp only; rw [if_pos ⟨rfl, fun ps z => by rw [h] at z; cases z⟩]; exact h⟩)
    · exact .inr h
theorem entry {K : PySem.W.Frag} {T : List (Addr × Str)} {H : Hp} {a : Addr} {ns : List Int} {F : Fn} (hT : ∀ p ∈ T, H p.1 = some (.tbl #[])) (hS : SqL K H a (ns.map V.int)) (h : F [.scr ns] none (fun r _ => r.d = .bl true) (fun _ _ => False)) : spD K T (He.ga K) F [.ref a] H (fun v _ => v = .bl true) fun _ _ _ => False := by
  obtain ⟨G, g1, g2, g3⟩ := only_at hS
  refine ⟨⟨K, none, noT H, G, T⟩, G, none, [.scr ns], _, _, rfl, rfl, ?_, RepL.one (by simp only [Rep]; exact ⟨a, rfl, g3⟩), h, fun G' H' v r s' R' rv kk => ?_, fun G' H' cn s' R' hx => hx⟩
  · exact { ex := g1, st := fun _ z => (by cases z), sn := fun _ => rfl, keep := fun _ _ h _ _ => (noT_some h).1, kn := fun _ h => noT_none h, h0n := fun p ps z => (noT_some z).2 ps rfl, tab := fun q hq => LamX.TabS.nil (hT q hq), gnew := fun _ _ _ h => h, gx := Evl.Ex.refl _, gtb := g2, len := rfl, vals := fun i d h => (by simp at h), owns := fun i d h => (by simp at h), dist := fun i j d e v h => (by simp at h) }
  · exact RV.bl (s := s') rv kk
theorem repL_ints {K : PySem.W.Frag} {G : Hp} : ∀ ns : List Int, RepL K G (ns.map D.int) (ns.map V.int)
  | [] => RepL.nil
  | n :: r => RepL.cons (by simp only [Rep]) (repL_ints r)
theorem repL_strs {K : PySem.W.Frag} {G : Hp} : ∀ ns : List Str, RepL K G (ns.map D.str) (ns.map V.str)
  | [] => RepL.nil
  | n :: r => RepL.cons (by simp only [Rep]) (repL_strs r)
theorem de_tup0 {c : Cxt} {a : Addr} {ns : List Int} (h : ∀ H, SqT c.K H a (ns.map V.int)) : DE c (tC (.ref a)) (wC (.tup (ns.map D.int))) := de_c fun G => by
  simp only [Rep]
  exact ⟨a, _, rfl, h G, repL_ints ns⟩
theorem de_tupS {c : Cxt} {a : Addr} {ns : List Str} (h : ∀ H, SqT c.K H a (ns.map V.str)) : DE c (tC (.ref a)) (wC (.tup (ns.map D.str))) := de_c fun G => by
  simp only [Rep]
  exact ⟨a, _, rfl, h G, repL_strs ns⟩
end DL
set_option Elab.async false
set_option linter.all false
set_option maxRecDepth 100000
set_option maxHeartbeats 1000000
namespace DL
open PySem L2 PySem.Spec PyProof.Rows
open Evl (Ex)
section
variable {c : Cxt}
theorem de_dnew : DE c tDNewK (wC .dic) := by
  intro G env s σ H k Q R hf q
  intro p hp
  have R1 := R.new (o := .dK []) hp (fun _ z => by cases z)
  exact q (upd G p (.dK [])) _ _ (.val .dic) env s (R1.grow upd_same (R.kn p hp) (R.g0 hp) (R.a0ne hp) (fun _ z => by cases z) (R.newApart hp)) (Ex.new (R.g0 hp)) (by show Rep c.K (upd G p (.dK [])) .dic (.ref p); simp only [Rep]; exact ⟨p, [], rfl, upd_same⟩) hf
def wRevL (f : FP) : FE := fun env s k => f env s fun d env1 s1 => match d with
  | .lst ds => k (.own ds.reverse) env1 s1
  | _ => False
theorem de_revL {te : TE} {f : FP} (h : DP c te f) : DE c (tRevL c.K te) (wRevL f) := by
  intro G env s σ H k Q R hf q
  refine h G env s σ H _ _ R hf fun G1 H1 v d env1 s1 R1 e1 p1 k1 => ?_
  cases d with
  | lst ds =>
    obtain ⟨p, vs, rfl, h3, h4⟩ := p1
    refine ⟨p, vs, rfl, SqL.of h3, fun l hl => ?_⟩
    obtain ⟨R2, rv⟩ := R1.newOwn hl (RepL.reverse h4)
    exact q G1 _ _ (.own ds.reverse) env1 s1 R2 e1 rv k1
  | _ => exact k1.elim
abbrev Cxt.h1 (c : Cxt) (H0 G0 : Hp) : Cxt := { c with H0 := H0, G0 := G0 }
def wCompB (i : Nat) (fg : FG) (ft : FT) (fe : FE) (vs : List Nat) : FE := fun env s k => match at_ env i with
  | .own ds => wComp (fun env s k => k ds env s) fg ft fe vs (env.set i .no) s fun r env2 s2 => k r (env2.set i (.own ds)) s2
  | _ => wComp (wIt (wV i)) fg ft fe vs env s k
theorem de_compB {i : Nat} {g : TG} {fg : FG} {tt : TT} {ft : FT} {te : TE} {fe : FE} {vs : List Nat} (hg : ∀ H0 G0, DG (c.h1 H0 G0) g fg) (ht : ∀ H0 G0, DT (c.h1 H0 G0) tt ft) (he : ∀ H0 G0, DE (c.h1 H0 G0) te fe) (hw : GW g vs) :
    DE c (tLc (iList c.K (tVar i)) g tt te vs) (wCompB i fg ft fe vs) := by
  intro G env s σ H k Q R hf q
  unfold wCompB at hf
  cases ei : at_ env i with
  | own ds =>
    rw [ei] at hf
    have hi := at_val ei (by simp)
    have hil : i < env.length := by
      rcases Nat.lt_or_ge i env.length with h | h
      · exact h
      · rw [List.getElem?_eq_none h] at hi; cases hi
    obtain ⟨v, e1, p, us, rfl, g0, h0, a0, hp, hr⟩ := R.owns i ds hi
    have get : ∀ {j : Nat} {x : Sl}, (env.set i .no)[j]? = some x → x ≠ .no → j ≠ i ∧ env[j]? = some x := fun {j x} h hx => by
      by_cases hb : i = j
      · subst hb
        rw [List.getElem?_set_self hil] at h
        cases h
        exact absurd rfl hx
      · rw [List.getElem?_set_ne hb] at h
        exact ⟨fun e => hb e.symm, h⟩
    have c0 : ∀ q, c.H0 q ≠ none → G q = none → True := fun _ _ _ => trivial
    have R0 : Rel c G (env.set i .no) s σ H := { R with
      len := by rw [List.length_set]; exact R.len
      vals := fun j d hj => R.vals j d (get hj (by simp)).2
      owns := fun j es hj => R.owns j es (get hj (by simp)).2
      dist := fun j j' es es' v h1 h2 => R.dist j j' es es' v (get h1 (by simp)).2 (get h2 (by simp)).2 }
    have ap : Apart (env.set i .no) σ (.ref p) := fun j es h1 h2 => by
      obtain ⟨n1, n2⟩ := get h1 (by simp)
      exact n1 (R.dist j i es ds _ n2 hi h2 e1)
    have Rh := R0.hide hp g0 h0 ap
    have R1 : Rel (c.h1 (upd c.H0 p (.lst us)) G) G (env.set i .no) s σ H := { Rh with
      gnew := fun q _ _ h => h
      gx := Ex.refl G }
    have DC : DI (c.h1 (upd c.H0 p (.lst us)) G) (fun σ' H' Rr => Rr (Itl c.K p) H') (fun env s k => k ds env s) := fun G' env' s' σ' H' k' Rr R' hf' q' => by
      have keepP : ∀ (H0 : {h : Hp // Ex (upd c.H0 p (.lst us)) h}) G' H' env' s' σ', Rel ((c.h1 (upd c.H0 p (.lst us)) G).h0 H0.1) G' env' s' σ' H' → SqL c.K H' p us := fun H0 G' H' env' s' σ' R' =>
        SqL.of (R'.keep p _ (H0.2 p _ upd_same) a0 (fun _ z => by cases z))
      exact q' G' H' _ ds env' s' R' (Ex.refl G') (wk_at (c := c.h1 (upd c.H0 p (.lst us)) G) (RepL.mono R'.gx ds hr) (walk_list (K := c.K)) fun H0 G' H' _ _ _ R' _ => keepP H0 G' H' _ _ _ R') hf'
    have main := de_comp (c := c.h1 (upd c.H0 p (.lst us)) G) DC (fun H0 => hg H0 G) (fun H0 => ht H0 G) (fun H0 => he H0 G) hw
    have fin := main G (env.set i .no) s σ H _ Q R1 hf fun G2 H2 v r env2 s2 R2 e2 rv2 k2 => by
      have hp2 : H2 p = some (.lst us) := R2.keep p _ upd_same a0 (fun _ z => by cases z)
      have hg2 : G2 p = none := R2.gnew p us (by show upd c.H0 p _ p = some (.lst us); rw [upd_same]) g0
      have ap2 : Apart env2 σ (.ref p) := fun j es h1 h2 => by
        obtain ⟨w, n1, q, us', rfl, n3, n4, _⟩ := R2.owns j es h1
        rw [n1] at h2
        cases h2
        have n4' : upd c.H0 p (.lst us) p = none := n4
        rw [upd_same] at n4'
        cases n4'
      have R2' : Rel (c.h0 (upd c.H0 p (.lst us))) G2 env2 s2 σ H2 := { R2 with
        gnew := fun q ws h1 h2 => R2.gnew q ws h1 (Rh.gnew q ws h1 h2)
        gx := R.gx.trans R2.gx }
      have R3 : Rel c G2 env2 s2 σ H2 := R2'.unhide h0
      have hil2 : i < env2.length := by rw [R3.len, ← R.len]; exact hil
      have get2 : ∀ {j : Nat} {x : Sl}, (env2.set i (.own ds))[j]? = some x → (j = i ∧ x = .own ds) ∨ (j ≠ i ∧ env2[j]? = some x) := fun {j x} h => by
        by_cases hb : i = j
        · subst hb
          rw [List.getElem?_set_self hil2] at h
          cases h
          exact .inl ⟨rfl, rfl⟩
        · rw [List.getElem?_set_ne hb] at h
          exact .inr ⟨fun e => hb e.symm, h⟩
      have R4 : Rel c G2 (env2.set i (.own ds)) s2 σ H2 := { R3 with
        len := by rw [List.length_set]; exact R3.len
        vals := fun j d hj => by
          rcases get2 hj with ⟨_, h⟩ | ⟨_, h⟩
          · cases h
          · exact R3.vals j d h
        owns := fun j es hj => by
          rcases get2 hj with ⟨h1, h⟩ | ⟨_, h⟩
          · cases h
            subst h1
            exact ⟨_, e1, p, us, rfl, hg2, h0, a0, hp2, RepL.mono e2 ds hr⟩
          · exact R3.owns j es h
        dist := fun j j' es es' v h1 h2 h3 h4 => by
          rcases get2 h1 with ⟨a1, _⟩ | ⟨a1, b1⟩
          · rcases get2 h2 with ⟨a2, _⟩ | ⟨a2, b2⟩
            · rw [a1, a2]
            · subst a1
              rw [e1] at h3
              cases h3
              exact absurd h4 (ap2 j' es' b2)
          · rcases get2 h2 with ⟨a2, _⟩ | ⟨a2, b2⟩
            · subst a2
              rw [e1] at h4
              cases h4
              exact absurd h3 (ap2 j es b1)
            · exact R3.dist j j' es es' v b1 b2 h3 h4 }
      refine q G2 H2 v r _ s2 R4 e2 ?_ k2
      cases r with
      | no => exact rv2.elim
      | val d => exact rv2
      | own es =>
        obtain ⟨⟨q', ws, rfl, m2, m3, m4, m5, m6⟩, m7⟩ := rv2
        have hne : q' ≠ p := fun z => by
          have m3' : upd c.H0 p (.lst us) q' = none := m3
          rw [z, upd_same] at m3'
          cases m3'
        have m3' : c.H0 q' = none := by
          have h : upd c.H0 p (.lst us) q' = none := m3
          rwa [upd_ne hne] at h
        refine ⟨⟨q', ws, rfl, m2, m3', m4, m5, m6⟩, fun j fs h1 h2 => ?_⟩
        rcases get2 h1 with ⟨a1, _⟩ | ⟨_, b1⟩
        · subst a1
          rw [e1] at h2
          cases h2
          exact hne rfl
        · exact m7 j fs b1 h2
    exact ⟨.ref p, e1, p, rfl, ⟨us, SqL.of hp⟩, fin⟩
  | no =>
    rw [ei] at hf
    exact de_comp (di_list (de_var i)) (fun H0 => hg H0 c.G0) (fun H0 => ht H0 c.G0) (fun H0 => he H0 c.G0) hw G env s σ H k Q R hf q
  | val d =>
    rw [ei] at hf
    exact de_comp (di_list (de_var i)) (fun H0 => hg H0 c.G0) (fun H0 => ht H0 c.G0) (fun H0 => he H0 c.G0) hw G env s σ H k Q R hf q
def gIn : F2 := fun d e k => match e with
  | .lst ds => (EqOk d ∧ EqOk (.lst ds)) ∧ k (.val (.bl (ds.any fun z => z.eqv d)))
  | _ => False
def gNotIn : F2 := fun d e k => match e with
  | .lst ds => (EqOk d ∧ EqOk (.lst ds)) ∧ k (.val (.bl (!ds.any fun z => z.eqv d)))
  | _ => False
theorem pyL_any (d : D) : ∀ ds : List D, (D.pyL ds).any (fun z => PyData.eqv z d.py) = ds.any fun z => z.eqv d
  | [] => rfl
  | e :: ds => by simp only [D.pyL, List.any_cons, pyL_any d ds]; rfl
theorem d2_in : D2 c (rInD c.K) gIn := by
  intro G env s σ H x y d e k Q R p1 p2 h q
  cases e with
  | lst ds =>
    obtain ⟨⟨h1, h2⟩, h3⟩ := h
    refine ⟨_, _, PR.dp R p1 h1, PR.dp R p2 h2, h1, h2, ?_⟩
    rw [pyL_any]
    exact q G H _ (.val (.bl _)) R (Ex.refl G) (by simp only [RV, Rep]) h3
  | _ => exact h.elim
theorem d2_notIn : D2 c (rNotInD c.K) gNotIn := by
  intro G env s σ H x y d e k Q R p1 p2 h q
  cases e with
  | lst ds =>
    obtain ⟨⟨h1, h2⟩, h3⟩ := h
    refine ⟨_, _, PR.dp R p1 h1, PR.dp R p2 h2, h1, h2, ?_⟩
    rw [pyL_any]
    exact q G H _ (.val (.bl _)) R (Ex.refl G) (by simp only [RV, Rep]) h3
  | _ => exact h.elim
end
def rEqE (K : PySem.W.Frag) : R2 := fun x y H Q => (∃ a b xs, x = .ref a ∧ y = .ref b ∧ SqL K H a xs ∧ SqL K H b [] ∧ Q (.bl xs.isEmpty) H) ∨ rEqD K x y H Q
def rNeE (K : PySem.W.Frag) : R2 := fun x y H Q => (∃ a b xs, x = .ref a ∧ y = .ref b ∧ SqL K H a xs ∧ SqL K H b [] ∧ Q (.bl (!xs.isEmpty)) H) ∨ rNeD K x y H Q
section
variable {X : Cx}
theorem op_eqE (hu : X.A.units + 64 < cLine) : OpR X (compareOp .Eq) (rEqE X.K) := by
  intro pins s σ H x y v u Q I rx ry h
  rcases h with ⟨a, b, xs, rfl, rfl, h1, h2, q⟩ | h
  · cases rx
    cases ry
    obtain ⟨its, r1, p1, _⟩ := I.list h1
    obtain ⟨its2, r2, p2, _⟩ := I.list h2
    have e2 : its2 = [] := by cases r2; rfl
    subst e2
    by_cases hx : xs = []
    · subst hx
      have e1 : its = [] := by cases r1; rfl
      subst e1
      exact SeqAt.RcAt.lists (e := fun _ => true) p1.isList p2.isList rfl (by omega) (fun j h1 => absurd h1 (by simp)) _ _ _ _ ⟨.bl _, H, I, rfl, q⟩
    · have hl : its.length ≠ 0 := by
        rw [← r1.length]
        simpa using hx
      have e : xs.isEmpty = false := by simpa using hx
      rw [e] at q
      exact SeqAt.RcAt.lists_lengths p1.isList p2.isList (by simpa using hl) (by omega) _ _ _ _ ⟨.bl _, H, I, rfl, q⟩
  · exact op_eqD hu pins s σ H x y v u Q I rx ry h
theorem op_neE (hu : X.A.units + 64 < cLine) : OpR X (compareOp .NotEq) (rNeE X.K) := by
  intro pins s σ H x y v u Q I rx ry h
  rcases h with ⟨a, b, xs, rfl, rfl, h1, h2, q⟩ | h
  · cases rx
    cases ry
    obtain ⟨its, r1, p1, _⟩ := I.list h1
    obtain ⟨its2, r2, p2, _⟩ := I.list h2
    have e2 : its2 = [] := by cases r2; rfl
    subst e2
    by_cases hx : xs = []
    · subst hx
      have e1 : its = [] := by cases r1; rfl
      subst e1
      exact SeqAt.RcNeAt.lists (e := fun _ => true) p1.isList p2.isList rfl (by omega) (fun j h1 => absurd h1 (by simp)) _ _ _ _ ⟨.bl _, H, I, rfl, q⟩
    · have hl : its.length ≠ 0 := by
        rw [← r1.length]
        simpa using hx
      have e : xs.isEmpty = false := by simpa using hx
      rw [e] at q
      exact SeqAt.RcNeAt.lists_lengths p1.isList p2.isList (by simpa using hl) (by omega) _ _ _ _ ⟨.bl _, H, I, rfl, q⟩
  · exact op_neD hu pins s σ H x y v u Q I rx ry h
end
def gEqE : F2 := fun d e k => match d, e with
  | .lst ds, .lst [] => k (.val (.bl ds.isEmpty))
  | d, e => (EqOk d ∧ EqOk e) ∧ k (.val (.bl (d.eqv e)))
def gNeE : F2 := fun d e k => match d, e with
  | .lst ds, .lst [] => k (.val (.bl (!ds.isEmpty)))
  | d, e => (EqOk d ∧ EqOk e) ∧ k (.val (.bl (!d.eqv e)))
section
variable {c : Cxt}
theorem repL_empty {K : PySem.W.Frag} {G : Hp} {ds : List D} {vs : List V} (h : RepL K G ds vs) : vs.isEmpty = ds.isEmpty := by
  have := h.length
  cases ds <;> cases vs <;> simp at this ⊢
theorem d2_eqE : D2 c (rEqE c.K) gEqE := by
  intro G env s σ H x y d e k Q R p1 p2 h q
  unfold gEqE at h
  split at h
  · obtain ⟨p, vs, rfl, h3, h4⟩ := p1
    obtain ⟨p', vs', rfl, h3', h4'⟩ := p2
    have e : vs' = [] := by simpa only [RepL] using h4'
    subst e
    refine .inl ⟨p, p', vs, rfl, rfl, SqL.of h3, SqL.of h3', ?_⟩
    rw [repL_empty h4]
    exact q G H _ (.val (.bl _)) R (Ex.refl G) (by simp only [RV, Rep]) h
  · obtain ⟨⟨h1, h2⟩, h3⟩ := h
    exact .inr ⟨_, _, PR.dp R p1 h1, PR.dp R p2 h2, h1, h2, q G H _ (.val (.bl _)) R (Ex.refl G) (by simp only [RV, Rep]; rfl) h3⟩
theorem d2_neE : D2 c (rNeE c.K) gNeE := by
  intro G env s σ H x y d e k Q R p1 p2 h q
  unfold gNeE at h
  split at h
  · obtain ⟨p, vs, rfl, h3, h4⟩ := p1
    obtain ⟨p', vs', rfl, h3', h4'⟩ := p2
    have e : vs' = [] := by simpa only [RepL] using h4'
    subst e
    refine .inl ⟨p, p', vs, rfl, rfl, SqL.of h3, SqL.of h3', ?_⟩
    rw [repL_empty h4]
    exact q G H _ (.val (.bl _)) R (Ex.refl G) (by simp only [RV, Rep]) h
  · obtain ⟨⟨h1, h2⟩, h3⟩ := h
    exact .inr ⟨_, _, PR.dp R p1 h1, PR.dp R p2 h2, h1, h2, q G H _ (.val (.bl _)) R (Ex.refl G) (by simp only [RV, Rep]; rfl) h3⟩
end
section
variable {X : Cx}
theorem units65 {k : Nat} {A : Around} (r : Room k A) : A.units + 65 < cLine := by have := r.un; omega
variable (K : PySem.W.Frag)
theorem in_K (hu : X.A.units + 65 < cLine) (hK : X.K = K := by rfl) : OpR X (compareOp .In) (rInD K) := by subst hK; exact op_inD hu
theorem notIn_K (hu : X.A.units + 65 < cLine) (hK : X.K = K := by rfl) : OpR X (compareOp .NotIn) (rNotInD K) := by subst hK; exact op_notInD hu
theorem eqE_K (hu : X.A.units + 64 < cLine) (hK : X.K = K := by rfl) : OpR X (compareOp .Eq) (rEqE K) := by subst hK; exact op_eqE hu
theorem neE_K (hu : X.A.units + 64 < cLine) (hK : X.K = K := by rfl) : OpR X (compareOp .NotEq) (rNeE K) := by subst hK; exact op_neE hu
theorem pe_revK {e : Expr} {te : TE} {k : Nat} {p1 p2 p3 pos : Pos} (he : PE X e te) (hK : X.K = K := by rfl) : PE X (.Subscript e (.Slice none none (some (.UnaryOp .USub (.Constant (.int 1) k p1) p2)) p3) pos) (tRevL K te) := by subst hK; exact pe_revL he
end
end DL
set_option Elab.async false
set_option linter.all false
set_option maxRecDepth 100000
set_option maxHeartbeats 2000000
namespace DL
open PySem L2 PySem.Spec PyProof.Rows
open Evl (Ex)
section
variable {X : Cx} {pins : List (Addr × Obj)} {σ : L2.St} {H : Hp} {s : Shared}
theorem errO_ok {P : Program} {w : World} {h : Heap} {a : Addr} {cls : Value} {o : Obj} {us : Array Value} (e : h.get? a = some o) (z : Zc cls none o) (d : o.data = .fields us) : ObjOk P w H h a (ErrO a cls) :=
  ⟨⟨o, us, e, z, d⟩, ⟨o, e⟩, fun _ _ ⟨o2, v, q, r⟩ k => ⟨o2, v, k o2 q, r⟩⟩
theorem track {a : Addr} {φ : Heap → Prop} (I : Inv X pins σ H s) (hn : H a = none) (n0 : X.s_0.heap.get? a = none) (nL : a ≠ X.env.locals) (nC : ∀ y q, X.env.cells.lookup y = some q → q ≠ a) (nP : ∀ p ∈ X.pn ++ pins, p.1 ≠ a)
    (new : ObjOk X.prog X.w H s.heap a (.ext φ)) : Inv X pins σ (upd H a (.ext φ)) s := by
  have old : ∀ b o, X.s_0.heap.get? b = some o → b ≠ a := fun b o e z => by rw [z, n0] at e; cases e
  have ne : ∀ b o, H b = some o → b ≠ a := fun b o e => ne_of_none e hn
  refine { I with base := ?_, free := ?_, freeC := ?_, pin := ?_, hok := ?_ }
  · exact { I.base with
      free := fun b o e n hx => by rw [upd_ne (old b o e)]; exact I.base.free b o e n hx
      tups := fun b xs e => by have q := I.base.tups b xs e; rw [upd_ne (ne _ _ q)]; exact q
      frzs := fun b o u e => by have q := I.base.frzs b o u e; rw [upd_ne (ne _ _ q)]; exact q
      tbls := fun b ps e => by obtain ⟨m, q⟩ := I.base.tbls b ps e; exact ⟨m, by rw [upd_ne (ne _ _ q)]; exact q⟩ }
  · rw [upd_ne (Ne.symm nL)]; exact I.free
  · intro y q e
    rw [upd_ne (nC y q e)]; exact I.freeC y q e
  · intro p hp
    obtain ⟨p1, p2, p3⟩ := I.pin p hp
    exact ⟨p1, by rw [upd_ne (nP p hp)]; exact p2, p3⟩
  · intro b u e
    by_cases hb : b = a
    · subst hb
      rw [upd_same] at e
      cases e
      exact new
    · rw [upd_ne hb] at e
      exact (I.hok b u e).stay (fun _ _ _ q => q) (fun b' q => by rw [upd_ne (ne _ _ q)]; exact q) fun b' _ q => by rw [upd_ne (ne _ _ q)]; exact q
end
def wErr (K : PySem.W.Frag) (c : Value) (i j n : Nat) (D : Ends) : WX := fun cls d σ H =>
  PySem.W.exmOne K cls c = some true ∧ d = none ∧ ∀ a, H a = none → σ.length = n → D.nx (((σ.set i (some (.ref a))).set j (some (.ref a))).set i none) (upd H a (ErrO a cls))
section
variable {X : Cx} {x n m : Str} {c : Value} {i j : Nat} {body : List Stmt} {p1 p2 p3 p4 p5 p6 : Pos} {tb : WX → TS}
theorem ps_try_err (hs : X.stack = X.env :: X.outer) (hf : X.env.frame = some X.env.locals) (hN : X.N.Nodup) (hi : X.N[i]? = some n) (hj : X.N[j]? = some m) (hln : X.env.kindOf n = some .local) (hlm : X.env.kindOf m = some .local) (hx0 : X.ex = []) (hc : Names X x c)
    (hdn : (n == ("__debug__" : Str)) = false) (hcn : (n == ("__classdict__" : Str)) = false)
    (hb : ∀ (W : WX) (pn : List (Addr × Obj)) (xe : Value → Shared → Prop), Takes (X.tr pn xe) W → PassesOwn (model X.prog X.w) X.A X.env xe → PSs (X.tr pn xe) body (tb W)) :
    PS X (.Try body [.ExceptHandler (some (.Name x p1)) (some n) [.Assign [.Name m p2] (.Name n p3) p4] p5] [] [] p6) (fun D σ H => tb (wErr X.K c i j X.N.length D) D σ H) := by
  refine ⟨fun pins st σ H D I start => wpAny_Try_except ?_⟩
  have ok := I.ok
  have frames : X.A.frames = some (X.env :: X.outer) := by rw [ok.frames, hs]
  let back : Value → Shared → Prop := fun u t1 => wpAny (model X.prog X.w) X.A (noteFrame u X.env) (fun _ t2 => wpAny (model X.prog X.w) X.A (setFlight u none)
    (fun _ t3 => wpAny (model X.prog X.w) X.A (handleBy u X.env [.ExceptHandler (some (.Name x p1)) (some n) [.Assign [.Name m p2] (.Name n p3) p4] p5]) (SP X pins D) X.xe t3) X.xe t2) X.xe t1
  have caught : Takes (X.tr (X.pn ++ pins) back) (wErr X.K c i j X.N.length D) := by
    rintro u t1 ⟨a, B, t0, qs, σ1, H1, cls, d, rfl, J0, inB, slots, sky, na, sameOs, gens, hm, rfl, hnx⟩
    have J1 : Inv X pins σ1 H1 t0 := J0.ofTry ok
    show back (.ref a) t1
    refine Sky.land Zc.steady frames hf (by rw [← hs]; exact sky) fun h1 fly1 up1 => ?_
    have J2 : Inv X pins σ1 H1 { t1 with heap := h1 } := J1.landed inB fly1.1 (slots.trans up1) sameOs gens
    obtain ⟨o1, f1, at1, z1, d1⟩ := fly1.there
    have notFrame : a ∉ frs (X.env :: X.outer) := fun hm => by
      obtain ⟨_, o2, e2, nf⟩ := fly1.2.2.1.mem hm
      rw [at1] at e2
      cases e2
      exact nf _ d1
    have nL : a ≠ X.env.locals := fun z => notFrame (List.mem_filterMap.mpr ⟨X.env, List.mem_cons_self, by rw [hf, z]⟩)
    have nF : a ∉ X.fs := fun hm => by
      obtain ⟨e, he, q⟩ := List.mem_filterMap.mp hm
      exact notFrame (List.mem_filterMap.mpr ⟨e, List.mem_cons_of_mem _ he, q⟩)
    have new0 : t0.heap.get? a = none := by
      cases q : t0.heap.get? a with
      | none => rfl
      | some o =>
        have z := inB a o q (by rw [hs]; exact notFrame)
        rw [fly1.2.1] at z
        cases z
    have newS : X.s_0.heap.get? a = none := by
      cases q : X.s_0.heap.get? a with
      | none => rfl
      | some o =>
        obtain ⟨o', e⟩ := J1.base.there a o q (by rw [hx0]; exact fun z => nomatch z)
        rw [new0] at e
        cases e
    refine wpAny_handleBy_cons (codeAny_handlers_test ?_) (fun q => nomatch q)
    have S1 := J2.suite at1 d1 na nL nF
    have ask : ∀ {Q E : Value → Shared → Prop}, Q c { t1 with heap := h1 } → wpAny (model X.prog X.w) (X.A.mark (some (.ref a))) (eval (.Name x p1) X.env) Q E { t1 with heap := h1 } := fun {Q E} q => by
      obtain ⟨g1, g2, g3 | ⟨g3, g4, g5⟩⟩ := hc
      · exact ld_glob (X := X.suite a ((a, o1) :: (X.pn ++ pins))) S1 g1 g3 q g2
      · exact ld_blt (X := X.suite a ((a, o1) :: (X.pn ++ pins))) S1 g1 g3 g4 q g5 g2
    have LT : PySem.W.Looks (model X.prog X.w) h1 (typeOf (.ref a)) cls := fun A Q E t k q => wpAny_typeOf_ref (k _ _ at1) (by rw [z1.1]; exact q)
    refine ask ((PySem.W.exm_one (M := model X.prog X.w) J2.kIn LT hm).here ?_)
    refine codeAny_handlers_suite_as (HandSPX.lands_againZ fly1 fun h2 fly2 up2 => ?_)
    have J3 : Inv X pins σ1 H1 { t1 with heap := h2 } := J1.landed inB fly2.1 ((slots.trans up1).trans up2) sameOs gens
    obtain ⟨o2, f2, at2, z2, d2⟩ := fly2.there
    have S2 := J3.suite at2 d2 na nL nF
    refine store_ok (X := X.suite a ((a, o2) :: (X.pn ++ pins))) (v := .ref a) S2 hN hi (.inl hln) rfl (fun t4 S4 => ?_) (.inr hln)
    have il : i < σ1.length := by rw [J1.len]; exact (List.getElem?_eq_some_iff.mp hi).1
    have suite : PSs (X.suite a ((a, o2) :: (X.pn ++ pins))) [.Assign [.Name m p2] (.Name n p3) p4] (tAsg (tVar i) (gName j)) :=
      pss_one (ps_set (i := j) hN hj (.inl hlm) (pe_var (i := i) hi (.inl hln) hdn hcn) (by rfl) (.inr hlm))
    refine wpAny_mono (suite.run [] t4 (σ1.set i (some (.ref a))) H1 { nx := fun σ' H' => σ' = (σ1.set i (some (.ref a))).set j (some (.ref a)) ∧ H' = H1, rt := fun _ _ => False } S4 ⟨.ref a, List.getElem?_set_self il, rfl, rfl⟩) (fun fl t5 hsp => ?_) (fun _ _ z => False.elim z)
    cases fl with
    | next =>
      obtain ⟨σ5, H5, S5, rfl, rfl⟩ := hsp
      obtain ⟨at5, n5, _⟩ := S5.pin (a, o2) (List.mem_append.mpr (.inl List.mem_cons_self))
      have J5 : Inv X pins _ H5 t5 := S5.unsuite ok
      have J6 : Inv X pins ((σ1.set i (some (.ref a))).set j (some (.ref a))) (upd H5 a (ErrO a cls)) t5 := track J5 n5 newS nL
        (fun y q e z => by
          obtain ⟨v, ob, ho, _⟩ := J1.cell y q e
          rw [z, new0] at ho
          cases ho)
        (fun p hp z => by
          have h1 := (J1.pin p hp).1
          rw [z, new0] at h1
          cases h1) (errO_ok at5 z2 d2)
      exact gone_ok J6 hN hi hln fun t7 J7 => ⟨_, _, J7, hnx a n5 J1.len⟩
    | brk => obtain ⟨_, _, _, z⟩ := hsp; exact z.elim
    | cont => obtain ⟨_, _, _, z⟩ := hsp; exact z.elim
    | ret u => obtain ⟨_, _, _, _, _, z⟩ := hsp; exact z.elim
  refine wpAny_mono ((hb (wErr X.K c i j X.N.length D) (X.pn ++ pins) back caught PassesOwn.looking).run [] st σ H D (I.toTry _) start) (fun fl t1 hsp => ?_) (fun _ _ z => z)
  cases fl with
  | next => obtain ⟨σ', H', J, q⟩ := hsp; exact wpAny_execs_nil ⟨σ', H', J.ofTry ok, q⟩
  | brk => obtain ⟨σ', H', J, q⟩ := hsp; exact ⟨σ', H', J.ofTry ok, q⟩
  | cont => obtain ⟨σ', H', J, q⟩ := hsp; exact ⟨σ', H', J.ofTry ok, q⟩
  | ret u => obtain ⟨v, σ', H', J, r, q⟩ := hsp; exact ⟨v, σ', H', J.ofTry ok, r, q⟩
end
def nine : List Str := ["NoFraction", "NoPolynomial", "NoSums", "NoFlock", "NoWalk", "NoSum", "NoDeed", "NoText", "NoRow"]
def idx9 (x : Str) : Option Int := (nine.findIdx? fun y => x == y).map fun n => (n : Int)
structure ErrF (K : PySem.W.Frag) : Prop where
  c : ∀ x ∈ nine, ExcC K (He.ga K x)
  no : ∀ y ∈ nine, PySem.W.kitOne K (.type "NoneType") (.ref (He.ga K y)) = some false
  kit : ∀ x ∈ nine, ∀ y ∈ nine, PySem.W.kitOne K (.ref (He.ga K x)) (.ref (He.ga K y)) = some (x == y)
  ve : ∀ x ∈ nine, PySem.W.kitOne K (.ref (He.ga K x)) (.type "ValueError") = some true
  ex : ∀ x ∈ nine, PySem.W.exmOne K (.ref (He.ga K x)) (.ref (He.ga K "MomentError")) = some true
def excCB (K : PySem.W.Frag) (C : Addr) : Bool := decide (PySem.W.findIn K (.ref C) "__getattribute__" = some (some (.builtin "BaseException.__getattribute__"))) && (decide (PySem.W.findIn K (.ref C) "__getattr__" = some none) && (decide (PySem.W.subIn K (.ref C) (.type "BaseException") = some true) &&
  (PySem.W.hasDictIn K C && (decide (PySem.W.findIn K (.ref C) "__class__" = some (some (.builtin "object.__class__"))) && (decide (PySem.W.specialIn K (.builtin "object.__class__") "__get__" = some (some (.builtin "getset_descriptor.__get__"))) &&
  (decide (PySem.W.takesIn K (.builtin "object.__class__") = some true) && decide (PySem.W.mroIn K C (.type "object") = some true)))))))
def errB (K : PySem.W.Frag) : Bool := nine.all fun x => excCB K (He.ga K x) && (decide (PySem.W.kitOne K (.type "NoneType") (.ref (He.ga K x)) = some false) && ((nine.all fun y => decide (PySem.W.kitOne K (.ref (He.ga K x)) (.ref (He.ga K y)) = some (x == y))) &&
  (decide (PySem.W.kitOne K (.ref (He.ga K x)) (.type "ValueError") = some true) && decide (PySem.W.exmOne K (.ref (He.ga K x)) (.ref (He.ga K "MomentError")) = some true))))
theorem errB_ok {K : PySem.W.Frag} (h : errB K = true) : ErrF K := by
  have h' := List.all_eq_true.mp h
  have p := fun x hx => He.ba (h' x hx)
  have p2 := fun x hx => He.ba (p x hx).2
  have p3 := fun x hx => He.ba (p2 x hx).2
  have p4 := fun x hx => He.ba (p3 x hx).2
  refine ⟨fun x hx => ?_, fun x hx => of_decide_eq_true (p2 x hx).1, fun x hx y hy => of_decide_eq_true (List.all_eq_true.mp (p3 x hx).1 y hy), fun x hx => of_decide_eq_true (p4 x hx).1, fun x hx => of_decide_eq_true (p4 x hx).2⟩
  obtain ⟨a1, b1⟩ := He.ba (p x hx).1
  obtain ⟨a2, b2⟩ := He.ba b1
  obtain ⟨a3, b3⟩ := He.ba b2
  obtain ⟨a4, b4⟩ := He.ba b3
  obtain ⟨a5, b5⟩ := He.ba b4
  obtain ⟨a6, b6⟩ := He.ba b5
  obtain ⟨a7, a8⟩ := He.ba b6
  exact ⟨of_decide_eq_true a1, of_decide_eq_true a2, of_decide_eq_true a3, a4, of_decide_eq_true a5, of_decide_eq_true a6, of_decide_eq_true a7, of_decide_eq_true a8⟩
def rIsErr (K : PySem.W.Frag) (y : V) (u : Value) : List V → Hp → VK → Prop := fun xs H Q => ∃ (x : V) (b : Bool), xs = [x, y] ∧ ClsV y u ∧
  ((x = .non ∧ PySem.W.kitOne K (.type "NoneType") u = some b) ∨ ∃ a C, x = .ref a ∧ H a = some (ErrO a (.ref C)) ∧ ExcC K C ∧ PySem.W.kitOne K (.ref C) u = some b) ∧ Q (.bl b) H
theorem call_isErr {X : Cx} {y : V} {u : Value} : CallR X (.builtin "isinstance") (rIsErr X.K y u) := by
  intro pins s σ H xs us Q I r h
  obtain ⟨x, b, rfl, k, hx, q⟩ := h
  obtain ⟨u1, u2, rfl, r1, r2⟩ := vals2 r
  have e2 := k.eq r2
  subst e2
  rcases hx with ⟨rfl, e⟩ | ⟨a, C, rfl, hH, Cc, e⟩
  · obtain ⟨P, Z, p, hx⟩ := kit_of (t := .type "NoneType") I r1 (.base .non)
    exact PySem.W.kia_one Z I.kIn p e hx fun tk => ⟨.bl b, H, I.tok tk, rfl, q⟩
  · cases (show u1 = Value.ref a from r1)
    obtain ⟨⟨o, vs, e1, z, d1⟩, _⟩ := (show ObjOk X.prog X.w H s.heap a (ErrO a (.ref C)) from I.hok a _ hH)
    have J : PySem.W.InstAt s.heap a o C none := by
      obtain ⟨oc, od, dt, osl⟩ := o
      obtain ⟨z1, z2⟩ := z
      dsimp only at z1 z2 d1
      subst z1 z2 d1
      exact ⟨e1, rfl, rfl, trivial⟩
    exact PySem.W.kia_one (PySem.W.handS_kitx_exc Cc.hg Cc.hk Cc.hs Cc.hd Cc.ha Cc.hn Cc.ht Cc.hm) I.kIn J e (fun z => nomatch z) fun tk => ⟨.bl b, H, I.tok tk, rfl, q⟩
theorem pe_isErr (K : PySem.W.Frag) {X : Cx} {y : V} (u : Value) {e e2 : Expr} {te : TE} {p pos : Pos} (hi : X.mg "isinstance" = none) (ha : PE X e te) (hb : PE X e2 (tC y)) (hK : X.K = K := by rfl) (hg : Gl X "isinstance" := by rfl)
    (he : starEach [e, e2] X.env = (false, eval e X.env) :: starEach [e2] X.env := by rfl) (hs2 : starEach [e2] X.env = (false, eval e2 X.env) :: starEach [] X.env := by rfl) (hpl : (backTo pos (starEach [e2] X.env)).any (·.1) = false := by rfl) :
    PE X (.Call (.Name "isinstance" p) [e, e2] [] pos) (tCB (rIsErr K y u) (tCons te (tCons (tC y) tNil))) := by
  subst hK
  exact pe_callB call_isErr hg hi boot_isinstance (pa_cons ha (pa_cons hb pa_nil hs2) he) (he := he) (hpl := hpl)
def wIsE (j : Nat) (x : Str) : FE := fun env s k => match at_ env j with
  | .val .non => k (.val (.bl false)) env s
  | .val (.exc y) => y ∈ nine ∧ k (.val (.bl (y == x))) env s
  | _ => False
def wIsV (j : Nat) : FE := fun env s k => match at_ env j with
  | .val .non => k (.val (.bl false)) env s
  | .val (.exc y) => y ∈ nine ∧ k (.val (.bl true)) env s
  | _ => False
section
variable {c : Cxt}
theorem de_isErr {j : Nat} {f : FE} {y : V} {u : Value} (ky : ClsV y u) (hf : ∀ env s k, f env s k → (at_ env j = .val .non ∧ PySem.W.kitOne c.K (.type "NoneType") u = some false ∧ k (.val (.bl false)) env s) ∨
    ∃ x b, at_ env j = .val (.exc x) ∧ ExcC c.K (He.ga c.K x) ∧ PySem.W.kitOne c.K (.ref (He.ga c.K x)) u = some b ∧ k (.val (.bl b)) env s) : DE c (tCB (rIsErr c.K y u) (tCons (tVar j) (tCons (tC y) tNil))) f := by
  intro G env s σ H k Q R h q
  rcases hf env s k h with ⟨e1, e2, e3⟩ | ⟨x, b, e1, e2, e3, e4⟩
  · obtain ⟨v, h1, h2⟩ := R.vals j _ (at_val e1 (by simp))
    simp only [Rep] at h2
    subst h2
    exact ⟨_, h1, .non, false, rfl, ky, .inl ⟨rfl, e2⟩, q G H _ (.val (.bl false)) env s R (Ex.refl G) (by simp only [RV, Rep]) e3⟩
  · obtain ⟨v, h1, h2⟩ := R.vals j _ (at_val e1 (by simp))
    simp only [Rep] at h2
    obtain ⟨p, rfl, h3⟩ := h2
    exact ⟨_, h1, .ref p, b, rfl, ky, .inr ⟨p, _, rfl, R.ex _ _ h3, e2, e3⟩, q G H _ (.val (.bl b)) env s R (Ex.refl G) (by simp only [RV, Rep]) e4⟩
theorem de_isE {j : Nat} {x : Str} (E : ErrF c.K) (hx : x ∈ nine) : DE c (tCB (rIsErr c.K (.ref (He.ga c.K x)) (.ref (He.ga c.K x))) (tCons (tVar j) (tCons (tC (.ref (He.ga c.K x))) tNil))) (wIsE j x) :=
  de_isErr (.own _) fun env s k h => by
    unfold wIsE at h
    split at h
    · rename_i e; exact .inl ⟨e, E.no x hx, h⟩
    · rename_i y e; exact .inr ⟨y, _, e, E.c y h.1, E.kit y h.1 x hx, h.2⟩
    · exact h.elim
theorem kit_noVE {K : PySem.W.Frag} : PySem.W.kitOne K (.type "NoneType") (.type "ValueError") = some false := kit_ty (by decide +kernel)
theorem de_isV {j : Nat} (E : ErrF c.K) : DE c (tCB (rIsErr c.K (.ty "ValueError") (.type "ValueError")) (tCons (tVar j) (tCons (tC (.ty "ValueError")) tNil))) (wIsV j) :=
  de_isErr (.ty _) fun env s k h => by
    unfold wIsV at h
    split at h
    · rename_i e; exact .inl ⟨e, kit_noVE, h⟩
    · rename_i y e; exact .inr ⟨y, _, e, E.c y h.1, E.ve y h.1, h.2⟩
    · exact h.elim
end
def TTref (K : PySem.W.Frag) (T : List (Addr × Str)) : (XK → Hp → VK → Prop) → Hp → VK → Prop := fun tl H Q => ∃ (c : Cxt) (G : Hp) (s0 : S) (k : Sl → S → Prop), c.K = K ∧ c.T = T ∧ Rel c G [] s0 [] H ∧
  (∀ G' H' v r s', Rel c G' [] s' [] H' → RV c G' H' [] [] v r → k r s' → Q v H') ∧
  ∀ (Ech : XK) (Qn : VK), (∀ G' H' x i s', Rel c G' [] s' [] H' → idx9 x = some i → k (.own [.int i]) s' → Ech (.ref (He.ga K x)) none H') → (∀ G' H' v s', Rel c G' [] s' [] H' → k (.val .non) s' → Qn v H') → tl Ech H Qn
def blank : EnvD → EnvD
  | [] => []
  | _ :: r => .no :: blank r
def pick (env : EnvD) : List Nat → EnvD → EnvD
  | [], acc => acc
  | i :: is, acc => pick env is (acc.set i (at_ env i))
def frz : List Nat → EnvD → EnvD
  | [], env => env
  | i :: is, env => frz is (env.set i (.val (at_ env i).d))
def has : List Nat → EnvD → Prop
  | [], _ => True
  | i :: is, env => at_ env i ≠ .no ∧ has is env
def wRef (caps : List Nat) (fe : (Str → S → Prop) → FE) : FE := fun env s k => has caps env ∧
  fe (fun x s' => ∃ i, idx9 x = some i ∧ k (.own [.int i]) (frz caps env) s') (pick (frz caps env) caps (blank env)) s (fun _ _ s' => k (.val .non) (frz caps env) s')
section
variable {c : Cxt}
theorem Rel.ext {G H H1 : Hp} {env : EnvD} {s : S} {σ : L2.St} (R : Rel c G env s σ H) (eN : LamX.ExtN H H1) (t : LamX.Tabs c.T H1) : Rel c G env s σ H1 :=
  { R with ex := fun p o h => eN p o (R.ex p o h) (fun ps z => R.gtb p ps (by rw [h, z]))
           st := fun a ha => ⟨(R.st a ha).1, let ⟨x, b, h1, h2⟩ := (R.st a ha).2; ⟨x, b, h1, eN _ _ h2 (fun _ z => by cases z)⟩⟩
           keep := fun p o h1 h2 h3 => eN p o (R.keep p o h1 h2 h3) h3
           kn := fun p hp => R.knN (by
             cases e : noT H p with
             | none => rfl
             | some o =>
               obtain ⟨h1, h2⟩ := noT_some e
               rw [eN p o h1 h2] at hp
               cases hp)
           tab := t
           owns := fun i ds hi => (by
             obtain ⟨v, h1, p, vs, h2, h3, h4, h5, h6, h7⟩ := R.owns i ds hi
             exact ⟨v, h1, p, vs, h2, h3, h4, h5, eN _ _ h6 (fun _ z => by cases z), h7⟩) }
theorem frz_rel {H : Hp} {s : S} {σ : L2.St} : ∀ {caps : List Nat} {G : Hp} {env : EnvD}, Rel c G env s σ H → has caps env → ∃ G', Rel c G' (frz caps env) s σ H ∧ Ex G G'
  | [], G, env, R, _ => ⟨G, R, Ex.refl G⟩
  | i :: is, G, env, R, h => by
    have hs : ∀ (js : List Nat) (x : Sl), x ≠ .no → has js env → has js (env.set i x) := fun js x hx => by
      induction js with
      | nil => exact fun z => z
      | cons j js ih =>
        intro z
        refine ⟨?_, ih z.2⟩
        have hl : j < env.length := by
          cases e : at_ env j with
          | no => exact absurd e z.1
          | val d => exact (List.getElem?_eq_some_iff.mp (at_val e (by simp))).1
          | own d => exact (List.getElem?_eq_some_iff.mp (at_val e (by simp))).1
        by_cases hij : i = j
        · subst hij
          have : (env.set i x)[i]? = some x := List.getElem?_set_self hl
          rw [at_of this]
          exact hx
        · intro e
          refine z.1 ?_
          have q : env[j]? = some env[j] := List.getElem?_eq_getElem hl
          have q2 : (env.set i x)[j]? = some env[j] := by rw [List.getElem?_set_ne hij]; exact q
          rw [at_of q2] at e
          rw [at_of q]
          exact e
    cases e : at_ env i with
    | no => exact absurd e h.1
    | val d =>
      have q := at_val e (by simp)
      have e2 : env.set i (.val (at_ env i).d) = env := by
        rw [e]
        obtain ⟨hl, hx⟩ := List.getElem?_eq_some_iff.mp q
        show env.set i (.val d) = env
        rw [← hx]
        exact List.set_getElem_self hl
      show ∃ G', Rel c G' (frz is (env.set i (.val (at_ env i).d))) s σ H ∧ Ex G G'
      rw [e2]
      exact frz_rel R h.2
    | own ds =>
      obtain ⟨G', v, _, R', e', _⟩ := R.freeze (at_val e (by simp))
      show ∃ G', Rel c G' (frz is (env.set i (.val (at_ env i).d))) s σ H ∧ Ex G G'
      rw [e]
      obtain ⟨G2, R2, e2⟩ := frz_rel R' (hs is (.val (.lst ds)) (by simp) h.2)
      exact ⟨G2, R2, e'.trans e2⟩
theorem frz_len : ∀ (caps : List Nat) (env : EnvD), (frz caps env).length = env.length
  | [], _ => rfl
  | i :: is, env => by
    show (frz is (env.set i _)).length = _
    rw [frz_len is, List.length_set]
theorem blank_len : ∀ env : EnvD, (blank env).length = env.length
  | [] => rfl
  | _ :: r => by simp [blank, blank_len r]
theorem blank_at : ∀ {env : EnvD} {i : Nat} {x : Sl}, (blank env)[i]? = some x → x = .no
  | [], _, _, h => by simp [blank] at h
  | _ :: r, 0, x, h => by simpa [blank] using h.symm
  | _ :: r, i + 1, x, h => blank_at (env := r) (i := i) (by simpa [blank] using h)
theorem pick_len (env : EnvD) : ∀ (caps : List Nat) (acc : EnvD), (pick env caps acc).length = acc.length
  | [], _ => rfl
  | i :: is, acc => by
    show (pick env is (acc.set i _)).length = _
    rw [pick_len env is, List.length_set]
theorem pick_at {env : EnvD} {i : Nat} {x : Sl} : ∀ {caps : List Nat} {acc : EnvD}, (pick env caps acc)[i]? = some x → i ∈ caps ∧ x = at_ env i ∨ acc[i]? = some x
  | [], _, h => .inr h
  | j :: js, acc, h => by
    rcases pick_at (caps := js) (acc := acc.set j (at_ env j)) h with ⟨h1, h2⟩ | h1
    · exact .inl ⟨List.mem_cons_of_mem _ h1, h2⟩
    · by_cases hij : j = i
      · subst hij
        by_cases hl : j < acc.length
        · rw [List.getElem?_set_self hl] at h1
          exact .inl ⟨List.mem_cons_self, (Option.some.inj h1).symm⟩
        · rw [List.getElem?_eq_none (by rw [List.length_set]; omega)] at h1; cases h1
      · rw [List.getElem?_set_ne hij] at h1
        exact .inr h1
theorem frz_val {i : Nat} : ∀ {caps : List Nat} {env : EnvD}, i ∈ caps ∨ (∃ d, at_ env i = .val d) ∨ at_ env i = .no → (∃ d, at_ (frz caps env) i = .val d) ∨ at_ (frz caps env) i = .no
  | [], env, h => by
    rcases h with h | h
    · simp at h
    · exact h
  | j :: js, env, h => by
    show (∃ d, at_ (frz js (env.set j _)) i = .val d) ∨ at_ (frz js (env.set j _)) i = .no
    refine frz_val (caps := js) ?_
    by_cases hij : j = i
    · subst hij
      by_cases hl : j < env.length
      · exact .inr (.inl ⟨_, at_of (List.getElem?_set_self hl)⟩)
      · refine .inr (.inr ?_)
        cases e : at_ (env.set j (.val (at_ env j).d)) j with
        | no => rfl
        | val d => have := (List.getElem?_eq_some_iff.mp (at_val e (by simp))).1; rw [List.length_set] at this; exact absurd this hl
        | own d => have := (List.getElem?_eq_some_iff.mp (at_val e (by simp))).1; rw [List.length_set] at this; exact absurd this hl
    · rcases h with h | h
      · rcases List.mem_cons.mp h with h | h
        · exact absurd h.symm hij
        · exact .inl h
      · refine .inr ?_
        have : at_ (env.set j (.val (at_ env j).d)) i = at_ env i := by
          cases e : env[i]? with
          | none =>
            have e2 : (env.set j (.val (at_ env j).d))[i]? = none := by rw [List.getElem?_set_ne hij]; exact e
            have z : ∀ (l : EnvD), l[i]? = none → at_ l i = .no := fun l hl => by
              cases q : at_ l i with
              | no => rfl
              | val d => rw [at_val q (by simp)] at hl; cases hl
              | own d => rw [at_val q (by simp)] at hl; cases hl
            rw [z _ e, z _ e2]
          | some x => rw [at_of e, at_of (show (env.set j (.val (at_ env j).d))[i]? = some x by rw [List.getElem?_set_ne hij]; exact e)]
        rw [this]
        exact h
theorem de_ref {caps : List Nat} {fe : (Str → S → Prop) → FE} {t : XK → TE} (h : ∀ (H0 G0 : Hp) (E : XK) (xq : Str → S → Prop), EOk (c.inn H0 G0) (He.ga c.K) E xq → DE (c.inn H0 G0) (t E) (fe xq)) : DE c (LamX.tLam c.T (TTref c.K c.T) t) (wRef caps fe) := by
  intro G env s σ H k Q R hf q
  obtain ⟨hn, hf⟩ := hf
  obtain ⟨G2, R2, e2⟩ := frz_rel R hn
  refine ⟨R2.tab, fun H1 eN T1 => ?_⟩
  have R3 := R2.ext eN T1
  have Ri := R3.inn
  have Rm : Rel (c.inn H1 G2) G2 (pick (frz caps env) caps (blank env)) s σ H1 :=
    { Ri with len := (by rw [pick_len, blank_len, ← R3.len, frz_len])
              vals := fun i d hi => (by
                rcases pick_at hi with ⟨_, h2⟩ | h1
                · exact R3.vals i d (at_val h2.symm (by simp))
                · have := blank_at h1; cases this)
              owns := fun i ds hi => (by
                rcases pick_at hi with ⟨h1, h2⟩ | h1
                · rcases frz_val (env := env) (.inl h1) with ⟨d, e⟩ | e
                  · rw [← h2] at e; cases e
                  · rw [← h2] at e; cases e
                · have := blank_at h1; cases this)
              dist := fun i j ds es v hi _ _ _ => (by
                rcases pick_at hi with ⟨h1, h2⟩ | h1
                · rcases frz_val (env := env) (.inl h1) with ⟨d, e⟩ | e
                  · rw [← h2] at e; cases e
                  · rw [← h2] at e; cases e
                · have := blank_at h1; cases this) }
  refine ⟨c.inn H1 G2, G2, s, fun r s' => k r (frz caps env) s', rfl, rfl, Ri, fun G' H' v r s' R' rv kk => q G' H' v r _ s' (R3.out R') (e2.trans R'.gx) (RV.out R3 R' rv) kk, fun Ech Qn hE hN => ?_⟩
  exact h H1 G2 Ech (fun x s' => ∃ i, idx9 x = some i ∧ k (.own [.int i]) (frz caps env) s') (fun G' H' x s' R' ⟨i, hi, kk⟩ => hE G' H' x i s' R' hi kk) G2 _ s σ H1 _ Qn Rm hf fun G' H' v r env' s' R' e rv kk => hN G' H' v s' R'.bare kk
end
abbrev nRef : List Str := ["_law_call", "_law_error", "e", "_law_kinds", "_law_k"]
theorem nRef_nd : nRef.Nodup := by decide
def BRef : FS :=
  (wSeq (wAsg (wLst (wCons (wIsE 1 "NoFraction") (wCons (wIsE 1 "NoPolynomial") (wCons (wIsE 1 "NoSums") wNil)))) (wName 3))
  (wSeq (wAsg (wOpv gCat 3 (wP (wLst (wCons (wIsE 1 "NoFlock") (wCons (wIsE 1 "NoWalk") (wCons (wIsE 1 "NoSum") wNil)))))) (wName 3))
  (wSeq (wAsg (wOpv gCat 3 (wP (wLst (wCons (wIsE 1 "NoDeed") (wCons (wIsE 1 "NoText") (wCons (wIsE 1 "NoRow") wNil)))))) (wName 3))
  (wSeq (wIfS (wNot (wB (wIsV 1)))
  (wRet (wC .non))
  wNext)
  (wRet (wComp (wRng1 (wCons (wC (.int 9)) wNil)) (wName 4) (wB (wIxv 3 (wPV 4))) (wV 4) [4]))))))
def tbRef (f c' : Addr) (q : Str) (tl : XK → Hp → VK → Prop) : WX → TS := fun W D σ H => ∃ Ech : XK, (∀ cls d σ' H', Ech cls d H' → W cls d σ' H') ∧ σ[0]? = some (some (.ref f)) ∧ H c' = some (LamX.CodeO c' q) ∧ tl Ech H (fun _ H' => D.nx σ H')
def envE (d : D) : EnvD := [.no, .val d, .no, .no, .no]
theorem rel_env {c : Cxt} {G H : Hp} {s : S} {d : D} {v : V} {σ : L2.St} (R : Rel c G [] s [] H) (hl : σ.length = 5) (h1 : σ[1]? = some (some v)) (h2 : Rep c.K G d v) : Rel c G (envE d) s σ H :=
  { R with len := hl.symm
           vals := fun i e hi => (by
             have hi' : ([.no, .val d, .no, .no, .no] : EnvD)[i]? = some (.val e) := hi
             match i with
             | 0 => simp at hi'
             | 1 => simp at hi'; subst hi'; exact ⟨v, h1, h2⟩
             | 2 => simp at hi'
             | 3 => simp at hi'
             | 4 => simp at hi'
             | n + 5 => simp at hi')
           owns := fun i e hi => (by
             have hi' : ([.no, .val d, .no, .no, .no] : EnvD)[i]? = some (.own e) := hi
             match i with
             | 0 => simp at hi'
             | 1 => simp at hi'
             | 2 => simp at hi'
             | 3 => simp at hi'
             | 4 => simp at hi'
             | n + 5 => simp at hi')
           dist := fun i j e es w hi _ _ _ => (by
             have hi' : ([.no, .val d, .no, .no, .no] : EnvD)[i]? = some (.own e) := hi
             match i with
             | 0 => simp at hi'
             | 1 => simp at hi'
             | 2 => simp at hi'
             | 3 => simp at hi'
             | 4 => simp at hi'
             | n + 5 => simp at hi') }
theorem gives_ref {X : Cx} {T : List (Addr × Str)} {sg : Scope} {g : Addr} {cdg : Value} {q : Str} {p1 p2 p3 p4 p5 p6 p7 p8 p9 p10 p11 p12 : Pos} {jj : Nat} {rest : List Stmt} {trest : TS}
    (E : ErrF X.K) (hln : sg.names.lookup ("e" : Str) = some NameKind.local) (hlm : sg.names.lookup ("_law_error" : Str) = some NameKind.local) (hx : sg.names.lookup ("MomentError" : Str) = some NameKind.globalImplicit)
    (hmx : X.mg "MomentError" = some (.ref (He.ga X.K "MomentError")))
    (hf1 : ∀ y i s k, idx9 y = some i → k (.own [.int i]) s → BRef (envE (.exc y)) s (kBody k)) (hf2 : ∀ s k, k (.val .non) s → BRef (envE .non) s (kBody k))
    (hd : ∀ c : Cxt, c.K = X.K → c.T = T → DS c trest BRef)
    (hrest : ∀ (s : Shared) (H : Hp), PSs (cxOf C8.CX0 X.prog X.w X.K X.mg X.base nRef "_law_refused" sg g cdg X.A X.stack s H C8.E0).nox rest trest) :
    LamX.GivesTo X nRef "_law_refused" sg g cdg (.Assign [.Name "_law_error" p1] (.Constant .none jj p2) p3 :: .Try [.Expr (.Call (.Name "_law_call" p4) [] [] p5) p6] [.ExceptHandler (some (.Name "MomentError" p7)) (some "e") [.Assign [.Name "_law_error" p8] (.Name "e" p9) p10] p11] [] [] p12 :: rest) "_law_call" q (TTref X.K T) := by
  intro f c' s H Q tl act hc h
  obtain ⟨c, G, s0, k, hK, hT, R, hq, htl⟩ := h
  refine ⟨_, pss_cons (ps_set (i := 1) nRef_nd rfl (.inl hlm) pe_non rfl (.inr hlm)) (pss_cons (ps_try_err (X := (cxOf C8.CX0 X.prog X.w X.K X.mg X.base nRef "_law_refused" sg g cdg X.A X.stack s H C8.E0).nox) (i := 2) (j := 1) (tb := tbRef f c' q tl) rfl rfl nRef_nd rfl rfl hln hlm rfl ⟨hx, by decide, .inl hmx⟩ (by decide) (by decide) (fun W pn xe tk _ => ?_)) (hrest s H)), ?_⟩
  · refine ⟨fun pins s' σ H' D I h' => ?_⟩
    obtain ⟨Ech, hW, h1, h2, h3⟩ := h'
    exact (pss_one (ps_expr (pos := p6) (act W pn xe Ech p4 p5 tk hW))).run pins s' σ H' D I ⟨h1, h2, h3⟩
  · have DE0 : ∀ (G' : Hp) (kk : Sl → S → Prop), (∀ G'' H' v r s', Rel c G'' [] s' [] H' → RV c G'' H' [] [] v r → kk r s' → Q v H') → DEnd c G' (kBody kk) { nx := fun _ H' => Q .non H', rt := Q } := fun G' kk hq =>
      ⟨fun G' H' env' s2 σ' R' e z => hq G' H' .non (.val .non) s2 R'.bare (by simp only [RV, Rep]) z, fun G' H' s2 v r R' e rv z => hq G' H' v r s2 R' rv z, fun _ _ _ _ _ _ _ z => z.elim, fun _ _ _ _ _ _ _ z => z.elim⟩
    refine ⟨fun cls d H' => ∃ G' x i s', cls = .ref (He.ga X.K x) ∧ d = none ∧ Rel c G' [] s' [] H' ∧ idx9 x = some i ∧ k (.own [.int i]) s', fun cls d σ' H' z => ?_, rfl, hc, htl _ _ (fun G' H' x i s' R' hi kk => ⟨G', x, i, s', rfl, rfl, R', hi, kk⟩) (fun G' H' v s' R' kk => ?_)⟩
    · obtain ⟨G', x, i, s', rfl, rfl, R', hi, kk⟩ := z
      have hx9 : x ∈ nine := by
        unfold idx9 at hi
        cases e : nine.findIdx? fun y => x == y with
        | none => rw [e] at hi; cases hi
        | some n =>
          obtain ⟨h1, h2, _⟩ := List.findIdx?_eq_some_iff_getElem.mp e
          rw [beq_iff_eq.mp h2]
          exact List.getElem_mem h1
      refine ⟨E.ex x hx9, rfl, fun a ha hl => ?_⟩
      have hl5 : σ'.length = 5 := hl
      have R1 := R'.new (o := ErrO a (.ref (He.ga X.K x))) ha (fun ps z => by unfold ErrO at z; cases z)
      have R2 := R1.grow upd_same (R'.kn a ha) (R'.g0 ha) (R'.a0ne ha) (fun ps z => by unfold ErrO at z; cases z) (R'.newApart ha)
      refine hd c hK hT _ (envE (.exc x)) s' _ _ (kBody k) _ (rel_env (d := .exc x) (v := .ref a) R2 (by simp [hl5]) (by rw [List.getElem?_set_ne (by decide), List.getElem?_set_self (by rw [List.length_set, hl5]; decide)]) ?_) (hf1 x i s' k hi kk) (DE0 _ k hq)
      simp only [Rep]
      exact ⟨a, rfl, by rw [hK, upd_same]⟩
    · refine hd c hK hT _ (envE .non) s' _ _ (kBody k) _ (rel_env (d := .non) (v := .non) R' rfl rfl (by simp only [Rep])) (hf2 s' k kk) (DE0 _ k hq)
theorem pe_ref {b : Book} {X : Cx} {T : List (Addr × Str)} {st : Stmt} {f0 : Str} {k : Nat} {t : XK → TE} {params : Arguments} {body : Expr} {scope : Scope} {p lpos pos : Pos} (TX : Txt b X.K X.mg) (TB : TBs b X.K X.mg X.base T X.prog) (i j : Nat)
    (hd : b.fn[i]? = some ⟨("_law_refused", none), "_law_refused", "_law_refused", defArgs st, defBody st, defScope st, [], []⟩) (hg : b.fa[j]? = some (.glo "_law_refused")) (Sg : FnScope nRef ["_law_call"] (defScope st))
    (hbind : ∀ (kV doc pm : Value) (an : Option Addr) (cdv ct : Value) (us : List Value), us.length = 1 → bindArgs (PySem.W.fnOf "_law_refused" "_law_refused" (defArgs st) (defBody st) (defScope st) .none kV doc pm an cdv ct) ⟨us, []⟩ = pure ((["_law_call"] : List Str).zip us))
    (hva : Vis (defScope st) "_law_call") (hG : ∀ cdg, LamX.GivesTo X nRef "_law_refused" (defScope st) (He.ga X.K "_law_refused") cdg (defBody st) "_law_call" (X.env.qual ++ "<lambda>") (TTref X.K T))
    (hit : (f0, none) ∈ b.tf) (hcv : X.env.code = .ref (He.cT X.K (f0, none)).1) (hq : X.env.qual = f0 ++ ".<locals>.") (hr : Room (k + 2) X.A) (L : LamX.lamSB X.env.scope scope = true)
    (hbody : ∀ (A : Around) (outer : List Env) (s : Shared) (H : Hp) (E : XK) (f c' : Addr), Room k (A.deeper (LamX.lamEnv X scope s.heap.objs.size f c')) → PE (LamX.lamCx X A outer s H E scope f c') body (t E))
    (hgl : Gl X "_law_refused" := by rfl) (hdef : defaultsOf params X.env = ([], []) := by rfl)
    (hbind2 : ∀ (q : Str) (cl : List (Str × Addr)) (pm cv ctv : Value), bindArgs (PySem.W.kla_fn "<lambda>" q params body scope cl pm cv ctv) ⟨[], []⟩ = pure [] := by intros; rfl) :
    PE X (.Call (.Name "_law_refused" p) [.Lambda params body scope lpos] [] pos) (LamX.tLam T (TTref X.K T) t) := by
  obtain ⟨fd, FD⟩ := TX.fun_ i hd
  have FD' : FunD X.K "_law_refused" "_law_refused" (defArgs st) (defBody st) (defScope st) [] [] (He.ga X.K "_law_refused") fd := FD
  obtain ⟨oc, od, dV, kV, doc, pm, an, cdv, ct, osl, e, lk, hcd, _, _⟩ := FD'.ex
  subst e
  have hmem : ((He.cT X.K (f0, none)).2, X.env.qual ++ "<lambda>") ∈ T := by
    rw [TB.eq, hq]
    exact List.mem_map.mpr ⟨(f0, none), hit, rfl⟩
  refine LamX.pe_lamcall (a := "_law_call") hgl (TX.glo j _ hg) FD'.kp lk hcd (FD'.bindsN (ps := ["_law_call"]) hbind) Sg rfl hva (hG cdv) (TB.tb _ hit) hcv hmem (fun r hr' e => ?_) hr (LamX.lamS_by L) hdef hbind2 hbody
  rw [TB.eq] at hr'
  obtain ⟨r0, hr0, rfl⟩ := List.mem_map.mp hr'
  have nd := TX.nd
  have : r0 = (f0, none) := by
    have key : ∀ {l : List He.Defn}, (l.map fun p => (He.cT X.K p).2).Nodup → r0 ∈ l → (f0, none) ∈ l → (He.cT X.K r0).2 = (He.cT X.K (f0, none)).2 → r0 = (f0, none) := by
      intro l
      induction l with
      | nil => intro _ h; simp at h
      | cons x xs ih =>
        intro n h1 h2 e
        rw [List.map_cons, List.nodup_cons] at n
        rcases List.mem_cons.mp h1 with h1 | h1 <;> rcases List.mem_cons.mp h2 with h2 | h2
        · rw [h1, h2]
        · exact absurd (List.mem_map.mpr ⟨_, h2, by rw [← h1]; exact e.symm⟩) n.1
        · exact absurd (List.mem_map.mpr ⟨_, h1, by rw [← h2]; exact e⟩) n.1
        · exact ih n.2 h1 h2 e
    exact key nd hr0 hit e
  rw [this, hq]
end DL
set_option Elab.async false
set_option linter.all false
set_option maxRecDepth 100000
set_option maxHeartbeats 4000000
namespace Wk
open PySem PySem.Spec PyProof.Rows L2 DL
def top (i : Nat) : Stmt := PySem.Challenge.pw_momentwright_k91_texts_that_write_none.main.body.getD i (.Pass ⟨0, 0, 0, 0⟩)
abbrev s_is_whole : Stmt := top 13
abbrev s_divisor : Stmt := top 14
abbrev s_is_fraction : Stmt := top 15
abbrev s_is_less : Stmt := top 16
abbrev s_sign_of : Stmt := top 17
abbrev s_is_spot : Stmt := top 19
abbrev s_is_crowd : Stmt := top 20
abbrev s_is_polynomial : Stmt := top 22
abbrev s_need_text : Stmt := top 27
abbrev s_whole_in : Stmt := top 28
abbrev s_fraction_in : Stmt := top 29
abbrev s_read_fraction : Stmt := top 30
abbrev s_read_sums : Stmt := top 31
abbrev s_read_polynomial : Stmt := top 32
abbrev s_spot_in : Stmt := top 33
abbrev s_read_crowd : Stmt := top 34
abbrev s__law_cell_at : Stmt := top 36
abbrev s__law_state : Stmt := top 37
abbrev s__law_take : Stmt := top 38
abbrev s__law_divisor : Stmt := top 39
abbrev s__law_low : Stmt := top 40
abbrev s__law_small : Stmt := top 41
abbrev s__law_above : Stmt := top 42
abbrev s__law_plus : Stmt := top 43
abbrev s__law_crowd : Stmt := top 44
abbrev s__law_times : Stmt := top 45
abbrev s__law_crowd_sums : Stmt := top 46
abbrev s__law_sums : Stmt := top 47
abbrev s__law_clean : Stmt := top 48
abbrev s__law_polynomial : Stmt := top 49
abbrev s__law_less : Stmt := top 50
abbrev s__law_same : Stmt := top 51
abbrev s__law_refused : Stmt := top 52
abbrev s__law_word : Stmt := top 53
abbrev s__law_whole_in : Stmt := top 54
abbrev s__law_fraction_in : Stmt := top 55
abbrev s__law_sums_in : Stmt := top 56
abbrev s__law_polynomial_in : Stmt := top 57
abbrev s__law_crowd_in : Stmt := top 58
abbrev s__law_bent : Stmt := top 59
abbrev s__law_right : Stmt := top 60
abbrev s_law : Stmt := top 61
def bk : Book where
  fn := [⟨("is_whole", none), "is_whole", "is_whole", defArgs s_is_whole, defBody s_is_whole, defScope s_is_whole, [], []⟩, ⟨("divisor", none), "divisor", "divisor", defArgs s_divisor, defBody s_divisor, defScope s_divisor, [], []⟩, ⟨("is_fraction", none), "is_fraction", "is_fraction", defArgs s_is_fraction, defBody s_is_fraction, defScope s_is_fraction, [], []⟩, ⟨("is_less", none), "is_less", "is_less", defArgs s_is_less, defBody s_is_less, defScope s_is_less, [], []⟩, ⟨("sign_of", none), "sign_of", "sign_of", defArgs s_sign_of, defBody s_sign_of, defScope s_sign_of, [], []⟩, ⟨("is_spot", none), "is_spot", "is_spot", defArgs s_is_spot, defBody s_is_spot, defScope s_is_spot, [], []⟩, ⟨("is_crowd", none), "is_crowd", "is_crowd", defArgs s_is_crowd, defBody s_is_crowd, defScope s_is_crowd, [], []⟩, ⟨("is_polynomial", none), "is_polynomial", "is_polynomial", defArgs s_is_polynomial, defBody s_is_polynomial, defScope s_is_polynomial, [], []⟩, ⟨("need_text", none), "need_text", "need_text", defArgs s_need_text, defBody s_need_text, defScope s_need_text, [], []⟩, ⟨("whole_in", none), "whole_in", "whole_in", defArgs s_whole_in, defBody s_whole_in, defScope s_whole_in, [], []⟩, ⟨("fraction_in", none), "fraction_in", "fraction_in", defArgs s_fraction_in, defBody s_fraction_in, defScope s_fraction_in, [], []⟩, ⟨("read_fraction", none), "read_fraction", "read_fraction", defArgs s_read_fraction, defBody s_read_fraction, defScope s_read_fraction, [], []⟩, ⟨("read_sums", none), "read_sums", "read_sums", defArgs s_read_sums, defBody s_read_sums, defScope s_read_sums, [], []⟩, ⟨("read_polynomial", none), "read_polynomial", "read_polynomial", defArgs s_read_polynomial, defBody s_read_polynomial, defScope s_read_polynomial, [], []⟩, ⟨("spot_in", none), "spot_in", "spot_in", defArgs s_spot_in, defBody s_spot_in, defScope s_spot_in, [], []⟩, ⟨("read_crowd", none), "read_crowd", "read_crowd", defArgs s_read_crowd, defBody s_read_crowd, defScope s_read_crowd, [], []⟩, ⟨("_law_cell_at", none), "_law_cell_at", "_law_cell_at", defArgs s__law_cell_at, defBody s__law_cell_at, defScope s__law_cell_at, [], []⟩, ⟨("_law_state", none), "_law_state", "_law_state", defArgs s__law_state, defBody s__law_state, defScope s__law_state, [], []⟩, ⟨("_law_take", none), "_law_take", "_law_take", defArgs s__law_take, defBody s__law_take, defScope s__law_take, [], []⟩, ⟨("_law_divisor", none), "_law_divisor", "_law_divisor", defArgs s__law_divisor, defBody s__law_divisor, defScope s__law_divisor, [], []⟩, ⟨("_law_low", none), "_law_low", "_law_low", defArgs s__law_low, defBody s__law_low, defScope s__law_low, [], []⟩, ⟨("_law_small", none), "_law_small", "_law_small", defArgs s__law_small, defBody s__law_small, defScope s__law_small, [], []⟩, ⟨("_law_above", none), "_law_above", "_law_above", defArgs s__law_above, defBody s__law_above, defScope s__law_above, [], []⟩, ⟨("_law_plus", none), "_law_plus", "_law_plus", defArgs s__law_plus, defBody s__law_plus, defScope s__law_plus, [], []⟩, ⟨("_law_crowd", none), "_law_crowd", "_law_crowd", defArgs s__law_crowd, defBody s__law_crowd, defScope s__law_crowd, [], []⟩, ⟨("_law_times", none), "_law_times", "_law_times", defArgs s__law_times, defBody s__law_times, defScope s__law_times, [], []⟩, ⟨("_law_crowd_sums", none), "_law_crowd_sums", "_law_crowd_sums", defArgs s__law_crowd_sums, defBody s__law_crowd_sums, defScope s__law_crowd_sums, [], []⟩, ⟨("_law_sums", none), "_law_sums", "_law_sums", defArgs s__law_sums, defBody s__law_sums, defScope s__law_sums, [], []⟩, ⟨("_law_clean", none), "_law_clean", "_law_clean", defArgs s__law_clean, defBody s__law_clean, defScope s__law_clean, [], []⟩, ⟨("_law_polynomial", none), "_law_polynomial", "_law_polynomial", defArgs s__law_polynomial, defBody s__law_polynomial, defScope s__law_polynomial, [], []⟩, ⟨("_law_less", none), "_law_less", "_law_less", defArgs s__law_less, defBody s__law_less, defScope s__law_less, [], []⟩, ⟨("_law_same", none), "_law_same", "_law_same", defArgs s__law_same, defBody s__law_same, defScope s__law_same, [], []⟩, ⟨("_law_refused", none), "_law_refused", "_law_refused", defArgs s__law_refused, defBody s__law_refused, defScope s__law_refused, [], []⟩, ⟨("_law_word", none), "_law_word", "_law_word", defArgs s__law_word, defBody s__law_word, defScope s__law_word, [], []⟩, ⟨("_law_whole_in", none), "_law_whole_in", "_law_whole_in", defArgs s__law_whole_in, defBody s__law_whole_in, defScope s__law_whole_in, [], []⟩, ⟨("_law_fraction_in", none), "_law_fraction_in", "_law_fraction_in", defArgs s__law_fraction_in, defBody s__law_fraction_in, defScope s__law_fraction_in, [], []⟩, ⟨("_law_sums_in", none), "_law_sums_in", "_law_sums_in", defArgs s__law_sums_in, defBody s__law_sums_in, defScope s__law_sums_in, [], []⟩, ⟨("_law_polynomial_in", none), "_law_polynomial_in", "_law_polynomial_in", defArgs s__law_polynomial_in, defBody s__law_polynomial_in, defScope s__law_polynomial_in, [], []⟩, ⟨("_law_crowd_in", none), "_law_crowd_in", "_law_crowd_in", defArgs s__law_crowd_in, defBody s__law_crowd_in, defScope s__law_crowd_in, [], []⟩, ⟨("_law_bent", none), "_law_bent", "_law_bent", defArgs s__law_bent, defBody s__law_bent, defScope s__law_bent, [], []⟩, ⟨("_law_right", none), "_law_right", "_law_right", defArgs s__law_right, defBody s__law_right, defScope s__law_right, [], []⟩, ⟨("law", none), "law", "law", defArgs s_law, defBody s_law, defScope s_law, [], []⟩]
  fa := [.glo "is_whole", .glo "divisor", .glo "is_fraction", .glo "is_less", .glo "sign_of", .glo "is_spot", .glo "is_crowd", .glo "is_polynomial", .glo "need_text", .glo "whole_in", .glo "fraction_in", .glo "read_fraction", .glo "read_sums", .glo "read_polynomial", .glo "spot_in", .glo "read_crowd", .glo "_law_cell_at", .glo "_law_state", .glo "_law_take", .glo "_law_divisor", .glo "_law_low", .glo "_law_small", .glo "_law_above", .glo "_law_plus", .glo "_law_crowd", .glo "_law_times", .glo "_law_crowd_sums", .glo "_law_sums", .glo "_law_clean", .glo "_law_polynomial", .glo "_law_less", .glo "_law_same", .glo "_law_refused", .glo "_law_word", .glo "_law_whole_in", .glo "_law_fraction_in", .glo "_law_sums_in", .glo "_law_polynomial_in", .glo "_law_crowd_in", .glo "_law_bent", .glo "_law_right", .glo "law", .glo "ZERO", .glo "MomentError", .glo "NoFraction", .glo "NoPolynomial", .glo "NoSums", .glo "NoFlock", .glo "NoWalk", .glo "NoSum", .glo "NoDeed", .glo "NoText", .glo "NoRow", .exc "MomentError", .exc "NoFraction", .exc "NoPolynomial", .exc "NoSums", .exc "NoFlock", .exc "NoWalk", .exc "NoSum", .exc "NoDeed", .exc "NoText", .exc "NoRow", .free "isinstance", .free "int", .free "bool", .free "abs", .free "tuple", .free "len", .free "list", .free "all", .free "zip", .free "str", .str "FIGURES" "0123456789", .str "NOUGHT" "nought", .str "NONE" "none", .free "range", .free "ValueError", .free "min", .free "max"]
  tu := [("ZERO", [.int 0, .int 1])]
  tf := [("_law_right", none), ("law", none)]
  ck := errB
end Wk
set_option Elab.async false
set_option linter.all false
set_option maxRecDepth 100000
set_option maxHeartbeats 0
namespace En
open PySem PySem.Spec PyProof.Rows L2 DL
def loose0 : List PySem.Str := ["MomentError", "NoFraction", "NoPolynomial", "NoSums", "NoFlock", "NoWalk", "NoSum", "NoDeed", "NoText", "NoRow", "ZERO", "is_whole", "divisor", "is_fraction", "is_less", "sign_of", "is_spot", "is_crowd", "is_polynomial", "FIGURES"]
def loose1 : List PySem.Str := ["NONE", "NOUGHT", "need_text", "whole_in", "fraction_in", "read_fraction", "read_sums", "read_polynomial", "spot_in", "read_crowd", "_law_cell_at", "_law_state", "_law_take", "_law_divisor", "_law_low", "_law_small", "_law_above", "_law_plus", "_law_crowd", "_law_times"]
def loose2 : List PySem.Str := ["_law_crowd_sums", "_law_sums", "_law_clean", "_law_polynomial", "_law_less", "_law_same", "_law_refused", "_law_word", "_law_whole_in", "_law_fraction_in", "_law_sums_in", "_law_polynomial_in", "_law_crowd_in", "_law_bent", "_law_right"]
abbrev R : PySem.W.OpenRow := PySem.W.OpenLaw.row PySem.Challenge.rw_momentwright_k91_texts_that_write_none
abbrev hk : PySem.W.Hook := hookZ 2 Wk.bk
def ob (s : PySem.W.SharedT) : He.AlX := obsZ 2 Wk.bk (HandSHeadRun.getT s)
theorem ob_eq (s : PySem.W.SharedT) : ob s = hk.obs s.abs := obsZ_eq (HandSHeadRun.getT_eq s)
theorem run (w : World) : HandSHeadRun.RunEq R (PySem.W.view R.prog [61]) hk ob 17500 (loose0 ++ loose1 ++ loose2) w := by
  intro os
  kernel_rfl
end En
set_option Elab.async false
set_option linter.all false
set_option maxRecDepth 100000
set_option maxHeartbeats 1000000
namespace DL
open PySem L2
def fr (q : Rat) : D := .tup [.int q.num, .int q.den]
def Sz (n : Nat) (q : Rat) : Prop := q.num.natAbs < 2 ^ n ∧ q.den < 2 ^ n
theorem Sz.mono {n m : Nat} {q : Rat} (h : Sz n q) (e : n ≤ m) : Sz m q :=
  ⟨Nat.lt_of_lt_of_le h.1 (Nat.pow_le_pow_right (by decide) e), Nat.lt_of_lt_of_le h.2 (Nat.pow_le_pow_right (by decide) e)⟩
theorem bits_lt {i : Int} {n : Nat} (h : i.natAbs < 2 ^ n) : Builtin.Int.intBits i ≤ n := by
  unfold Builtin.Int.intBits
  split
  · exact Nat.zero_le _
  · rename_i h0
    have h1 : i.natAbs ≠ 0 := by
      intro z
      simp [Int.natAbs_eq_zero] at z
      subst z
      simp at h0
    have := (Nat.log2_lt h1).mpr h
    omega
theorem mulOk {i j : Int} {n m : Nat} (hi : i.natAbs < 2 ^ n) (hj : j.natAbs < 2 ^ m) (h : n + m ≤ 134217728) : DL.MulOk i j := by
  unfold DL.MulOk IntMulOk
  intro z
  rw [Bool.and_eq_true] at z
  have z2 := z.2
  unfold Builtin.Int.intTooBig at z2
  have z3 := of_decide_eq_true z2
  have e : bitsLine = 134217728 := by decide
  rw [e] at z3
  have h1 := bits_lt hi
  have h2 := bits_lt hj
  omega
theorem log2_lt' {x n : Nat} (h : x < 2 ^ n) (h0 : 0 < n) : x.log2 < n := by
  by_cases hx : x = 0
  · subst hx
    show Nat.log2 0 < n
    have : Nat.log2 0 = 0 := by decide
    omega
  · exact (Nat.log2_lt hx).mpr h
theorem divOk {i j : Int} {n : Nat} (h : j ≠ 0) (_ : j.natAbs < 2 ^ n) (_ : n ≤ 60000000) : DL.DivOk i j := h
theorem divOkB {i j : Int} {n : Nat} (h : j ≠ 0) (hj : j.natAbs < 2 ^ n) (hn : n ≤ 9000) : DL.DivOkB i j := by
  refine ⟨h, PyProof.noPylong_of_log2 ?_⟩
  have h0 : 0 < n := by
    rcases Nat.eq_zero_or_pos n with z | z
    · subst z
      have : j.natAbs = 0 := by simpa using hj
      exact absurd (Int.natAbs_eq_zero.mp this) h
    · exact z
  have := log2_lt' hj h0
  omega
theorem natAbs_mul_lt {i j : Int} {n m : Nat} (hi : i.natAbs < 2 ^ n) (hj : j.natAbs < 2 ^ m) : (i * j).natAbs < 2 ^ (n + m) := by
  rw [Int.natAbs_mul, Nat.pow_add]
  exact Nat.mul_lt_mul'' hi hj
theorem natAbs_add_lt {i j : Int} {n : Nat} (hi : i.natAbs < 2 ^ n) (hj : j.natAbs < 2 ^ n) : (i + j).natAbs < 2 ^ (n + 1) := by
  have := Int.natAbs_add_le i j
  rw [Nat.pow_succ]
  omega
theorem natAbs_sub_lt {i j : Int} {n : Nat} (hi : i.natAbs < 2 ^ n) (hj : j.natAbs < 2 ^ n) : (i - j).natAbs < 2 ^ (n + 1) := by
  have := Int.natAbs_sub_le i j
  rw [Nat.pow_succ]
  omega
theorem fmod_lt {a b : Int} (h : b ≠ 0) : (a.fmod b).natAbs < b.natAbs := by
  rcases Int.lt_trichotomy b 0 with hb | hb | hb
  · have h1 := Int.fmod_def a b
    have e : a.fmod b = -((-a).fmod (-b)) := by
      rw [Int.fmod_def, Int.fmod_def]
      have : a.fdiv b = (-a).fdiv (-b) := (Int.neg_fdiv_neg a b).symm
      rw [this, Int.neg_mul]
      omega
    have h2 := Int.fmod_nonneg_of_pos (-a) (show 0 < -b by omega)
    have h3 := Int.fmod_lt_of_pos (-a) (show 0 < -b by omega)
    omega
  · exact absurd hb h
  · have h2 := Int.fmod_nonneg_of_pos a hb
    have h3 := Int.fmod_lt_of_pos a hb
    omega
theorem gcd_fmod (a b : Int) : Int.gcd b (a.fmod b) = Int.gcd a b := by
  have e : a = a.fmod b + b * a.fdiv b := (Int.fmod_add_mul_fdiv a b).symm
  refine Nat.dvd_antisymm (Int.dvd_gcd ?_ (Int.gcd_dvd_left ..)) (Int.dvd_gcd (Int.gcd_dvd_right ..) ?_)
  · have h1 : ((Int.gcd b (a.fmod b) : Nat) : Int) ∣ b := Int.gcd_dvd_left ..
    have h2 : ((Int.gcd b (a.fmod b) : Nat) : Int) ∣ a.fmod b := Int.gcd_dvd_right ..
    conv => rhs; rw [e]
    exact Int.dvd_add h2 (Int.dvd_trans h1 (Int.dvd_mul_right ..))
  · have h1 : ((Int.gcd a b : Nat) : Int) ∣ a := Int.gcd_dvd_left ..
    have h2 : ((Int.gcd a b : Nat) : Int) ∣ b := Int.gcd_dvd_right ..
    rw [Int.fmod_def]
    exact Int.dvd_sub h1 (Int.dvd_trans h2 (Int.dvd_mul_right ..))
theorem ratio_num_den {t b : Int} (hb : b ≠ 0) :
    (if b < 0 then t.fdiv (0 - (Int.gcd t b : Int)) else t.fdiv (Int.gcd t b : Int)) = ((t : Rat) / (b : Rat)).num ∧
    (if b < 0 then b.fdiv (0 - (Int.gcd t b : Int)) else b.fdiv (Int.gcd t b : Int)) = (((t : Rat) / (b : Rat)).den : Int) := by
  rw [← Rat.divInt_eq_div]
  have hg : (Int.gcd t b : Int) ≠ 0 := by
    intro z
    have : Int.gcd t b = 0 := by omega
    exact hb (Int.gcd_eq_zero_iff.mp this).2
  have hgp : 0 < (Int.gcd t b : Int) := by omega
  obtain ⟨t', ht⟩ : (Int.gcd t b : Int) ∣ t := Int.gcd_dvd_left ..
  obtain ⟨b', hb'⟩ : (Int.gcd t b : Int) ∣ b := Int.gcd_dvd_right ..
  generalize hG : (Int.gcd t b : Int) = g at *
  have ft : t.fdiv g = t' := by
    rw [Int.fdiv_eq_ediv_of_nonneg _ (by omega), ht, Int.mul_ediv_cancel_left _ hg]
  have fb : b.fdiv g = b' := by
    rw [Int.fdiv_eq_ediv_of_nonneg _ (by omega), hb', Int.mul_ediv_cancel_left _ hg]
  have ft' : t.fdiv (0 - g) = -t' := by
    rw [Int.zero_sub, ht, Int.mul_comm, ← Int.neg_mul_neg t' g, Int.mul_fdiv_cancel _ (by omega)]
  have fb' : b.fdiv (0 - g) = -b' := by
    rw [Int.zero_sub, hb', Int.mul_comm, ← Int.neg_mul_neg b' g, Int.mul_fdiv_cancel _ (by omega)]
  have hgc : (b.gcd t : Int) = g := by rw [Int.gcd_comm]; exact hG
  have h1 : (Rat.divInt t b).num = b.sign * t / (b.gcd t : Int) := Rat.num_divInt t b
  have h2 := Rat.den_divInt t b
  have hden : ((b.natAbs / b.gcd t : Nat) : Int) = b'.natAbs := by
    have e1 : b.natAbs = b.gcd t * b'.natAbs := by
      have e2 : b.natAbs = g.natAbs * b'.natAbs := by rw [← Int.natAbs_mul, ← hb']
      rw [e2, ← hgc]
      rfl
    rw [e1, Nat.mul_div_cancel_left _ (by omega)]
  rw [if_neg hb] at h2
  by_cases hlt : b < 0
  · have hb2 : b' < 0 := by
      rcases Int.lt_trichotomy b' 0 with h | h | h
      · exact h
      · rw [h, Int.mul_zero] at hb'; omega
      · have := Int.mul_pos hgp h; omega
    rw [if_pos hlt, if_pos hlt, ft', fb', h1, h2, hgc]
    have hs : b.sign = -1 := Int.sign_eq_neg_one_of_neg hlt
    constructor
    · rw [hs, Int.neg_one_mul, Int.neg_ediv_of_dvd ⟨t', ht⟩, ht, Int.mul_ediv_cancel_left _ hg]
    · rw [hden]
      omega
  · have hb2 : 0 < b' := by
      rcases Int.lt_trichotomy b' 0 with h | h | h
      · have := Int.mul_neg_of_pos_of_neg hgp h; omega
      · rw [h, Int.mul_zero] at hb'; omega
      · exact h
    rw [if_neg hlt, if_neg hlt, ft, fb, h1, h2, hgc]
    have hs : b.sign = 1 := Int.sign_eq_one_of_pos (by omega)
    constructor
    · rw [hs, Int.one_mul, ht, Int.mul_ediv_cancel_left _ hg]
    · rw [hden]
      omega
theorem fr_ratio {t b : Int} (hb : b ≠ 0) : fr ((t : Rat) / (b : Rat)) = .tup [.int (if b < 0 then t.fdiv (0 - (Int.gcd t b : Int)) else t.fdiv (Int.gcd t b : Int)), .int (if b < 0 then b.fdiv (0 - (Int.gcd t b : Int)) else b.fdiv (Int.gcd t b : Int))] := by
  unfold fr
  rw [(ratio_num_den hb).1, (ratio_num_den hb).2]
theorem fr_inj {p q : Rat} (h : fr p = fr q) : p = q := by
  unfold fr at h
  injection h with h
  injection h with h1 h2
  injection h2 with h2
  injection h1 with h1
  injection h2 with h2
  exact Rat.ext h1 (by omega)
theorem rat_add (p q : Rat) : ((p.num * q.den + q.num * p.den : Int) : Rat) / ((p.den * q.den : Int) : Rat) = p + q := by
  have h1 := p.num_divInt_den
  have h2 := q.num_divInt_den
  have hp : (p.den : Int) ≠ 0 := by have := p.den_nz; omega
  have hq : (q.den : Int) ≠ 0 := by have := q.den_nz; omega
  rw [← Rat.divInt_eq_div]
  conv => rhs; rw [← h1, ← h2]
  rw [Rat.divInt_add_divInt _ _ hp hq]
theorem rat_mul (p q : Rat) : ((p.num * q.num : Int) : Rat) / ((p.den * q.den : Int) : Rat) = p * q := by
  have h1 := p.num_divInt_den
  have h2 := q.num_divInt_den
  rw [← Rat.divInt_eq_div]
  conv => rhs; rw [← h1, ← h2]
  rw [Rat.divInt_mul_divInt]
theorem rat_sub (p q : Rat) : ((p.num * q.den - q.num * p.den : Int) : Rat) / ((p.den * q.den : Int) : Rat) = p - q := by
  have h1 := p.num_divInt_den
  have h2 := q.num_divInt_den
  have hp : (p.den : Int) ≠ 0 := by have := p.den_nz; omega
  have hq : (q.den : Int) ≠ 0 := by have := q.den_nz; omega
  rw [← Rat.divInt_eq_div]
  conv => rhs; rw [← h1, ← h2]
  rw [Rat.divInt_sub_divInt _ _ hp hq]
theorem num_ne {q : Rat} (h : q ≠ 0) : q.num ≠ 0 := fun z => h (Rat.num_eq_zero.mp z)
theorem rat_div (p q : Rat) (h : q ≠ 0) : ((p.num * q.den : Int) : Rat) / ((p.den * q.num : Int) : Rat) = p / q := by
  have h1 := p.num_divInt_den
  have h2 := q.num_divInt_den
  rw [← Rat.divInt_eq_div]
  conv => rhs; rw [← h1, ← h2]
  rw [Rat.div_def, Rat.inv_divInt, Rat.divInt_mul_divInt]
theorem sz_div {t b : Int} {n : Nat} (hb : b ≠ 0) (h1 : t.natAbs < 2 ^ n) (h2 : b.natAbs < 2 ^ n) : Sz n ((t : Rat) / (b : Rat)) := by
  rw [← Rat.divInt_eq_div]
  refine ⟨?_, ?_⟩
  · rw [Rat.num_divInt]
    have : (b.sign * t / (b.gcd t : Int)).natAbs ≤ t.natAbs := by
      have e1 : (b.sign * t / (b.gcd t : Int)).natAbs ≤ (b.sign * t).natAbs := Int.natAbs_ediv_le_natAbs _ _
      have e2 : (b.sign * t).natAbs ≤ t.natAbs := by
        rw [Int.natAbs_mul, Int.natAbs_sign_of_ne_zero hb, Nat.one_mul]
        exact Nat.le_refl _
      omega
    omega
  · rw [Rat.den_divInt, if_neg hb]
    have : b.natAbs / b.gcd t ≤ b.natAbs := Nat.div_le_self _ _
    omega
theorem sz_add {p q : Rat} {n m : Nat} (hp : Sz n p) (hq : Sz m q) : Sz (n + m + 1) (p + q) := by
  rw [← rat_add]
  have hp0 := p.den_nz
  have hq0 := q.den_nz
  refine sz_div (by simp; omega) (natAbs_add_lt (natAbs_mul_lt hp.1 (by simpa using hq.2)) ?_) ?_
  · have := natAbs_mul_lt (i := q.num) (j := p.den) hq.1 (by simpa using hp.2)
    rwa [Nat.add_comm] at this
  · have := natAbs_mul_lt (i := p.den) (j := q.den) (n := n) (m := m) (by simpa using hp.2) (by simpa using hq.2)
    exact Nat.lt_of_lt_of_le this (Nat.pow_le_pow_right (by decide) (by omega))
theorem sz_sub {p q : Rat} {n m : Nat} (hp : Sz n p) (hq : Sz m q) : Sz (n + m + 1) (p - q) := by
  rw [← rat_sub]
  have hp0 := p.den_nz
  have hq0 := q.den_nz
  refine sz_div (by simp; omega) (natAbs_sub_lt (natAbs_mul_lt hp.1 (by simpa using hq.2)) ?_) ?_
  · have := natAbs_mul_lt (i := q.num) (j := p.den) hq.1 (by simpa using hp.2)
    rwa [Nat.add_comm] at this
  · have := natAbs_mul_lt (i := p.den) (j := q.den) (n := n) (m := m) (by simpa using hp.2) (by simpa using hq.2)
    exact Nat.lt_of_lt_of_le this (Nat.pow_le_pow_right (by decide) (by omega))
theorem sz_mul {p q : Rat} {n m : Nat} (hp : Sz n p) (hq : Sz m q) : Sz (n + m) (p * q) := by
  rw [← rat_mul]
  have hp0 := p.den_nz
  have hq0 := q.den_nz
  exact sz_div (by simp; omega) (natAbs_mul_lt hp.1 hq.1) (natAbs_mul_lt (by simpa using hp.2) (by simpa using hq.2))
theorem sz_quot {p q : Rat} {n m : Nat} (hp : Sz n p) (hq : Sz m q) (h : q ≠ 0) : Sz (n + m) (p / q) := by
  rw [← rat_div _ _ h]
  have hp0 := p.den_nz
  exact sz_div (Int.mul_ne_zero (by omega) (num_ne h)) (natAbs_mul_lt hp.1 (by simpa using hq.2)) (natAbs_mul_lt (by simpa using hp.2) hq.1)
theorem gcd_ok {t b : Int} {n : Nat} (hb : b ≠ 0) (hz : b.natAbs < 2 ^ n) (hn : n ≤ 60000000) (i : Int) : DL.DivOk i (Int.gcd t b : Int) ∧ DL.DivOk i (0 - (Int.gcd t b : Int)) := by
  have h0 : Int.gcd t b ≠ 0 := fun z => hb (Int.gcd_eq_zero_iff.mp z).2
  have h1 : Int.gcd t b ≤ b.natAbs := Int.gcd_le_natAbs_right t hb
  exact ⟨divOk (n := n) (by omega) (by omega) hn, divOk (n := n) (by omega) (by omega) hn⟩
theorem sz_zero : Sz 1 0 := ⟨by decide, by decide⟩
theorem sz_one : Sz 1 1 := ⟨by decide, by decide⟩
theorem fr_zero : fr 0 = .tup [.int 0, .int 1] := rfl
theorem fr_one : fr 1 = .tup [.int 1, .int 1] := rfl
theorem atI_nat' {α : Type} {l : List α} {n : Nat} (hn : n < l.length) : atI l (n : Int) = l[n]? := by
  unfold atI ixN
  rw [if_pos (by omega), if_pos (by omega)]
  simp
section
variable {α : Type} {a b c d e f g h i j : α} {l : List α}
theorem atI0 : atI (a :: l) 0 = some a := by
  unfold atI ixN
  simp
theorem atI1 : atI (a :: b :: l) 1 = some b := by
  have := atI_nat' (l := a :: b :: l) (n := 1) (by simp)
  simpa using this
theorem atI2 : atI (a :: b :: c :: l) 2 = some c := by
  have := atI_nat' (l := a :: b :: c :: l) (n := 2) (by simp)
  simpa using this
theorem atI3 : atI (a :: b :: c :: d :: l) 3 = some d := by
  have := atI_nat' (l := a :: b :: c :: d :: l) (n := 3) (by simp)
  simpa using this
theorem atI_succ {n : Nat} (hn : n < l.length) : atI (a :: l) ((n : Int) + 1) = atI l (n : Int) := by
  rw [show ((n : Int) + 1) = ((n + 1 : Nat) : Int) by omega]
  rw [atI_nat' (by simp; omega), atI_nat' hn]
  simp
theorem ex_some {p : α → Prop} {x : α} : (∃ y, some x = some y ∧ p y) ↔ p x := ⟨fun ⟨_, e, h⟩ => by cases e; exact h, fun h => ⟨x, rfl, h⟩⟩
end
theorem forW_inv {α : Type} {l : List α} {f : α → D} {fg : FG} {fb : FS} {k : Fl → Prop} (I : Nat → EnvD → S → Prop)
    (hs : ∀ i (hi : i < l.length) env s, I i env s → ∀ KN : EnvD → S → Prop, (∀ e s', I (i + 1) e s' → KN e s') → fg (.val (f l[i])) env s (fun env1 s1 => fb env1 s1 (fun fl => match fl with
      | .nx e s2 => KN e s2
      | .ct e s2 => KN e s2
      | .bk e s2 => k (.nx e s2)
      | .rt r s2 => k (.rt r s2))))
    {env : EnvD} {s : S} (h0 : I 0 env s) (he : ∀ env s, I l.length env s → k (.nx env s)) : forW fg fb k (l.map f) env s := by
  have H : ∀ n i, i + n = l.length → ∀ env s, I i env s → forW fg fb k ((l.drop i).map f) env s := by
    intro n
    induction n with
    | zero =>
      intro i hi env s h
      rw [List.drop_eq_nil_of_le (by omega)]
      have : i = l.length := by omega
      subst this
      exact he _ _ h
    | succ n ih =>
      intro i hi env s h
      have hi' : i < l.length := by omega
      rw [List.drop_eq_getElem_cons hi']
      exact hs i hi' env s h _ (fun e s' h' => ih (i + 1) (by omega) e s' h')
  simpa using H l.length 0 (by omega) env s h0
theorem forW_int {lo : Int} {n : Nat} {fg : FG} {fb : FS} {k : Fl → Prop} (I : Nat → EnvD → S → Prop)
    (hs : ∀ i, i < n → ∀ env s, I i env s → ∀ KN : EnvD → S → Prop, (∀ e s', I (i + 1) e s' → KN e s') → fg (.val (.int (lo + (i : Nat)))) env s (fun env1 s1 => fb env1 s1 (fun fl => match fl with
      | .nx e s2 => KN e s2
      | .ct e s2 => KN e s2
      | .bk e s2 => k (.nx e s2)
      | .rt r s2 => k (.rt r s2))))
    {env : EnvD} {s : S} (h0 : I 0 env s) (he : ∀ env s, I n env s → k (.nx env s)) : forW fg fb k (intL lo n) env s := by
  unfold intL
  refine forW_inv (α := Nat) (l := List.range n) (f := fun i => .int (lo + (i : Nat))) I (fun i hi env s h KN hk => ?_) h0 (by simpa using he)
  rw [List.getElem_range]
  exact hs i (by simpa using hi) env s h KN hk
theorem compW_map {α : Type} {f g : α → D} {fg : FG} {fe : FE} {vs : List Nat} {k : List D → EnvD → S → Prop} {env : EnvD} {s : S} :
    ∀ (l : List α) (acc : List D), (∀ a ∈ l, ∀ K : D → EnvD → S → Prop, K (g a) env s → fg (.val (f a)) env s (fun env1 s1 => fe env1 s1 fun r env3 s3 => K r.d (wipeD env3 vs) s3)) →
    k (acc ++ l.map g) env s → compW fg wYes fe vs k (l.map f) acc env s := by
  intro l
  induction l with
  | nil => intro acc _ h; simpa [compW] using h
  | cons a l ih =>
    intro acc hs h
    refine hs a (List.mem_cons_self ..) (fun d e s' => compW fg wYes fe vs k (l.map f) (acc ++ [d]) e s') (ih _ (fun a ha => hs a (List.mem_cons_of_mem _ ha)) ?_)
    simpa using h
theorem compW_int {lo : Int} {n : Nat} {g : Nat → D} {fg : FG} {fe : FE} {vs : List Nat} {k : List D → EnvD → S → Prop} {env : EnvD} {s : S} {acc : List D}
    (hs : ∀ i, i < n → ∀ K : D → EnvD → S → Prop, K (g i) env s → fg (.val (.int (lo + (i : Nat)))) env s (fun env1 s1 => fe env1 s1 fun r env3 s3 => K r.d (wipeD env3 vs) s3))
    (h : k (acc ++ (List.range n).map g) env s) : compW fg wYes fe vs k (intL lo n) acc env s :=
  compW_map (f := fun i : Nat => .int (lo + (i : Nat))) (List.range n) acc (fun a ha => hs a (by simpa using ha)) h
theorem compW_fr {α : Type} {f : α → D} {g : α → Rat} {fg : FG} {fe : FE} {vs : List Nat} {k : List D → EnvD → S → Prop} {env : EnvD} {s : S} {l : List α}
    (hs : ∀ a ∈ l, ∀ K : D → EnvD → S → Prop, K (fr (g a)) env s → fg (.val (f a)) env s (fun env1 s1 => fe env1 s1 fun r env3 s3 => K r.d (wipeD env3 vs) s3))
    (h : k ((l.map g).map fr) env s) : compW fg wYes fe vs k (l.map f) [] env s :=
  compW_map (g := fun a => fr (g a)) l [] hs (by rw [List.map_map] at h; exact h)
theorem compW_ifr {lo : Int} {n : Nat} {g : Nat → Rat} {fg : FG} {fe : FE} {vs : List Nat} {k : List D → EnvD → S → Prop} {env : EnvD} {s : S}
    (hs : ∀ i, i < n → ∀ K : D → EnvD → S → Prop, K (fr (g i)) env s → fg (.val (.int (lo + (i : Nat)))) env s (fun env1 s1 => fe env1 s1 fun r env3 s3 => K r.d (wipeD env3 vs) s3))
    (h : k (((List.range n).map g).map fr) env s) : compW fg wYes fe vs k (intL lo n) [] env s :=
  compW_int (g := fun a => fr (g a)) hs (by rw [List.map_map] at h; exact h)
theorem forW_rng {n : Nat} {fg : FG} {fb : FS} {k : Fl → Prop} (I : Nat → EnvD → S → Prop)
    (hs : ∀ i, i < n → ∀ env s, I i env s → ∀ KN : EnvD → S → Prop, (∀ e s', I (i + 1) e s' → KN e s') → fg (.val (.int (i : Nat))) env s (fun env1 s1 => fb env1 s1 (fun fl => match fl with
      | .nx e s2 => KN e s2
      | .ct e s2 => KN e s2
      | .bk e s2 => k (.nx e s2)
      | .rt r s2 => k (.rt r s2))))
    {env : EnvD} {s : S} (h0 : I 0 env s) (he : ∀ env s, I n env s → k (.nx env s)) : forW fg fb k (intL 0 n) env s :=
  forW_int I (fun i hi env s h KN hk => by rw [Int.zero_add]; exact hs i hi env s h KN hk) h0 he
theorem compW_rfr {n : Nat} {g : Nat → Rat} {fg : FG} {fe : FE} {vs : List Nat} {k : List D → EnvD → S → Prop} {env : EnvD} {s : S}
    (hs : ∀ i, i < n → ∀ K : D → EnvD → S → Prop, K (fr (g i)) env s → fg (.val (.int (i : Nat))) env s (fun env1 s1 => fe env1 s1 fun r env3 s3 => K r.d (wipeD env3 vs) s3))
    (h : k (((List.range n).map g).map fr) env s) : compW fg wYes fe vs k (intL 0 n) [] env s :=
  compW_ifr (fun i hi K hK => by rw [Int.zero_add]; exact hs i hi K hK) h
theorem compW_rng {n : Nat} {g : Nat → D} {fg : FG} {fe : FE} {vs : List Nat} {k : List D → EnvD → S → Prop} {env : EnvD} {s : S} {acc : List D}
    (hs : ∀ i, i < n → ∀ K : D → EnvD → S → Prop, K (g i) env s → fg (.val (.int (i : Nat))) env s (fun env1 s1 => fe env1 s1 fun r env3 s3 => K r.d (wipeD env3 vs) s3))
    (h : k (acc ++ (List.range n).map g) env s) : compW fg wYes fe vs k (intL 0 n) acc env s :=
  compW_int (fun i hi K hK => by rw [Int.zero_add]; exact hs i hi K hK) h
theorem compW_invE {α : Type} {f : α → D} {fg : FG} {fe : FE} {vs : List Nat} {k : List D → EnvD → S → Prop} (I : List D → EnvD → S → Prop) :
    ∀ (l : List α) (acc : List D) (env : EnvD) (s : S), (∀ a ∈ l, ∀ acc env s, I acc env s → ∀ K : D → EnvD → S → Prop, (∀ d e s', I (acc ++ [d]) e s' → K d e s') → fg (.val (f a)) env s (fun env1 s1 => fe env1 s1 fun r env3 s3 => K r.d (wipeD env3 vs) s3)) →
    I acc env s → (∀ acc' e s', I acc' e s' → acc'.length = acc.length + l.length → k acc' e s') → compW fg wYes fe vs k (l.map f) acc env s := by
  intro l
  induction l with
  | nil => intro acc env s _ h0 h; exact h acc env s h0 rfl
  | cons a l ih =>
    intro acc env s hs h0 h
    exact hs a (List.mem_cons_self ..) acc env s h0 (fun d e s' => compW fg wYes fe vs k (l.map f) (acc ++ [d]) e s') (fun d e s' h' => ih _ _ _ (fun a ha => hs a (List.mem_cons_of_mem _ ha)) h' fun acc' e' s'' h2 h3 => h acc' e' s'' h2 (by simp at h3 ⊢; omega))
theorem compW_filter {α : Type} {f g : α → D} {p : α → Bool} {fg : FG} {ft : FT} {fe : FE} {vs : List Nat} {k : List D → EnvD → S → Prop} {env : EnvD} {s : S} :
    ∀ (l : List α) (acc : List D), (∀ a ∈ l, ∀ (K1 : D → EnvD → S → Prop) (K2 : EnvD → S → Prop), (p a = true → K1 (g a) env s) → (p a = false → K2 env s) →
      fg (.val (f a)) env s (fun env1 s1 => ft env1 s1 fun b env2 s2 => if b = true then fe env2 s2 (fun r env3 s3 => K1 r.d (wipeD env3 vs) s3) else K2 (wipeD env2 vs) s2)) →
    k (acc ++ (l.filter p).map g) env s → compW fg ft fe vs k (l.map f) acc env s := by
  intro l
  induction l with
  | nil => intro acc _ h; simpa [compW] using h
  | cons a l ih =>
    intro acc hs h
    have hs' := fun b hb => hs b (List.mem_cons_of_mem a hb)
    refine hs a (List.mem_cons_self ..) (fun d e s' => compW fg ft fe vs k (l.map f) (acc ++ [d]) e s') (fun e s' => compW fg ft fe vs k (l.map f) acc e s') (fun hp => ih _ hs' ?_) (fun hp => ih _ hs' ?_)
    · rw [List.filter_cons_of_pos hp] at h
      simpa using h
    · rw [List.filter_cons_of_neg (by simp [hp])] at h
      exact h
theorem compW_mapD {g : D → D} {fg : FG} {fe : FE} {vs : List Nat} {k : List D → EnvD → S → Prop} {env : EnvD} {s : S} (l : List D) (acc : List D)
    (hs : ∀ a ∈ l, ∀ K : D → EnvD → S → Prop, K (g a) env s → fg (.val a) env s (fun env1 s1 => fe env1 s1 fun r env3 s3 => K r.d (wipeD env3 vs) s3))
    (h : k (acc ++ l.map g) env s) : compW fg wYes fe vs k l acc env s := by
  have := compW_map (f := fun d => d) l acc hs h
  rwa [List.map_id'] at this
theorem compW_inv {α : Type} {f : α → D} {fg : FG} {fe : FE} {vs : List Nat} {k : List D → EnvD → S → Prop} {env : EnvD} (I : List D → S → Prop) :
    ∀ (l : List α) (acc : List D) (s : S), (∀ a ∈ l, ∀ acc s, I acc s → ∀ K : D → EnvD → S → Prop, (∀ d s', I (acc ++ [d]) s' → K d env s') → fg (.val (f a)) env s (fun env1 s1 => fe env1 s1 fun r env3 s3 => K r.d (wipeD env3 vs) s3)) →
    I acc s → (∀ acc' s', I acc' s' → acc'.length = acc.length + l.length → k acc' env s') → compW fg wYes fe vs k (l.map f) acc env s := by
  intro l
  induction l with
  | nil => intro acc s _ h0 h; exact h acc s h0 rfl
  | cons a l ih =>
    intro acc s hs h0 h
    exact hs a (List.mem_cons_self ..) acc s h0 (fun d e s' => compW fg wYes fe vs k (l.map f) (acc ++ [d]) e s') (fun d s' h' => ih _ _ (fun a ha => hs a (List.mem_cons_of_mem _ ha)) h' fun acc' s'' h2 h3 => h acc' s'' h2 (by simp at h3 ⊢; omega))
theorem compW_filterD {g : D → D} {p : D → Bool} {fg : FG} {ft : FT} {fe : FE} {vs : List Nat} {k : List D → EnvD → S → Prop} {env : EnvD} {s : S} (l : List D) (acc : List D)
    (hs : ∀ a ∈ l, ∀ (K1 : D → EnvD → S → Prop) (K2 : EnvD → S → Prop), (p a = true → K1 (g a) env s) → (p a = false → K2 env s) →
      fg (.val a) env s (fun env1 s1 => ft env1 s1 fun b env2 s2 => if b = true then fe env2 s2 (fun r env3 s3 => K1 r.d (wipeD env3 vs) s3) else K2 (wipeD env2 vs) s2))
    (h : k (acc ++ (l.filter p).map g) env s) : compW fg ft fe vs k l acc env s := by
  have := compW_filter (f := fun d => d) l acc hs h
  rwa [List.map_id'] at this
def Nice : Nat → D → Prop
  | _, .non => True
  | _, .bl _ => True
  | _, .int _ => True
  | _, .str x => PyData.strOk x = true
  | n + 1, .lst ds => ds.length < sizeLine ∧ ∀ d ∈ ds, Nice n d
  | n + 1, .tup ds => ds.length < sizeLine ∧ ∀ d ∈ ds, Nice n d
  | _, _ => False
theorem Nice.mono : ∀ {n m : Nat} {d : D}, Nice n d → n ≤ m → Nice m d
  | 0, m, d, h, _ => by
    cases d <;> first | exact h.elim | (cases m <;> exact h)
  | n + 1, 0, d, h, e => by omega
  | n + 1, m + 1, d, h, e => by
    cases d with
    | lst ds => exact ⟨h.1, fun d hd => (h.2 d hd).mono (by omega)⟩
    | tup ds => exact ⟨h.1, fun d hd => (h.2 d hd).mono (by omega)⟩
    | _ => first | exact h | exact h.elim
theorem canAll_of : ∀ {ds : List D}, (∀ d ∈ ds, d.py.canLay0 = true) → PyData.canLayAll0 (D.pyL ds) = true
  | [], _ => by simp [D.pyL, PyData.canLayAll0]
  | d :: ds, h => by
    have h1 := h d (List.mem_cons_self ..)
    have h2 := canAll_of (ds := ds) fun d hd => h d (List.mem_cons_of_mem _ hd)
    simp [D.pyL, PyData.canLayAll0, h1, h2]
theorem depAll_of : ∀ {ds : List D} {n : Nat}, (∀ d ∈ ds, d.py.depth ≤ n) → PyData.depthAll (D.pyL ds) ≤ n
  | [], _, _ => by simp [D.pyL, PyData.depthAll]
  | d :: ds, n, h => by
    have h1 := h d (List.mem_cons_self ..)
    have h2 := depAll_of (ds := ds) fun d hd => h d (List.mem_cons_of_mem _ hd)
    simp only [D.pyL, PyData.depthAll]
    omega
theorem Nice.can : ∀ {n : Nat} {d : D}, Nice n d → d.py.canLay0 = true ∧ d.py.depth ≤ n + 1
  | 0, d, h => by
    cases d <;> first | exact h.elim | (refine ⟨?_, ?_⟩ <;> simp [D.py, PyData.canLay0, PyData.depth] <;> exact h)
  | n + 1, d, h => by
    cases d with
    | lst ds =>
      refine ⟨by simpa only [D.py, PyData.canLay0] using canAll_of fun d hd => (h.2 d hd).can.1, ?_⟩
      have := depAll_of fun d hd => (h.2 d hd).can.2
      simp only [D.py, PyData.depth]
      omega
    | tup ds =>
      refine ⟨by simpa only [D.py, PyData.canLay0] using canAll_of fun d hd => (h.2 d hd).can.1, ?_⟩
      have := depAll_of fun d hd => (h.2 d hd).can.2
      simp only [D.py, PyData.depth]
      omega
    | str x => exact ⟨by simpa [D.py, PyData.canLay0, Nice] using h, by simp [D.py, PyData.depth]⟩
    | _ => first | exact h.elim | (refine ⟨?_, ?_⟩ <;> simp [D.py, PyData.canLay0, PyData.depth])
theorem Nice.eqOk {n : Nat} {d : D} (h : Nice n d) (hn : n ≤ 60) : EqOk d := by
  unfold EqOk SeqAt.shaped
  have := h.can
  simp [this.1]
  omega
theorem Nice.eqv {n : Nat} {d : D} (h : Nice n d) : d.eqv d = true := SeqAt.eqv_refl _ h.can.1
theorem nice_fr (q : Rat) : Nice 1 (fr q) := ⟨by show 2 < sizeLine; decide, by intro d hd; simp at hd; rcases hd with rfl | rfl <;> exact trivial⟩
theorem eqv_fr (p q : Rat) : (fr p).eqv (fr q) = decide (p = q) := by
  unfold fr D.eqv
  simp only [D.py, D.pyL, PyData.eqv, PyData.eqvAll, Bool.and_true]
  by_cases h : p = q
  · subst h; simp
  · rw [decide_eq_false h]
    by_cases h1 : p.num = q.num
    · have : (p.den : Int) ≠ q.den := fun z => h (Rat.ext h1 (by omega))
      simp [this]
    · simp [h1]
theorem gEq_fr {p q : Rat} {k : Sl → Prop} (h : k (.val (.bl (decide (p = q))))) : gEq (fr p) (fr q) k :=
  ⟨⟨(nice_fr p).eqOk (by decide), (nice_fr q).eqOk (by decide)⟩, by rw [eqv_fr]; exact h⟩
theorem gNe_fr {p q : Rat} {k : Sl → Prop} (h : k (.val (.bl (!decide (p = q))))) : gNe (fr p) (fr q) k :=
  ⟨⟨(nice_fr p).eqOk (by decide), (nice_fr q).eqOk (by decide)⟩, by rw [eqv_fr]; exact h⟩
def crD (p : Rat × Rat) : D := .tup [fr p.1, fr p.2]
theorem crD_def (p : Rat × Rat) : crD p = .tup [fr p.1, fr p.2] := rfl
def sumQ (l : List Rat) : Rat := l.foldl (· + ·) 0
theorem sumQ_nil : sumQ [] = 0 := rfl
theorem sumQ_snoc (l : List Rat) (q : Rat) : sumQ (l ++ [q]) = sumQ l + q := by simp [sumQ]
theorem sumQ_take {l : List Rat} {i : Nat} (hi : i < l.length) : sumQ (l.take (i + 1)) = sumQ (l.take i) + l[i] := by
  rw [List.take_succ_eq_append_getElem hi, sumQ_snoc]
def sumAt (c : List (Rat × Rat)) (j : Nat) : Rat := sumQ (c.map fun p => p.2 * p.1 ^ j)
theorem sz_pow {q : Rat} {n : Nat} (h : Sz n q) : ∀ j, Sz (1 + j * n) (q ^ j)
  | 0 => by rw [Rat.pow_zero]; exact sz_one.mono (by omega)
  | j + 1 => by
    rw [Rat.pow_succ]
    exact (sz_mul (sz_pow h j) h).mono (by rw [Nat.add_mul]; omega)
theorem size_big : 1000000 < sizeLine := by decide
theorem rat_div_pos {t b : Int} (ht : 0 < t) (hb : 0 < b) : (0 : Rat) < (t : Rat) / (b : Rat) := by
  have h1 : (0 : Rat) < t := by exact_mod_cast ht
  have h2 : (0 : Rat) < b := by exact_mod_cast hb
  rw [Rat.div_def]
  exact Rat.mul_pos h1 (Rat.inv_pos.mpr h2)
def clean : List Rat → List Rat
  | [] => []
  | a :: l => if a = 0 ∧ clean l = [] then [] else a :: clean l
theorem clean_take : ∀ {l : List Rat} {m : Nat}, m ≤ l.length → (∀ i, m ≤ i → l.getD i 0 = 0) → (m = 0 ∨ l.getD (m - 1) 0 ≠ 0) → clean l = l.take m
  | [], m, h, _, _ => by simp [clean]
  | a :: l, 0, h, h1, h2 => by
    have e : clean l = l.take 0 := clean_take (Nat.zero_le _) (fun i _ => by simpa using h1 (i + 1) (Nat.zero_le _)) (.inl rfl)
    have ha : a = 0 := by simpa using h1 0 (Nat.le_refl _)
    simp [clean, e, ha]
  | a :: l, m + 1, h, h1, h2 => by
    have e : clean l = l.take m := clean_take (by simpa using h) (fun i hi => by simpa using h1 (i + 1) (by omega)) (by
      rcases Nat.eq_zero_or_pos m with z | z
      · exact .inl z
      · refine .inr ?_
        rcases h2 with h2 | h2
        · omega
        · have : m + 1 - 1 = (m - 1) + 1 := by omega
          rw [this] at h2
          simpa using h2)
    have hn : ¬ (a = 0 ∧ clean l = []) := by
      rintro ⟨ha, hc⟩
      rw [e] at hc
      rcases Nat.eq_zero_or_pos m with z | z
      · subst z
        rcases h2 with h2 | h2
        · omega
        · exact h2 (by simpa using ha)
      · have : l = [] := by
          have := congrArg List.length hc
          simp at this h
          rcases this with z2 | z2
          · omega
          · exact List.eq_nil_of_length_eq_zero (by simp [z2])
        subst this
        simp at h
        omega
    unfold clean
    rw [if_neg hn, e]
    rfl
theorem clean_sub {l : List Rat} : ∀ q ∈ clean l, q ∈ l := by
  induction l with
  | nil => intro q h; exact h
  | cons a l ih =>
    intro q h
    unfold clean at h
    split at h
    · exact absurd h (List.not_mem_nil)
    · rcases List.mem_cons.mp h with h | h
      · exact h ▸ List.mem_cons_self ..
      · exact List.mem_cons_of_mem _ (ih q h)
theorem clean_len {l : List Rat} : (clean l).length ≤ l.length := by
  induction l with
  | nil => exact Nat.le_refl _
  | cons a l ih =>
    unfold clean
    split
    · exact Nat.zero_le _
    · simpa using ih
def Clean (l : List Rat) : Prop := l = [] ∨ l.getLast? ≠ some 0
theorem clean_clean : ∀ l : List Rat, Clean (clean l)
  | [] => .inl rfl
  | a :: l => by
    have ih := clean_clean l
    unfold clean
    split
    · exact .inl rfl
    · rename_i h
      refine .inr ?_
      by_cases hc : clean l = []
      · rw [hc]
        simp
        exact fun ha => h ⟨ha, hc⟩
      · rcases ih with z | z
        · exact absurd z hc
        · rw [List.getLast?_cons_of_ne_nil hc] <;> exact z
theorem clean_getD : ∀ (l : List Rat) (i : Nat), (clean l).getD i 0 = l.getD i 0
  | [], i => rfl
  | a :: l, i => by
    have ih := clean_getD l
    unfold clean
    split
    · rename_i h
      have hz : ∀ j, l.getD j 0 = 0 := fun j => by rw [← ih j, h.2]; rfl
      cases i with
      | zero => simp [h.1]
      | succ i => simpa using (hz i).symm
    · cases i with
      | zero => rfl
      | succ i => simpa using ih i
theorem getD_nil' (i : Nat) : ([] : List Rat).getD i 0 = 0 := rfl
theorem clean_idem : ∀ {l : List Rat}, Clean l → clean l = l
  | [], _ => rfl
  | a :: l, h => by
    rcases h with h | h
    · cases h
    · unfold clean
      by_cases hl : l = []
      · subst hl
        have ha : a ≠ 0 := by simpa using h
        simp [ha, clean]
      · have hc : Clean l := .inr (by rwa [List.getLast?_cons_of_ne_nil hl] at h)
        rw [clean_idem hc, if_neg (fun z => hl z.2)]
theorem clean_zero : ∀ {l : List Rat}, (∀ i, l.getD i 0 = 0) → clean l = []
  | [], _ => rfl
  | a :: l, h => by
    have h0 : a = 0 := by simpa using h 0
    have h1 : clean l = [] := clean_zero fun i => by simpa using h (i + 1)
    unfold clean
    rw [if_pos ⟨h0, h1⟩]
theorem clean_congr : ∀ {f g : List Rat}, (∀ i, f.getD i 0 = g.getD i 0) → clean f = clean g
  | [], g, h => (clean_zero fun i => (h i).symm).symm
  | f, [], h => clean_zero h
  | a :: f, b :: g, h => by
    have h0 : a = b := by simpa using h 0
    have h1 : clean f = clean g := clean_congr fun i => by simpa using h (i + 1)
    unfold clean
    rw [h0, h1]
theorem clean_ext {f g : List Rat} (hf : Clean f) (hg : Clean g) (h : ∀ i, f.getD i 0 = g.getD i 0) : f = g := by
  rw [← clean_idem hf, ← clean_idem hg]
  exact clean_congr h
theorem getD_range {n i : Nat} {g : Nat → Rat} : ((List.range n).map g).getD i 0 = if i < n then g i else 0 := by
  by_cases h : i < n
  · simp [h]
  · simp [h, Nat.le_of_not_lt h]
theorem getD_big {l : List Rat} {i : Nat} (h : l.length ≤ i) : l.getD i 0 = 0 := by simp [h]
def CfS (n : Nat) (l : List Rat) : Prop := ∀ i, Sz n (l.getD i 0)
theorem cfS_mono {n m : Nat} {l : List Rat} (h : CfS n l) (e : n ≤ m) : CfS m l := fun i => (h i).mono e
theorem cfS_mem {n : Nat} {l : List Rat} (h : CfS n l) : ∀ q ∈ l, Sz n q := fun q hq => by
  obtain ⟨i, hi, rfl⟩ := List.mem_iff_getElem.mp hq
  have := h i
  have e : l.getD i 0 = l[i] := by simp [hi]
  rwa [e] at this
theorem cfS_of {n : Nat} {l : List Rat} (hn : 0 < n) (h : ∀ q ∈ l, Sz n q) : CfS n l := fun i => by
  by_cases hi : i < l.length
  · have e : l.getD i 0 = l[i] := by simp [hi]
    rw [e]
    exact h _ (List.getElem_mem hi)
  · rw [getD_big (by omega)]
    exact sz_zero.mono hn
def addP (f g : List Rat) : List Rat := clean ((List.range (max f.length g.length)).map fun i => f.getD i 0 + g.getD i 0)
def subP (f g : List Rat) : List Rat := clean ((List.range (max f.length g.length)).map fun i => f.getD i 0 - g.getD i 0)
def mulC (f : List Rat) (c : Rat) : List Rat := clean (f.map fun q => q * c)
def shiftP (f : List Rat) (j : Nat) : List Rat := if f = [] then [] else List.replicate j 0 ++ f
theorem addP_getD (f g : List Rat) (i : Nat) : (addP f g).getD i 0 = f.getD i 0 + g.getD i 0 := by
  unfold addP
  rw [clean_getD, getD_range]
  split
  · rfl
  · rename_i h
    rw [getD_big (show f.length ≤ i by omega), getD_big (show g.length ≤ i by omega)]
    grind
theorem subP_getD (f g : List Rat) (i : Nat) : (subP f g).getD i 0 = f.getD i 0 - g.getD i 0 := by
  unfold subP
  rw [clean_getD, getD_range]
  split
  · rfl
  · rename_i h
    rw [getD_big (show f.length ≤ i by omega), getD_big (show g.length ≤ i by omega)]
    grind
theorem mulC_getD (f : List Rat) (c : Rat) (i : Nat) : (mulC f c).getD i 0 = f.getD i 0 * c := by
  unfold mulC
  rw [clean_getD]
  by_cases h : i < f.length
  · simp [h]
  · rw [getD_big (l := f) (by omega), getD_big (by simp; omega), Rat.zero_mul]
theorem shiftP_getD (f : List Rat) (j i : Nat) : (shiftP f j).getD i 0 = if i < j then 0 else f.getD (i - j) 0 := by
  unfold shiftP
  split
  · rename_i h
    subst h
    split <;> rfl
  · by_cases h : i < j
    · simp [List.getElem?_append, h]
    · simp [List.getElem?_append, h]
theorem addP_len (f g : List Rat) : (addP f g).length ≤ max f.length g.length := by
  have := clean_len (l := (List.range (max f.length g.length)).map fun i => f.getD i 0 + g.getD i 0)
  simpa [addP] using this
theorem subP_len (f g : List Rat) : (subP f g).length ≤ max f.length g.length := by
  have := clean_len (l := (List.range (max f.length g.length)).map fun i => f.getD i 0 - g.getD i 0)
  simpa [subP] using this
theorem mulC_len (f : List Rat) (c : Rat) : (mulC f c).length ≤ f.length := by
  have := clean_len (l := f.map fun q => q * c)
  simpa [mulC] using this
theorem shiftP_len (f : List Rat) (j : Nat) : (shiftP f j).length ≤ j + f.length := by
  unfold shiftP
  split
  · exact Nat.zero_le _
  · simp
def mulGo (f : List Rat) : List Rat → Nat → List Rat → List Rat
  | acc, _, [] => acc
  | acc, j, c :: g => mulGo f (addP acc (shiftP (mulC f c) j)) (j + 1) g
def mulP (f g : List Rat) : List Rat := mulGo f [] 0 g
def cvl (f : List Rat) (k : Nat) : Nat → List Rat → Rat
  | _, [] => 0
  | j, c :: g => (if k < j then 0 else f.getD (k - j) 0 * c) + cvl f k (j + 1) g
theorem mulGo_getD (f : List Rat) : ∀ (g acc : List Rat) (j k : Nat), (mulGo f acc j g).getD k 0 = acc.getD k 0 + cvl f k j g
  | [], acc, j, k => by simp only [mulGo, cvl]; grind
  | c :: g, acc, j, k => by
    rw [mulGo, mulGo_getD f g, addP_getD, shiftP_getD, mulC_getD, cvl]
    split <;> grind
theorem mulP_getD (f g : List Rat) (k : Nat) : (mulP f g).getD k 0 = cvl f k 0 g := by
  unfold mulP
  rw [mulGo_getD, getD_nil', Rat.zero_add]
theorem addP_clean (f g : List Rat) : Clean (addP f g) := clean_clean _
theorem subP_clean (f g : List Rat) : Clean (subP f g) := clean_clean _
theorem mulC_clean (f : List Rat) (c : Rat) : Clean (mulC f c) := clean_clean _
theorem mulGo_clean (f : List Rat) : ∀ (g acc : List Rat) (j : Nat), Clean acc → Clean (mulGo f acc j g)
  | [], acc, j, h => h
  | c :: g, acc, j, h => mulGo_clean f g _ _ (addP_clean _ _)
theorem mulP_clean (f g : List Rat) : Clean (mulP f g) := mulGo_clean f g [] 0 (.inl rfl)
def Six (m : Nat) (q : Rat) : Prop := ∃ z : Int, z.natAbs ≤ m ∧ q = (z : Rat) / 6
theorem Six.mono {m n : Nat} {q : Rat} (h : Six m q) (e : m ≤ n) : Six n q := by
  obtain ⟨z, h1, h2⟩ := h
  exact ⟨z, by omega, h2⟩
theorem Six.sz {m n : Nat} {q : Rat} (h : Six m q) (e : m < 2 ^ n) (h3 : 3 ≤ n) : Sz n q := by
  obtain ⟨z, h1, rfl⟩ := h
  refine sz_div (b := 6) (by decide) (by omega) ?_
  have : 2 ^ 3 ≤ 2 ^ n := Nat.pow_le_pow_right (by decide) h3
  show 6 < 2 ^ n
  omega
theorem Six.add {m n : Nat} {p q : Rat} (h : Six m p) (h' : Six n q) : Six (m + n) (p + q) := by
  obtain ⟨z, h1, rfl⟩ := h
  obtain ⟨y, h2, rfl⟩ := h'
  refine ⟨z + y, by omega, ?_⟩
  rw [Rat.intCast_add]
  grind
theorem six_div {t b : Int} (hb : 1 ≤ b ∧ b ≤ 3) {m : Nat} (ht : t.natAbs ≤ m) : Six (6 * m) ((t : Rat) / (b : Rat)) := by
  have : b = 1 ∨ b = 2 ∨ b = 3 := by omega
  rcases this with rfl | rfl | rfl
  · refine ⟨6 * t, by omega, ?_⟩
    rw [Rat.intCast_mul]
    simp
    grind
  · refine ⟨3 * t, by omega, ?_⟩
    rw [Rat.intCast_mul]
    simp
    grind
  · refine ⟨2 * t, by omega, ?_⟩
    rw [Rat.intCast_mul]
    simp
    grind
def Gr (k m : Nat) (q : Rat) : Prop := ∃ z : Int, z.natAbs ≤ m ∧ q = (z : Rat) / (((6 : Int) ^ k : Int) : Rat)
theorem six_ne (k : Nat) : (((6 : Int) ^ k : Int) : Rat) ≠ 0 := by
  intro h
  have : (6 : Int) ^ k = 0 := by exact_mod_cast h
  exact absurd this (Int.pow_ne_zero (by decide))
theorem Gr.mono {k m n : Nat} {q : Rat} (h : Gr k m q) (e : m ≤ n) : Gr k n q := by
  obtain ⟨z, h1, h2⟩ := h
  exact ⟨z, by omega, h2⟩
theorem Six.gr {m : Nat} {q : Rat} (h : Six m q) : Gr 1 m q := by
  obtain ⟨z, h1, h2⟩ := h
  exact ⟨z, h1, by rw [h2]; rfl⟩
theorem gr_zero (k m : Nat) : Gr k m 0 := ⟨0, by simp, by
  have : ((0 : Int) : Rat) = 0 := rfl
  rw [this, Rat.div_def, Rat.zero_mul]⟩
theorem Gr.lift {k m : Nat} {q : Rat} (h : Gr k m q) (j : Nat) : Gr (k + j) (m * 6 ^ j) q := by
  obtain ⟨z, h1, rfl⟩ := h
  refine ⟨z * 6 ^ j, ?_, ?_⟩
  · rw [Int.natAbs_mul, Int.natAbs_pow]
    exact Nat.mul_le_mul_right _ h1
  · have a := six_ne k
    have b := six_ne j
    rw [Int.pow_add, Rat.intCast_mul, Rat.intCast_mul]
    generalize (((6 : Int) ^ k : Int) : Rat) = c at *
    generalize (((6 : Int) ^ j : Int) : Rat) = d at *
    grind
theorem Gr.sub {k m n : Nat} {p q : Rat} (h : Gr k m p) (h' : Gr k n q) : Gr k (m + n) (p - q) := by
  obtain ⟨z, h1, rfl⟩ := h
  obtain ⟨y, h2, rfl⟩ := h'
  refine ⟨z - y, by omega, ?_⟩
  have a := six_ne k
  rw [Rat.intCast_sub]
  generalize (((6 : Int) ^ k : Int) : Rat) = c at *
  grind
theorem Gr.add {k m n : Nat} {p q : Rat} (h : Gr k m p) (h' : Gr k n q) : Gr k (m + n) (p + q) := by
  obtain ⟨z, h1, rfl⟩ := h
  obtain ⟨y, h2, rfl⟩ := h'
  refine ⟨z + y, by omega, ?_⟩
  have a := six_ne k
  rw [Rat.intCast_add]
  generalize (((6 : Int) ^ k : Int) : Rat) = c at *
  grind
theorem Gr.mul {j k m n : Nat} {p q : Rat} (h : Gr j m p) (h' : Gr k n q) : Gr (j + k) (m * n) (p * q) := by
  obtain ⟨z, h1, rfl⟩ := h
  obtain ⟨y, h2, rfl⟩ := h'
  refine ⟨z * y, by rw [Int.natAbs_mul]; exact Nat.mul_le_mul h1 h2, ?_⟩
  have a := six_ne j
  have b := six_ne k
  rw [Int.pow_add, Rat.intCast_mul, Rat.intCast_mul]
  generalize (((6 : Int) ^ j : Int) : Rat) = c at *
  generalize (((6 : Int) ^ k : Int) : Rat) = d at *
  grind
theorem Gr.sz {k m n : Nat} {q : Rat} (h : Gr k m q) (e : m < 2 ^ n) (h3 : 3 * k ≤ n) (hn : 0 < n) : Sz n q := by
  obtain ⟨z, h1, rfl⟩ := h
  refine sz_div (Int.pow_ne_zero (by decide)) (by omega) ?_
  rw [Int.natAbs_pow]
  have h2 : 6 ^ k ≤ 7 ^ k := Nat.pow_le_pow_left (by decide) k
  have h4 : 6 ^ k < 2 ^ (3 * k) ∨ k = 0 := by
    rcases Nat.eq_zero_or_pos k with z | z
    · exact .inr z
    · refine .inl ?_
      rw [Nat.pow_mul]
      exact Nat.pow_lt_pow_left (by decide) (by omega)
  have h5 : 2 ^ (3 * k) ≤ 2 ^ n := Nat.pow_le_pow_right (by decide) h3
  rcases h4 with h4 | h4
  · exact Nat.lt_of_lt_of_le h4 h5
  · subst h4
    exact Nat.one_lt_two_pow (by omega)
def dotQ (f S : List Rat) : Rat := sumQ ((List.range f.length).map fun i => f.getD i 0 * S.getD i 0)
theorem sum_gr {l : List Rat} {k m : Nat} (h : ∀ q ∈ l, Gr k m q) : ∀ i, i ≤ l.length → Gr k (m * i) (sumQ (l.take i))
  | 0, _ => by rw [List.take_zero]; exact gr_zero _ _
  | i + 1, hi => by
    rw [sumQ_take (by omega)]
    exact (sum_gr h i (by omega)).add (h _ (List.getElem_mem _))
theorem sum_gr' {l : List Rat} {k m : Nat} (h : ∀ q ∈ l, Gr k m q) : Gr k (m * l.length) (sumQ l) := by
  have := sum_gr h l.length (Nat.le_refl _)
  rwa [List.take_length] at this
theorem gr_getD {l : List Rat} {k m : Nat} (h : ∀ q ∈ l, Gr k m q) (i : Nat) : Gr k m (l.getD i 0) := by
  by_cases hi : i < l.length
  · have : l.getD i 0 = l[i] := by simp [hi]
    rw [this]
    exact h _ (List.getElem_mem hi)
  · rw [getD_big (by omega)]
    exact gr_zero _ _
theorem cvl_gr {f : List Rat} {a A b B : Nat} (hf : ∀ q ∈ f, Gr a A q) (k : Nat) : ∀ (g : List Rat) (j : Nat), (∀ q ∈ g, Gr b B q) → Gr (a + b) (A * B * g.length) (cvl f k j g)
  | [], j, _ => gr_zero _ _
  | c :: g, j, hg => by
    have h1 := cvl_gr hf k g (j + 1) (fun q hq => hg q (List.mem_cons_of_mem _ hq))
    have h2 : Gr (a + b) (A * B) (if k < j then 0 else f.getD (k - j) 0 * c) := by
      split
      · exact gr_zero _ _
      · exact (gr_getD hf _).mul (hg c List.mem_cons_self)
    rw [cvl]
    refine (h2.add h1).mono ?_
    rw [List.length_cons, Nat.mul_add]
    omega
theorem mulP_gr {f g : List Rat} {a A b B : Nat} (hf : ∀ q ∈ f, Gr a A q) (hg : ∀ q ∈ g, Gr b B q) : ∀ q ∈ mulP f g, Gr (a + b) (A * B * g.length) q := fun q hq => by
  obtain ⟨i, hi, e⟩ := List.mem_iff_getElem.mp hq
  have h := cvl_gr hf i g 0 hg
  rw [← mulP_getD] at h
  have e2 : (mulP f g).getD i 0 = q := by rw [← e]; simp [hi]
  rwa [e2] at h
theorem mulGo_len (f : List Rat) : ∀ (g acc : List Rat) (j n : Nat), acc.length ≤ n → (g ≠ [] → j + g.length + f.length ≤ n + 1) → (mulGo f acc j g).length ≤ n
  | [], acc, j, n, h, _ => h
  | c :: g, acc, j, n, h, h2 => by
    rw [mulGo]
    have h2 := h2 (by simp)
    simp only [List.length_cons] at h2
    refine mulGo_len f g _ (j + 1) n ?_ (fun _ => by omega)
    have h3 := addP_len acc (shiftP (mulC f c) j)
    have h4 : (shiftP (mulC f c) j).length ≤ n := by
      unfold shiftP
      split
      · simp
      · rename_i hne
        have h5 := mulC_len f c
        have h6 : 0 < (mulC f c).length := List.length_pos_iff.mpr hne
        simp
        omega
    omega
theorem mulP_len (f g : List Rat) : (mulP f g).length ≤ f.length + g.length - 1 := by
  unfold mulP
  refine mulGo_len f g [] 0 _ (by simp) (fun h => ?_)
  have : 0 < g.length := List.length_pos_iff.mpr h
  omega
def SumsOk (S : List Rat) : Prop := 1 ≤ S.length ∧ S.length ≤ 11 ∧ ∀ q ∈ S, Gr 11 (2 ^ 90) q
theorem SumsOk.sz {S : List Rat} (h : SumsOk S) : CfS 91 S := fun i => (gr_getD h.2.2 i).sz (by decide) (by decide) (by decide)
theorem six_gr11 {q : Rat} (h : Six 36 q) : Gr 11 (2 ^ 32) q := (h.gr.lift 10).mono (by decide)
theorem sumAt_gr {c : List (Rat × Rat)} (hl : c.length ≤ 5) (hc : ∀ p ∈ c, Six 216 p.1 ∧ Six 36 p.2) {j : Nat} (hj : j ≤ 10) : Gr 11 (2 ^ 86) (sumAt c j) := by
  have pw : ∀ {q : Rat}, Six 216 q → ∀ i, Gr i (216 ^ i) (q ^ i) := fun {q} h i => by
    induction i with
    | zero => exact ⟨1, by decide, by rw [Rat.pow_zero]; decide +kernel⟩
    | succ i ih =>
      rw [Rat.pow_succ]
      exact (ih.mul h.gr)
  have h1 : ∀ q ∈ c.map (fun p => p.2 * p.1 ^ j), Gr 11 (2 ^ 83) q := fun q hq => by
    obtain ⟨p, hp, rfl⟩ := List.mem_map.mp hq
    have h2 := ((hc p hp).2.gr.mul (pw (hc p hp).1 j)).lift (10 - j)
    have e : 1 + j + (10 - j) = 11 := by omega
    rw [e] at h2
    refine h2.mono ?_
    have e2 : 216 ^ j * 6 ^ (10 - j) ≤ 216 ^ j * 216 ^ (10 - j) := Nat.mul_le_mul_left _ (Nat.pow_le_pow_left (by decide) _)
    rw [← Nat.pow_add, show j + (10 - j) = 10 by omega] at e2
    rw [Nat.mul_assoc]
    refine Nat.le_trans (Nat.mul_le_mul_left 36 e2) ?_
    decide
  have h3 := sum_gr' h1
  unfold sumAt
  refine h3.mono ?_
  rw [List.length_map]
  refine Nat.le_trans (Nat.mul_le_mul_left _ hl) ?_
  decide
abbrev callK (k : Sl → EnvD → S → Prop) (env : EnvD) : Sl → S → Prop := fun r s => k r env s
theorem callK_ap (k : Sl → EnvD → S → Prop) (env : EnvD) (r : Sl) (s : S) : callK k env r s = k r env s := rfl
theorem wCall_K (F : Fn) (xq : Str → S → Prop) (fa : FA) (env : EnvD) (s : S) (k : Sl → EnvD → S → Prop) : wCall F xq fa env s k = fa env s fun ds env1 s1 => F ds s1 (callK k env1) xq := rfl
abbrev scalK (k : Sl → EnvD → S → Prop) (env : EnvD) : Sl → S → Prop := fun r s => isScal r.d ∧ k r env s
theorem scalK_ap (k : Sl → EnvD → S → Prop) (env : EnvD) (r : Sl) (s : S) : scalK k env r s = (isScal r.d ∧ k r env s) := rfl
theorem wCallB_K (F : Fn) (xq : Str → S → Prop) (fa : FB) (env : EnvD) (s : S) (k : Sl → EnvD → S → Prop) : wCallB F xq fa env s k = fa env s fun ds env1 s1 => F ds s1 (scalK k env1) xq := rfl
abbrev lendK (k : Sl → EnvD → S → Prop) (env1 : EnvD) (j : Nat) (a : Addr) (s1 : S) : Sl → S → Prop := fun r s2 => ∃ x' b', s2 = some ⟨x', b', a⟩ ∧ k r (env1.set j (.own [.int x', .bl b'])) s1
theorem wCallLend_K (F : Fn) (xq : Str → S → Prop) (j : Nat) (fa : FA) (env : EnvD) (s : S) (k : Sl → EnvD → S → Prop) : wCallLend F xq j fa env s k = (match at_ env j with
  | .own _ => fa env s fun ds env1 s1 => match at_ env1 j with
    | .own [.int x, .bl b] => ∀ a, F (.st a :: ds) (some ⟨x, b, a⟩) (lendK k env1 j a s1) (fun cn _ => xq cn s1)
    | _ => False
  | _ => False) := rfl
abbrev compK (k : Sl → EnvD → S → Prop) (env1 : EnvD) (vs : List Nat) : List D → EnvD → S → Prop := fun acc env2 s2 => k (.own acc) (backD env1 env2 vs) s2
theorem compK_ap (k : Sl → EnvD → S → Prop) (env1 : EnvD) (vs : List Nat) (acc : List D) (env2 : EnvD) (s2 : S) : compK k env1 vs acc env2 s2 = k (.own acc) (backD env1 env2 vs) s2 := rfl
theorem wComp_K (fi : FI) (fg : FG) (ft : FT) (fe : FE) (vs : List Nat) (env : EnvD) (s : S) (k : Sl → EnvD → S → Prop) : wComp fi fg ft fe vs env s k = fi env s fun ds env1 s1 => noOwn env1 vs ∧ ds.length < sizeLine ∧ compW fg ft fe vs (compK k env1 vs) ds [] (wipeD env1 vs) s1 := rfl
def seqK (g : FS) (k : Fl → Prop) : Fl → Prop := fun fl => match fl with
  | .nx e s => g e s k
  | .rt r s => k (.rt r s)
  | .bk e s => k (.bk e s)
  | .ct e s => k (.ct e s)
theorem wSeq_K (f g : FS) (env : EnvD) (s : S) (k : Fl → Prop) : wSeq f g env s k = f env s (seqK g k) := by
  unfold wSeq
  congr 1
theorem seqK_nx (g : FS) (k : Fl → Prop) (e : EnvD) (s : S) : seqK g k (.nx e s) = g e s k := rfl
theorem seqK_rt (g : FS) (k : Fl → Prop) (r : Sl) (s : S) : seqK g k (.rt r s) = k (.rt r s) := rfl
theorem seqK_bk (g : FS) (k : Fl → Prop) (e : EnvD) (s : S) : seqK g k (.bk e s) = k (.bk e s) := rfl
theorem seqK_ct (g : FS) (k : Fl → Prop) (e : EnvD) (s : S) : seqK g k (.ct e s) = k (.ct e s) := rfl
theorem wSeq_K' {f g : FS} {env : EnvD} {s : S} {k : Fl → Prop} (h : f env s (seqK g k)) : wSeq f g env s k := (wSeq_K f g env s k).mpr h
theorem seqK_nx' {g : FS} {k : Fl → Prop} {e : EnvD} {s : S} (h : g e s k) : seqK g k (.nx e s) := h
theorem seqK_rt' {g : FS} {k : Fl → Prop} {r : Sl} {s : S} (h : k (.rt r s)) : seqK g k (.rt r s) := h
theorem seqK_bk' {g : FS} {k : Fl → Prop} {e : EnvD} {s : S} (h : k (.bk e s)) : seqK g k (.bk e s) := h
theorem seqK_ct' {g : FS} {k : Fl → Prop} {e : EnvD} {s : S} (h : k (.ct e s)) : seqK g k (.ct e s) := h
end DL
set_option Elab.async false
set_option linter.all false
set_option maxRecDepth 100000
set_option maxHeartbeats 4000000
namespace DL
open PySem L2
local macro_rules | `(tactic| walk_at "wr") => `(tactic| simp (config := {failIfUnchanged := false, maxSteps := 1000000}) only [wNext, wSeq, wRet, wRetV, wIfS, wAsg, wName, wRng1, wV, wPV, wC, wP, wOpv, wB, wNot, wNil, wCons, wLst, wIxv, gIx, stIx, gCat, wComp, wYes, kBody, at_, List.set, Sl.d, wIsE, wIsV, envE,
  List.map_cons, List.map_nil, List.length_cons, List.length_nil, List.cons_append, List.nil_append, Nat.reduceAdd, Nat.reduceSub, ne_eq, reduceCtorEq, not_false_eq_true, true_and, and_true, noOwn, wipeD, backD, if_true, if_false, Bool.not_true, Bool.not_false])
theorem mem9 {x : Str} {i : Int} (h : idx9 x = some i) : ∃ n : Nat, i = n ∧ n < 9 ∧ nine[n]? = some x := by
  unfold idx9 at h
  cases e : nine.findIdx? fun y => x == y with
  | none => rw [e] at h; cases h
  | some n =>
    rw [e] at h
    cases h
    obtain ⟨h1, h2, _⟩ := List.findIdx?_eq_some_iff_getElem.mp e
    exact ⟨n, rfl, h1, by rw [List.getElem?_eq_getElem h1, beq_iff_eq.mp h2]⟩
theorem bref_non (s : S) (k : Sl → S → Prop) (h : k (.val .non) s) : BRef (envE .non) s (kBody k) := by
  unfold BRef
  walk_at "wr"
  exact ⟨by decide, by decide, by decide, by decide, by decide, h⟩
theorem nine_eq : ∀ n, n < 9 → ∀ x, nine[n]? = some x → (nine.map fun y => x == y) = (List.range 9).map fun m => m == n := by decide
theorem bref_go (s : S) (k : Sl → S → Prop) (d : D) (bs : List Bool) : ∀ (l : List Nat) (acc : List D), (∀ i ∈ l, i < bs.length) → k (.own (acc ++ (l.filter fun i => bs.getD i false).map fun i : Nat => D.int i)) s →
    compW (wName 4) (wB (wIxv 3 (wPV 4))) (wV 4) [4] (fun acc _ s2 => k (Sl.own acc) s2) (l.map fun i : Nat => D.int i) acc [Sl.no, Sl.val d, Sl.no, Sl.own (bs.map D.bl), Sl.no] s
  | [], acc, _, h => by simpa [compW] using h
  | i :: l, acc, hl, h => by
    have hi := hl i List.mem_cons_self
    have e : atI (bs.map D.bl) (i : Int) = some (.bl (bs.getD i false)) := by
      rw [DL.atI_nat' (by simpa using hi), List.getElem?_map, List.getElem?_eq_getElem hi]
      simp [hi]
    simp only [List.map_cons, compW, wName, wB, wIxv, wPV, wV, at_, List.set, ne_eq, reduceCtorEq, not_false_eq_true, true_and, gIx, e, stIx, Sl.d, Option.some.injEq, exists_eq_left']
    have ih := fun acc => bref_go s k d bs l acc (fun j hj => hl j (List.mem_cons_of_mem _ hj))
    cases hb : bs.getD i false with
    | true =>
      simp only [if_true, wipeD, List.set]
      refine ih _ ?_
      rw [List.filter_cons_of_pos (by exact hb), List.map_cons] at h
      simpa using h
    | false =>
      simp only [Bool.false_eq_true, if_false, wipeD, List.set]
      refine ih _ ?_
      rw [List.filter_cons_of_neg (by rw [hb]; decide)] at h
      exact h
theorem nine_f : ∀ n, n < 9 → ((List.range 9).filter fun i => ((List.range 9).map fun m => m == n).getD i false) = [n] := by decide
theorem bref_comp (s : S) (k : Sl → S → Prop) (d : D) (n : Nat) (hn : n < 9) (h : k (.own [.int (n : Int)]) s) :
    compW (wName 4) (wB (wIxv 3 (wPV 4))) (wV 4) [4] (fun acc _ s2 => k (Sl.own acc) s2) (intL 0 9) [] [Sl.no, Sl.val d, Sl.no, Sl.own (((List.range 9).map fun m => m == n).map D.bl), Sl.no] s := by
  have e : intL 0 9 = (List.range 9).map fun i : Nat => D.int i := by
    unfold intL
    exact List.map_congr_left fun i _ => by rw [Int.zero_add]
  rw [e]
  refine bref_go s k d _ _ _ (fun i hi => by simpa using hi) ?_
  rw [nine_f n hn]
  exact h
theorem bref_exc (x : Str) (i : Int) (s : S) (k : Sl → S → Prop) (e : idx9 x = some i) (h : k (.own [.int i]) s) : BRef (envE (.exc x)) s (kBody k) := by
  obtain ⟨n, rfl, hn, hx⟩ := mem9 e
  unfold BRef
  walk_at "wr"
  have hm : x ∈ nine := List.mem_of_getElem? hx
  refine ⟨hm, hm, hm, by decide, hm, hm, hm, by decide, by decide, hm, hm, hm, by decide, by decide, hm, by decide, by decide, ?_⟩
  have q := bref_comp s k (.exc x) n hn h
  rw [← nine_eq n hn x hx] at q
  exact q
end DL
set_option Elab.async false
set_option linter.all false
set_option maxRecDepth 100000
set_option maxHeartbeats 1000000
namespace DL
open PySem L2 PySem.Spec PyProof.Rows
theorem wV_ap (i : Nat) (env : EnvD) (s : S) (k : Sl → EnvD → S → Prop) : wV i env s k = ( match at_ env i with
  | .no => False
  | .val d => k (.val d) env s
  | .own ds => k (.val (.lst ds)) (env.set i (.val (.lst ds))) s) := rfl
theorem wPV_ap (i : Nat) (env : EnvD) (s : S) (k : D → EnvD → S → Prop) : wPV i env s k = ( match at_ env i with
  | .no => False
  | .val d => k d env s
  | .own ds => k (.lst ds) env s) := rfl
theorem wC_ap (d : D) (env : EnvD) (s : S) (k : Sl → EnvD → S → Prop) : wC d env s k = (k (.val d) env s) := rfl
theorem wP_ap (f : FE) (env : EnvD) (s : S) (k : D → EnvD → S → Prop) : wP f env s k = (f env s fun r env s => k r.d env s) := rfl
theorem wOp_ap (g : F2) (fa : FE) (fb : FP) (env : EnvD) (s : S) (k : Sl → EnvD → S → Prop) : wOp g fa fb env s k = (fa env s fun ra env1 s1 => fb env1 s1 fun db env2 s2 => g ra.d db fun r => k r env2 s2) := rfl
theorem wOpv_ap (g : F2) (i : Nat) (fb : FP) (env : EnvD) (s : S) (k : Sl → EnvD → S → Prop) : wOpv g i fb env s k = (at_ env i ≠ .no ∧ fb env s fun db env2 s2 => at_ env2 i ≠ .no ∧ g (at_ env2 i).d db fun r => k r env2 s2) := rfl
theorem wUn_ap (g : F1) (fa : FP) (env : EnvD) (s : S) (k : Sl → EnvD → S → Prop) : wUn g fa env s k = (fa env s fun da env1 s1 => g da fun r => k r env1 s1) := rfl
theorem gI_ap (g : Int → Int → D) (d : D) (e : D) (k : Sl → Prop) : gI g d e k = ( match d, e with
  | .int i, .int j => k (.val (g i j))
  | _, _ => False) := rfl
theorem gIC_ap (C : Int → Int → Prop) (g : Int → Int → D) (d : D) (e : D) (k : Sl → Prop) : gIC C g d e k = ( match d, e with
  | .int i, .int j => C i j ∧ k (.val (g i j))
  | _, _ => False) := rfl
theorem gNeg_ap (d : D) (k : Sl → Prop) : gNeg  d k = ( match d with
  | .int i => k (.val (.int (-i)))
  | _ => False) := rfl
theorem gEq_ap (d : D) (e : D) (k : Sl → Prop) : gEq  d e k = ( match d, e with
  | .int i, .int j => k (.val (.bl (i == j)))
  | d, e => (EqOk d ∧ EqOk e) ∧ k (.val (.bl (d.eqv e)))) := rfl
theorem gNe_ap (d : D) (e : D) (k : Sl → Prop) : gNe  d e k = ( match d, e with
  | .int i, .int j => k (.val (.bl (!(i == j))))
  | d, e => (EqOk d ∧ EqOk e) ∧ k (.val (.bl (!d.eqv e)))) := rfl
theorem gIsN_ap (d : D) (e : D) (k : Sl → Prop) : gIsN  d e k = ( match e with
  | .non => k (.val (.bl d.isNon))
  | _ => False) := rfl
theorem gNotN_ap (d : D) (e : D) (k : Sl → Prop) : gNotN  d e k = ( match e with
  | .non => k (.val (.bl (!d.isNon)))
  | _ => False) := rfl
theorem gIsB_ap (d : D) (e : D) (k : Sl → Prop) : gIsB  d e k = ( match d, e with
  | .bl a, .bl b => k (.val (.bl (decide (a = b))))
  | _, _ => False) := rfl
theorem gNotB_ap (d : D) (e : D) (k : Sl → Prop) : gNotB  d e k = ( match d, e with
  | .bl a, .bl b => k (.val (.bl (!decide (a = b))))
  | _, _ => False) := rfl
theorem wB_ap (f : FE) (env : EnvD) (s : S) (k : Bool → EnvD → S → Prop) : wB f env s k = ( f env s fun r env1 s1 => match r.d with
  | .bl b => k b env1 s1
  | _ => False) := rfl
theorem wNot_ap (f : FT) (env : EnvD) (s : S) (k : Bool → EnvD → S → Prop) : wNot f env s k = (f env s fun b env1 s1 => k (!b) env1 s1) := rfl
theorem wAnd_ap (f g : FT) (env : EnvD) (s : S) (k : Bool → EnvD → S → Prop) : wAnd f g env s k = (f env s fun b env1 s1 => if b = true then g env1 s1 k else k false env1 s1) := rfl
theorem wOr_ap (f g : FT) (env : EnvD) (s : S) (k : Bool → EnvD → S → Prop) : wOr f g env s k = (f env s fun b env1 s1 => if b = true then k true env1 s1 else g env1 s1 k) := rfl
theorem wAndV_ap (f g : FE) (env : EnvD) (s : S) (k : Sl → EnvD → S → Prop) : wAndV f g env s k = ( f env s fun r env1 s1 => match r.d with
  | .bl b => if b = true then g env1 s1 k else k (.val (.bl false)) env1 s1
  | _ => False) := rfl
theorem wOrV_ap (f g : FE) (env : EnvD) (s : S) (k : Sl → EnvD → S → Prop) : wOrV f g env s k = ( f env s fun r env1 s1 => match r.d with
  | .bl b => if b = true then k (.val (.bl true)) env1 s1 else g env1 s1 k
  | _ => False) := rfl
theorem wNotV_ap (f : FE) (env : EnvD) (s : S) (k : Sl → EnvD → S → Prop) : wNotV f env s k = ( f env s fun r env1 s1 => match r.d with
  | .bl b => k (.val (.bl (!b))) env1 s1
  | _ => False) := rfl
theorem wIf_ap (t : FT) (f g : FE) (env : EnvD) (s : S) (k : Sl → EnvD → S → Prop) : wIf t f g env s k = (t env s fun b env1 s1 => if b = true then f env1 s1 k else g env1 s1 k) := rfl
theorem wChain_ap (g g' : F2) (fa fb : FE) (fc : FP) (env : EnvD) (s : S) (k : Sl → EnvD → S → Prop) : wChain g g' fa fb fc env s k = ( fa env s fun ra env1 s1 => fb env1 s1 fun rb env2 s2 => g ra.d rb.d fun z => match z.d with
  | .bl true => fc env2 s2 fun dc env3 s3 => g' rb.d dc fun r => k r env3 s3
  | .bl false => k (.val (.bl false)) env2 s2
  | _ => False) := rfl
theorem wNil_ap (env : EnvD) (s : S) (k : List D → EnvD → S → Prop) : wNil  env s k = (k [] env s) := rfl
theorem wCons_ap (f : FE) (g : FA) (env : EnvD) (s : S) (k : List D → EnvD → S → Prop) : wCons f g env s k = (f env s fun r env1 s1 => g env1 s1 fun ds env2 s2 => k (r.d :: ds) env2 s2) := rfl
theorem wTup_ap (f : FA) (env : EnvD) (s : S) (k : Sl → EnvD → S → Prop) : wTup f env s k = (f env s fun ds env1 s1 => ds.length ≤ sizeLine ∧ k (.val (.tup ds)) env1 s1) := rfl
theorem wLst_ap (f : FA) (env : EnvD) (s : S) (k : Sl → EnvD → S → Prop) : wLst f env s k = (f env s fun ds env1 s1 => ds.length ≤ sizeLine ∧ k (.own ds) env1 s1) := rfl
theorem wCB_ap (g : FL) (f : FA) (env : EnvD) (s : S) (k : Sl → EnvD → S → Prop) : wCB g f env s k = (f env s fun ds env1 s1 => g ds fun r => k r env1 s1) := rfl
theorem wCB1_ap (g : F1) (f : FP) (env : EnvD) (s : S) (k : Sl → EnvD → S → Prop) : wCB1 g f env s k = (f env s fun d env1 s1 => g d fun r => k r env1 s1) := rfl
theorem wNext_ap (env : EnvD) (s : S) (k : Fl → Prop) : wNext  env s k = (k (.nx env s)) := rfl
theorem wRet_ap (f : FE) (env : EnvD) (s : S) (k : Fl → Prop) : wRet f env s k = (f env s fun r _ s1 => k (.rt r s1)) := rfl
theorem wRetV_ap (i : Nat) (env : EnvD) (s : S) (k : Fl → Prop) : wRetV i env s k = ( match at_ env i with
  | .no => False
  | .val d => k (.rt (.val d) s)
  | .own ds => k (.rt (.own ds) s)) := rfl
theorem wRetN_ap (env : EnvD) (s : S) (k : Fl → Prop) : wRetN  env s k = (k (.rt (.val .non) s)) := rfl
theorem wIfS_ap (t : FT) (f g : FS) (env : EnvD) (s : S) (k : Fl → Prop) : wIfS t f g env s k = (t env s fun b env1 s1 => if b = true then f env1 s1 k else g env1 s1 k) := rfl
theorem wDrop_ap (f : FE) (env : EnvD) (s : S) (k : Fl → Prop) : wDrop f env s k = (f env s fun _ env1 s1 => k (.nx env1 s1)) := rfl
theorem wAsg_ap (f : FE) (g : FG) (env : EnvD) (s : S) (k : Fl → Prop) : wAsg f g env s k = (f env s fun r env1 s1 => g r env1 s1 fun env2 s2 => k (.nx env2 s2)) := rfl
theorem wName_ap (i : Nat) (r : Sl) (env : EnvD) (s : S) (k : EnvD → S → Prop) : wName i r env s k = (k (env.set i r) s) := rfl
theorem wTupT_ap (n : Nat) (f : FGs) (r : Sl) (env : EnvD) (s : S) (k : EnvD → S → Prop) : wTupT n f r env s k = ( match r.d with
  | .tup ds => ds.length = n ∧ f ds env s k
  | _ => False) := rfl
theorem wGNil_ap (ds : List D) (env : EnvD) (s : S) (k : EnvD → S → Prop) : wGNil  ds env s k = (ds = [] ∧ k env s) := rfl
theorem wGCons_ap (g : FG) (h : FGs) (ds : List D) (env : EnvD) (s : S) (k : EnvD → S → Prop) : wGCons g h ds env s k = ( match ds with
  | [] => False
  | d :: ds => g (.val d) env s fun env1 s1 => h ds env1 s1 k) := rfl
theorem wPar_ap (i j : Nat) (f : FA) (env : EnvD) (s : S) (k : Fl → Prop) : wPar i j f env s k = ( f env s fun ds env1 s1 => match ds with
  | [d, e] => k (.nx ((env1.set i (.val d)).set j (.val e)) s1)
  | _ => False) := rfl
theorem wBreak_ap (env : EnvD) (s : S) (k : Fl → Prop) : wBreak  env s k = (k (.bk env s)) := rfl
theorem wCont_ap (env : EnvD) (s : S) (k : Fl → Prop) : wCont  env s k = (k (.ct env s)) := rfl
theorem wApp_ap (j : Nat) (f : FE) (env : EnvD) (s : S) (k : Fl → Prop) : wApp j f env s k = ( match at_ env j with
  | .own _ => f env s fun r env1 s1 => match at_ env1 j with
    | .own ds => ds.length < sizeLine ∧ k (.nx (env1.set j (.own (ds ++ [r.d]))) s1)
    | _ => False
  | _ => False) := rfl
theorem wExt_ap (j : Nat) (f : FE) (env : EnvD) (s : S) (k : Fl → Prop) : wExt j f env s k = ( match at_ env j with
  | .own _ => f env s fun r env1 s1 => match at_ env1 j, r.d with
    | .own ds, .lst es => ds.length + es.length ≤ sizeLine ∧ k (.nx (env1.set j (.own (ds ++ es))) s1)
    | _, _ => False
  | _ => False) := rfl
theorem wPop_ap (j : Nat) (env : EnvD) (s : S) (k : Sl → EnvD → S → Prop) : wPop j env s k = ( match at_ env j with
  | .own ds => ∃ d, ds[ds.length - 1]? = some d ∧ k (.val d) (env.set j (.own ds.dropLast)) s
  | _ => False) := rfl
theorem wSub_ap (j : Nat) (fi : FP) (r : Sl) (env : EnvD) (s : S) (k : EnvD → S → Prop) : wSub j fi r env s k = ( match at_ env j with
  | .no => False
  | _ => fi env s fun di env1 s1 => match at_ env1 j, di with
    | .own ds, .int i => ∃ n, ixN ds.length i = some n ∧ k (env1.set j (.own (ds.set n r.d))) s1
    | .val (.st a), .int i => setSt s1 a i r.d fun s2 => k env1 s2
    | _, _ => False) := rfl
theorem wFor_ap (fi : FI) (fg : FG) (fb : FS) (env : EnvD) (s : S) (k : Fl → Prop) : wFor fi fg fb env s k = (fi env s fun ds env1 s1 => forW fg fb k ds env1 s1) := rfl
theorem wWhile_ap (ft : FT) (fb : FS) (env : EnvD) (s : S) (k : Fl → Prop) : wWhile ft fb env s k = (∃ n, whileW ft fb k n env s) := rfl
theorem wIt_ap (f : FE) (env : EnvD) (s : S) (k : List D → EnvD → S → Prop) : wIt f env s k = ( f env s fun r env1 s1 => match r.d with
  | .lst ds => k ds env1 s1
  | _ => False) := rfl
theorem wItT_ap (f : FE) (env : EnvD) (s : S) (k : List D → EnvD → S → Prop) : wItT f env s k = ( f env s fun r env1 s1 => match r.d with
  | .tup ds => k ds env1 s1
  | _ => False) := rfl
theorem wRng1_ap (f : FA) (env : EnvD) (s : S) (k : List D → EnvD → S → Prop) : wRng1 f env s k = ( f env s fun ds env1 s1 => match ds with
  | [.int j] => (-(2 ^ 62) ≤ j ∧ j < 2 ^ 62) ∧ k (intL 0 j.toNat) env1 s1
  | _ => False) := rfl
theorem wRng2_ap (f : FA) (env : EnvD) (s : S) (k : List D → EnvD → S → Prop) : wRng2 f env s k = ( f env s fun ds env1 s1 => match ds with
  | [.int i, .int j] => (-(2 ^ 62) ≤ i ∧ i < 2 ^ 62 ∧ -(2 ^ 62) ≤ j ∧ j < 2 ^ 62) ∧ k (intL i (j - i).toNat) env1 s1
  | _ => False) := rfl
theorem wRng3_ap (f : FA) (env : EnvD) (s : S) (k : List D → EnvD → S → Prop) : wRng3 f env s k = ( f env s fun ds env1 s1 => match ds with
  | [.int i, .int j, .int c] => ∃ n, RgC i j c n ∧ k (intLC i c n) env1 s1
  | _ => False) := rfl
theorem wEnum_ap (f : FA) (env : EnvD) (s : S) (k : List D → EnvD → S → Prop) : wEnum f env s k = ( f env s fun ds env1 s1 => match ds with
  | [.lst es] => k (enumD es) env1 s1
  | _ => False) := rfl
theorem wZip_ap (f : FA) (env : EnvD) (s : S) (k : List D → EnvD → S → Prop) : wZip f env s k = ( f env s fun ds env1 s1 => match ds with
  | [.lst es, .lst fs] => k (zipD es fs) env1 s1
  | [.tup es, .tup fs] => k (zipD es fs) env1 s1
  | _ => False) := rfl
theorem wRev_ap (f : FA) (env : EnvD) (s : S) (k : List D → EnvD → S → Prop) : wRev f env s k = ( f env s fun ds env1 s1 => match ds with
  | [.lst es] => k es.reverse env1 s1
  | _ => False) := rfl
theorem wItS_ap (f : FE) (env : EnvD) (s : S) (k : List D → EnvD → S → Prop) : wItS f env s k = ( f env s fun r env1 s1 => match r.d with
  | .str x => k (chars x) env1 s1
  | _ => False) := rfl
theorem gIx_ap (d : D) (e : D) (k : Sl → Prop) : gIx  d e k = ( match d, e with
  | .lst ds, .int i => ∃ x, atI ds i = some x ∧ k (.val x)
  | .tup ds, .int i => ∃ x, atI ds i = some x ∧ k (.val x)
  | .scr ns, .int i => ∃ n, atI ns i = some n ∧ k (.val (.int n))
  | _, _ => False) := rfl
theorem wIxv_ap (i : Nat) (fb : FP) (env : EnvD) (s : S) (k : Sl → EnvD → S → Prop) : wIxv i fb env s k = ( match at_ env i with
  | .no => False
  | _ => fb env s fun db env2 s2 => match at_ env2 i with
    | .no => False
    | .own ds => gIx (.lst ds) db fun r => k r env2 s2
    | .val (.st a) => stIx s2 a db fun r => k r env2 s2
    | .val d => gIx d db fun r => k r env2 s2) := rfl
theorem wNoPart_ap (env : EnvD) (s : S) (k : Option Int → EnvD → S → Prop) : wNoPart  env s k = (k none env s) := rfl
theorem wPart_ap (f : FP) (env : EnvD) (s : S) (k : Option Int → EnvD → S → Prop) : wPart f env s k = ( f env s fun d env1 s1 => match d with
  | .int i => k (some i) env1 s1
  | _ => False) := rfl
theorem wSl_ap (f : FE) (fl fh : FO) (env : EnvD) (s : S) (k : Sl → EnvD → S → Prop) : wSl f fl fh env s k = ( f env s fun r env1 s1 => fl env1 s1 fun lo env2 s2 => fh env2 s2 fun hi env3 s3 => match r.d with
  | .lst ds => k (.own (cutD ds lo hi)) env3 s3
  | _ => False) := rfl
theorem wSlv_ap (i : Nat) (fl fh : FO) (env : EnvD) (s : S) (k : Sl → EnvD → S → Prop) : wSlv i fl fh env s k = ( match at_ env i with
  | .no => False
  | _ => fl env s fun lo env2 s2 => fh env2 s2 fun hi env3 s3 => match (at_ env3 i).d with
    | .lst ds => k (.own (cutD ds lo hi)) env3 s3
    | _ => False) := rfl
theorem gLen_ap (d : D) (k : Sl → Prop) : gLen  d k = ( match d with
  | .lst ds => k (.val (.int ds.length))
  | .tup ds => k (.val (.int ds.length))
  | .scr ns => k (.val (.int ns.length))
  | .str x => x.length ≤ sizeLine ∧ k (.val (.int x.length))
  | _ => False) := rfl
theorem gList_ap (d : D) (k : Sl → Prop) : gList  d k = ( match d with
  | .lst ds => k (.own ds)
  | .tup ds => k (.own ds)
  | _ => False) := rfl
theorem gTuple_ap (d : D) (k : Sl → Prop) : gTuple  d k = ( match d with
  | .lst ds => k (.val (.tup ds))
  | .tup ds => k (.val (.tup ds))
  | _ => False) := rfl
theorem gCat_ap (d : D) (e : D) (k : Sl → Prop) : gCat  d e k = ( match d, e with
  | .lst ds, .lst es => ds.length + es.length ≤ sizeLine ∧ k (.own (ds ++ es))
  | _, _ => False) := rfl
theorem gRep_ap (d : D) (e : D) (k : Sl → Prop) : gRep  d e k = ( match d, e with
  | .lst ds, .int i => (-(2 ^ 63) ≤ i ∧ i < 2 ^ 63 ∧ ds.length * i.toNat ≤ sizeLine) ∧ k (.own (List.replicate i.toNat ds).flatten)
  | _, _ => False) := rfl
theorem gCatT_ap (d : D) (e : D) (k : Sl → Prop) : gCatT  d e k = ( match d, e with
  | .tup ds, .tup es => ds.length + es.length ≤ sizeLine ∧ k (.val (.tup (ds ++ es)))
  | _, _ => False) := rfl
theorem gCatS_ap (d : D) (e : D) (k : Sl → Prop) : gCatS  d e k = ( match d, e with
  | .str x, .str y => x.length + y.length ≤ sizeLine ∧ k (.val (.str (x ++ y)))
  | _, _ => False) := rfl
theorem gAbs_ap (d : D) (k : Sl → Prop) : gAbs  d k = ( match d with
  | .int i => k (.val (.int (if i < 0 then -i else i)))
  | _ => False) := rfl
theorem gInt_ap (d : D) (k : Sl → Prop) : gInt  d k = ( match d with
  | .int i => k (.val (.int i))
  | .bl b => k (.val (.int (if b then 1 else 0)))
  | _ => False) := rfl
theorem gMax2_ap (ds : List D) (k : Sl → Prop) : gMax2  ds k = ( match ds with
  | [.int i, .int j] => k (.val (.int (if j > i then j else i)))
  | _ => False) := rfl
theorem gMin2_ap (ds : List D) (k : Sl → Prop) : gMin2  ds k = ( match ds with
  | [.int i, .int j] => k (.val (.int (if j < i then j else i)))
  | _ => False) := rfl
theorem gAll_ap (d : D) (k : Sl → Prop) : gAll  d k = ( match d with
  | .lst ds => ∃ bs : List Bool, ds = bs.map D.bl ∧ k (.val (.bl (bs.all id)))
  | _ => False) := rfl
theorem gAny_ap (d : D) (k : Sl → Prop) : gAny  d k = ( match d with
  | .lst ds => ∃ bs : List Bool, ds = bs.map D.bl ∧ k (.val (.bl (bs.any id)))
  | _ => False) := rfl
theorem wIsi_ap (t : String) (f : FP) (env : EnvD) (s : S) (k : Sl → EnvD → S → Prop) : wIsi t f env s k = (f env s fun d env1 s1 => notScr d ∧ k (.val (.bl (isTy d t))) env1 s1) := rfl
theorem wIsi2_ap (t u : String) (f : FP) (env : EnvD) (s : S) (k : Sl → EnvD → S → Prop) : wIsi2 t u f env s k = (f env s fun d env1 s1 => notScr d ∧ k (.val (.bl (isTy d t || isTy d u))) env1 s1) := rfl
theorem wBNil_ap (env : EnvD) (s : S) (k : List D → EnvD → S → Prop) : wBNil  env s k = (k [] env s) := rfl
theorem wBVar_ap (i : Nat) (g : FB) (env : EnvD) (s : S) (k : List D → EnvD → S → Prop) : wBVar i g env s k = (at_ env i ≠ .no ∧ g env s fun ds env1 s1 => at_ env1 i ≠ .no ∧ k ((at_ env1 i).d :: ds) env1 s1) := rfl
theorem wBCons_ap (f : FE) (g : FB) (env : EnvD) (s : S) (k : List D → EnvD → S → Prop) : wBCons f g env s k = (f env s fun r env1 s1 => g env1 s1 fun ds env2 s2 => k (r.d :: ds) env2 s2) := rfl
theorem wRaise_ap (xq : Str → S → Prop) (cn : Str) (u0 : EnvD) (s : S) (u2 : Fl → Prop) : wRaise xq cn u0 s u2 = (xq cn s) := rfl
theorem wYes_ap (env : EnvD) (s : S) (k : Bool → EnvD → S → Prop) : wYes  env s k = (k true env s) := rfl
theorem wRevL_ap (f : FP) (env : EnvD) (s : S) (k : Sl → EnvD → S → Prop) : wRevL f env s k = ( f env s fun d env1 s1 => match d with
  | .lst ds => k (.own ds.reverse) env1 s1
  | _ => False) := rfl
theorem wCompB_ap (i : Nat) (fg : FG) (ft : FT) (fe : FE) (vs : List Nat) (env : EnvD) (s : S) (k : Sl → EnvD → S → Prop) : wCompB i fg ft fe vs env s k = ( match at_ env i with
  | .own ds => wComp (fun env s k => k ds env s) fg ft fe vs (env.set i .no) s fun r env2 s2 => k r (env2.set i (.own ds)) s2
  | _ => wComp (wIt (wV i)) fg ft fe vs env s k) := rfl
theorem gIn_ap (d : D) (e : D) (k : Sl → Prop) : gIn  d e k = ( match e with
  | .lst ds => (EqOk d ∧ EqOk (.lst ds)) ∧ k (.val (.bl (ds.any fun z => z.eqv d)))
  | _ => False) := rfl
theorem gNotIn_ap (d : D) (e : D) (k : Sl → Prop) : gNotIn  d e k = ( match e with
  | .lst ds => (EqOk d ∧ EqOk (.lst ds)) ∧ k (.val (.bl (!ds.any fun z => z.eqv d)))
  | _ => False) := rfl
theorem gEqE_ap (d : D) (e : D) (k : Sl → Prop) : gEqE  d e k = ( match d, e with
  | .lst ds, .lst [] => k (.val (.bl ds.isEmpty))
  | d, e => (EqOk d ∧ EqOk e) ∧ k (.val (.bl (d.eqv e)))) := rfl
theorem gNeE_ap (d : D) (e : D) (k : Sl → Prop) : gNeE  d e k = ( match d, e with
  | .lst ds, .lst [] => k (.val (.bl (!ds.isEmpty)))
  | d, e => (EqOk d ∧ EqOk e) ∧ k (.val (.bl (!d.eqv e)))) := rfl
theorem wIsE_ap (j : Nat) (x : Str) (env : EnvD) (s : S) (k : Sl → EnvD → S → Prop) : wIsE j x env s k = ( match at_ env j with
  | .val .non => k (.val (.bl false)) env s
  | .val (.exc y) => y ∈ nine ∧ k (.val (.bl (y == x))) env s
  | _ => False) := rfl
theorem wIsV_ap (j : Nat) (env : EnvD) (s : S) (k : Sl → EnvD → S → Prop) : wIsV j env s k = ( match at_ env j with
  | .val .non => k (.val (.bl false)) env s
  | .val (.exc y) => y ∈ nine ∧ k (.val (.bl true)) env s
  | _ => False) := rfl
theorem wCall_ap (F : Fn) (xq : Str → S → Prop) (fa : FA) (env : EnvD) (s : S) (k : Sl → EnvD → S → Prop) : wCall F xq fa env s k = fa env s fun ds env1 s1 => F ds s1 (fun r s2 => k r env1 s2) xq := rfl
theorem wCallB_ap (F : Fn) (xq : Str → S → Prop) (fa : FB) (env : EnvD) (s : S) (k : Sl → EnvD → S → Prop) : wCallB F xq fa env s k = fa env s fun ds env1 s1 => F ds s1 (fun r s2 => isScal r.d ∧ k r env1 s2) xq := rfl
theorem wCallLend_ap (F : Fn) (xq : Str → S → Prop) (j : Nat) (fa : FA) (env : EnvD) (s : S) (k : Sl → EnvD → S → Prop) : wCallLend F xq j fa env s k = (match at_ env j with
  | .own _ => fa env s fun ds env1 s1 => match at_ env1 j with
    | .own [.int x, .bl b] => ∀ a, F (.st a :: ds) (some ⟨x, b, a⟩) (fun r s2 => ∃ x' b', s2 = some ⟨x', b', a⟩ ∧ k r (env1.set j (.own [.int x', .bl b'])) s1) (fun cn _ => xq cn s1)
    | _ => False
  | _ => False) := rfl
theorem wComp_ap (fi : FI) (fg : FG) (ft : FT) (fe : FE) (vs : List Nat) (env : EnvD) (s : S) (k : Sl → EnvD → S → Prop) : wComp fi fg ft fe vs env s k = fi env s fun ds env1 s1 => noOwn env1 vs ∧ ds.length < sizeLine ∧ compW fg ft fe vs (fun acc env2 s2 => k (.own acc) (backD env1 env2 vs) s2) ds [] (wipeD env1 vs) s1 := rfl
theorem wRef_ap (caps : List Nat) (fe : (Str → S → Prop) → FE) (env : EnvD) (s : S) (k : Sl → EnvD → S → Prop) : wRef caps fe env s k = (has caps env ∧ fe (fun x s' => ∃ i, idx9 x = some i ∧ k (.own [.int i]) (frz caps env) s') (pick (frz caps env) caps (blank env)) s (fun _ _ s' => k (.val .non) (frz caps env) s')) := rfl
end DL
set_option Elab.async false
set_option linter.all false
set_option maxRecDepth 100000
set_option maxHeartbeats 1000000
namespace DL
open PySem L2 PySem.Spec PyProof.Rows
open Evl (Ex)
def rClearL : V → List V → Hp → VK → Prop := fun x vs H Q => ∃ l xs, x = .ref l ∧ vs = [] ∧ H l = some (.lst xs) ∧ Q .non (upd H l (.lst []))
theorem mt_clearL {X : Cx} : MtR X "list.clear" rClearL := by
  intro pins s σ H x vs v us Q I rx rv h
  obtain ⟨l, xs, rfl, rfl, hH, q⟩ := h
  cases rx
  have hus := rv.zero
  subst hus
  obtain ⟨z, its, n, r, hl, e⟩ := I.lstM hH
  refine call_meets F.slot_list_clear ⟨_, e, rfl⟩ F.entry_list_clear (F.args_list_clear_1 _) (AutoSeq1.list_clear_list_0 l its.toArray n (by rw [List.size_toArray]; omega)) ⟨e, ?_⟩
  exact ⟨.non, _, I.lset (its' := []) hH e rfl .nil (by simp), rfl, q⟩
theorem pe_clearL (K : PySem.W.Frag) {X : Cx} {o : Expr} {to : TE} {apos cpos : Pos} (ho : PE X o to) (hK : X.K = K := by rfl) (hbase : attributeBase o "clear" X.env (eval o X.env) = eval o X.env := by rfl) (hline : (apos.endLine == cpos.line) = true := by rfl) :
    PE X (.Call (.Attribute o "clear" apos) [] [] cpos) (tBM0 K "list" rClearL to) := by
  subst hK
  exact pe_bm0 PySem.F.plainAttrs_list PySem.F.slot_list_clear PySem.F.type_list_clear mt_clearL ho hbase hline
def wClear (j : Nat) : FS := fun env s k => match at_ env j with
  | .own _ => k (.nx (env.set j (.own [])) s)
  | _ => False
theorem wClear_ap (j : Nat) (env : EnvD) (s : S) (k : Fl → Prop) : wClear j env s k = (match at_ env j with
  | .own _ => k (.nx (env.set j (.own [])) s)
  | _ => False) := rfl
theorem ds_clear {c : Cxt} (j : Nat) : DS c (tDrop (tBM0 c.K "list" rClearL (tVar j))) (wClear j) := by
  intro G env s σ H k E R hf q
  unfold wClear at hf
  cases e : at_ env j with
  | no => rw [e] at hf; exact hf.elim
  | val d => rw [e] at hf; exact hf.elim
  | own ds =>
    rw [e] at hf
    obtain ⟨v, h1, p, vs, rfl, h3, h4, h5, h6, h7⟩ := R.owns j ds (at_val e (by simp))
    have R3 := R.write (es := []) (vs := []) (at_val e (by simp)) h1 RepL.nil
    exact ⟨_, h1, Or.inl ⟨rfl, vs, Evl.sq_of h6⟩, p, vs, rfl, rfl, h6, q.nx G _ _ s σ R3 (Ex.refl G) hf⟩
end DL
set_option Elab.async false
set_option linter.all false
set_option maxRecDepth 100000
set_option maxHeartbeats 1000000
namespace DL
open PySem L2 PySem.Spec PyProof.Rows
open Evl (Ex)
def hid (A : Hp) : List (Addr × List V) → Hp
  | [] => A
  | q :: r => hid (upd A q.1 (.lst q.2)) r
def Fre (c : Cxt) (A : Hp) : List (Addr × List V) → Prop
  | [] => True
  | q :: r => (A q.1 = none ∧ c.a0 ≠ some q.1 ∧ c.G0 q.1 = none ∧ q.2.length < sizeLine) ∧ Fre c (upd A q.1 (.lst q.2)) r
abbrev Le (A B : Hp) : Prop := ∀ p o, A p = some o → B p = some o
theorem le_upd {A B : Hp} (h : Le A B) (p : Addr) (o : HO) : Le (upd A p o) (upd B p o) := fun q u e => by
  by_cases hb : q = p
  · subst hb; rw [upd_same] at e ⊢; exact e
  · rw [upd_ne hb] at e ⊢; exact h q u e
theorem hid_le : ∀ {r : List (Addr × List V)} {A B : Hp}, Le A B → Le (hid A r) (hid B r)
  | [], _, _, h => h
  | q :: r, _, _, h => hid_le (r := r) (le_upd h _ _)
theorem none_le {A B : Hp} (h : Le A B) {p : Addr} (e : B p = none) : A p = none := by
  cases q : A p with
  | none => rfl
  | some o => rw [h p o q] at e; cases e
theorem fre_le {c : Cxt} : ∀ {r : List (Addr × List V)} {A B : Hp}, Le A B → Fre c B r → Fre c A r
  | [], _, _, _, _ => trivial
  | q :: r, _, _, h, f => ⟨⟨none_le h f.1.1, f.1.2⟩, fre_le (le_upd h _ _) f.2⟩
theorem hid_keep {c : Cxt} : ∀ {r : List (Addr × List V)} {A : Hp} {p : Addr} {o : HO}, Fre c A r → A p = some o → hid A r p = some o
  | [], _, _, _, _, e => e
  | q :: r, A, p, o, f, e => hid_keep (r := r) f.2 (by rw [upd_ne (fun z => by rw [z, f.1.1] at e; cases e)]; exact e)
theorem hid_sub {c : Cxt} : ∀ {r : List (Addr × List V)} {A : Hp}, Fre c A r → Le A (hid A r)
  | r, A, f => fun p o e => hid_keep f e
theorem hid_none {c : Cxt} : ∀ {r : List (Addr × List V)} {A B : Hp} {p : Addr}, Le A B → Fre c B r → A p = none → B p ≠ none → hid A r p = none
  | [], _, _, _, _, _, e, _ => e
  | q :: r, A, B, p, h, f, e, n => by
    have hb : p ≠ q.1 := fun z => n (by rw [z]; exact f.1.1)
    exact hid_none (r := r) (le_upd h q.1 (.lst q.2)) f.2 (by rw [upd_ne hb]; exact e) (by rw [upd_ne hb]; exact n)
section
variable {c : Cxt}
theorem Rel.weak {A B : Hp} {G H : Hp} {env : EnvD} {s : S} {σ : L2.St} (le : Le B A) (R : Rel (c.h0 A) G env s σ H) : Rel (c.h0 B) G env s σ H :=
  { R with keep := fun p o h1 h2 h3 => R.keep p o (le p o h1) h2 h3
           kn := fun p h => none_le le (R.kn p h)
           h0n := fun p ps z => R.h0n p ps (le p _ z)
           gnew := fun p ws h1 h2 => R.gnew p ws (le p _ h1) h2
           owns := fun i ds hi => (by
             obtain ⟨v, e1, q, vs, rfl, e3, e4, e5⟩ := R.owns i ds hi
             exact ⟨_, e1, q, vs, rfl, e3, none_le le e4, e5⟩) }
theorem Rel.mutG {G H : Hp} {env : EnvD} {s : S} {σ : L2.St} {p : Addr} {vs ws : List V} (R : Rel c G env s σ H) (hl : H p = some (.lst vs)) (h0 : c.H0 p = none) (hg : G p = none) (ha : c.a0 ≠ some p) (ap : Apart env σ (.ref p)) : Rel c G env s σ (upd H p (.lst ws)) :=
  { R with ex := R.ex.mut hg
           st := fun a h => (by
             obtain ⟨m1, y, z, m2, m3⟩ := R.st a h
             exact ⟨m1, y, z, m2, by rw [upd_ne (fun z => ha (by rw [← z]; exact h))]; exact m3⟩)
           keep := fun q o h1 h2 h3 => (by
             rw [upd_ne (fun z => by rw [z, h0] at h1; cases h1)]
             exact R.keep q o h1 h2 h3)
           kn := fun q hq => (by
             by_cases hb : q = p
             · rw [hb]; exact h0
             · rw [upd_ne hb] at hq; exact R.kn q hq)
           tab := Tabs.updL R.tab hl
           owns := fun i es hi => (by
             obtain ⟨w, n1, q, us, rfl, n3, n4, n5, n6, n7⟩ := R.owns i es hi
             have hb : q ≠ p := fun z => ap i es hi (by rw [n1, z])
             exact ⟨_, n1, q, us, rfl, n3, n4, n5, by rw [upd_ne hb]; exact n6, n7⟩) }
theorem Rel.setNo {G H : Hp} {env : EnvD} {s : S} {σ : L2.St} (R : Rel c G env s σ H) (i : Nat) (v : V) : Rel c G (env.set i .no) s (σ.set i (some v)) H := by
  have at1 : ∀ j (x : Sl), x ≠ .no → (env.set i .no)[j]? = some x → j ≠ i ∧ env[j]? = some x := fun j x hx q => by
    by_cases hij : j = i
    · subst hij
      by_cases hl : j < env.length
      · rw [List.getElem?_set_self hl] at q
        exact absurd (Option.some.inj q).symm hx
      · rw [List.getElem?_eq_none (by rw [List.length_set]; omega)] at q; cases q
    · rw [List.getElem?_set_ne (Ne.symm hij)] at q
      exact ⟨hij, q⟩
  exact { R with len := (by rw [List.length_set, List.length_set]; exact R.len)
                 vals := fun j d hj => (by
                   obtain ⟨n, h⟩ := at1 j _ (by simp) hj
                   rw [List.getElem?_set_ne (Ne.symm n)]
                   exact R.vals j d h)
                 owns := fun j d hj => (by
                   obtain ⟨n, h⟩ := at1 j _ (by simp) hj
                   rw [List.getElem?_set_ne (Ne.symm n)]
                   exact R.owns j d h)
                 dist := fun j l ds es w h1 h2 h3 h4 => (by
                   obtain ⟨n1, e1⟩ := at1 j _ (by simp) h1
                   obtain ⟨n2, e2⟩ := at1 l _ (by simp) h2
                   rw [List.getElem?_set_ne (Ne.symm n1)] at h3
                   rw [List.getElem?_set_ne (Ne.symm n2)] at h4
                   exact R.dist j l ds es w e1 e2 h3 h4) }
def wOwns : List FE → EnvD → S → (EnvD → S → Prop) → Prop
  | [], env, s, k => k env s
  | f :: fs, env, s, k => f env s fun r env1 s1 => match r with
    | .own es => es.length < sizeLine ∧ wOwns fs env1 s1 k
    | _ => False
def DOs (c : Cxt) : TA → List FE → Prop
  | t, [] => t = tNil
  | t, f :: fs => ∃ te tr, t = tCons te tr ∧ (∀ A, DE (c.h0 A) te f) ∧ DOs c tr fs
theorem dos_nil : DOs c tNil [] := rfl
theorem dos_cons {te : TE} {f : FE} {t : TA} {fs : List FE} (h : ∀ A, DE (c.h0 A) te f) (h2 : DOs c t fs) : DOs c (tCons te t) (f :: fs) := ⟨te, t, rfl, h, h2⟩
theorem owns_run : ∀ {fs : List FE} {t : TA}, DOs c t fs → ∀ (A G : Hp) (env : EnvD) (s : S) (σ : L2.St) (H : Hp) (k : EnvD → S → Prop) (Q : List V → Hp → Prop), Rel (c.h0 A) G env s σ H → wOwns fs env s k →
    (∀ G' H' ps env' s', Rel (c.h0 (hid A ps)) G' env' s' σ H' → Ex G G' → Fre c A ps → ps.length = fs.length → k env' s' → Q (ps.map fun p => V.ref p.1) H') → t σ H Q
  | [], t, hd, A, G, env, s, σ, H, k, Q, R, hf, q => by
    have e : t = tNil := hd
    subst e
    exact q G H [] env s R (Ex.refl G) trivial rfl hf
  | f :: fs, t, hd, A, G, env, s, σ, H, k, Q, R, hf, q => by
    obtain ⟨te, tr, rfl, h1, h2⟩ := hd
    refine h1 A G env s σ H _ _ R hf fun G1 H1 v r env1 s1 R1 e1 rv k1 => ?_
    cases r with
    | no => exact k1.elim
    | val d => exact k1.elim
    | own es =>
      obtain ⟨hl, k1⟩ := k1
      obtain ⟨⟨p, vs, rfl, g1, g2, g3, g4, g5⟩, ap⟩ := rv
      have R2 : Rel (c.h0 (upd A p (.lst vs))) G1 env1 s1 σ H1 := R1.hide g4 g1 g2 ap
      have hG0 : c.G0 p = none := by
        cases z : c.G0 p with
        | none => rfl
        | some o => have := R1.gx p o z; rw [g1] at this; cases this
      refine owns_run h2 (upd A p (.lst vs)) G1 env1 s1 σ H1 k _ R2 k1 fun G' H' ps env' s' R' e' fr hn kk => ?_
      exact q G' H' ((p, vs) :: ps) env' s' R' (e1.trans e') ⟨⟨g2, g3, hG0, by rw [g5.length]; exact hl⟩, fr⟩ (by simp [hn]) kk
def eachW (i : Nat) (fx : FE) : Nat → EnvD → S → (Fl → Prop) → Prop
  | 0, env, s, k => k (.nx env s)
  | n + 1, env, s, k => fx (env.set i .no) s fun _ env2 s2 => eachW i fx n env2 s2 k
def wEach (i : Nat) (fs : List FE) (fx : FE) : FS := fun env s k => i < env.length ∧ wOwns fs env s fun env1 s1 => fs.length ≤ sizeLine ∧ eachW i fx fs.length env1 s1 k
theorem repL_st {K : PySem.W.Frag} {G : Hp} : ∀ ps : List (Addr × List V), RepL K G (ps.map fun p => D.st p.1) (ps.map fun p => V.ref p.1)
  | [] => RepL.nil
  | p :: r => RepL.cons (by simp only [Rep]) (repL_st r)
theorem ds_each {i : Nat} {fs : List FE} {fx : FE} {t : TA} {tx : TE} (h : DOs c t fs) (hx : ∀ A, DE (c.h0 A) tx fx) :
    DS c (tFor (iList c.K (tLst t)) (gName i) (tDrop (tBM c.K "list" rAppend (tVar i) (tCons tx tNil)))) (wEach i fs fx) := by
  intro G env s σ H k E R hf q
  obtain ⟨hi0, hf⟩ := hf
  rw [R.len] at hi0
  refine owns_run h c.H0 G env s σ H _ _ R hf fun G1 H1 ps env1 s1 R1 e1 fr hn kk => ?_
  obtain ⟨hsz, kk⟩ := kk
  refine ⟨by rw [List.length_map, hn]; exact hsz, fun p0 hp0 => ?_⟩
  have R2 := R1.new (o := .lst (ps.map fun p => V.ref p.1)) hp0 (fun _ z => by cases z)
  have R3 := R2.grow upd_same (R1.kn p0 hp0) (R1.g0 hp0) (R1.a0ne hp0) (fun _ z => by cases z) (R1.newApart hp0)
  have e3 : Ex G1 (upd G1 p0 (.lst (ps.map fun p => V.ref p.1))) := Ex.new (R1.g0 hp0)
  generalize hG3 : upd G1 p0 (.lst (ps.map fun p => V.ref p.1)) = G3 at R3 e3
  have hp3 : G3 p0 = some (.lst (ps.map fun p => V.ref p.1)) := by rw [← hG3, upd_same]
  have w : Wk c G3 (Itl c.K p0) (ps.map fun p => D.st p.1) := wk_at (repL_st ps) (walk_list (K := c.K)) fun _ G' H' _ _ _ R' e' => Evl.sq_of (R'.ex _ _ (e' _ _ hp3))
  refine ⟨p0, rfl, ⟨_, Evl.sq_of (R3.ex _ _ hp3)⟩, ?_⟩
  obtain ⟨n, Gd, Y, hnn, wk, hGd, hY⟩ := w.ex
  have hnn' : n = ps.length := by rw [hnn, List.length_map]
  have hsub : ∀ j, Le c.H0 (hid c.H0 (ps.drop j)) ∧ Fre c c.H0 (ps.drop j) := fun j => by
    have : ∀ (ps : List (Addr × List V)) (A : Hp), Le c.H0 A → Fre c A ps → ∀ j, Fre c c.H0 (ps.drop j) := by
      intro ps
      induction ps with
      | nil => intro A _ _ j; rw [List.drop_nil]; trivial
      | cons q r ih =>
        intro A hA f j
        cases j with
        | zero => exact fre_le hA f
        | succ j => exact ih (upd A q.1 (.lst q.2)) (fun p o e => by rw [upd_ne (fun z => by have z1 := f.1.1; rw [← z, hA _ _ e] at z1; cases z1)]; exact hA p o e) f.2 j
    have f := this ps c.H0 (fun _ _ e => e) fr j
    exact ⟨hid_sub f, f⟩
  refine for_it wk (fun j σ' H' => i < σ'.length ∧ ∃ G' env' s', Rel (c.h0 (hid c.H0 (ps.drop j))) G' env' s' σ' H' ∧ Ex G3 G' ∧ eachW i fx (fs.length - j) env' s' k) ⟨hi0, G3, env1, s1, R3, Ex.refl _, kk⟩
    (fun j σ' H' _ ⟨_, G', env', s', R', e', _⟩ => hGd ⟨_, (hsub j).1⟩ G' H' env' s' σ' R' e') ?_ ?_
  · rintro j x σ' H' H3 hin ⟨il, G', env', s', R', e', k'⟩ y
    obtain ⟨G4, d, R4, e4, hd, rd⟩ := hY j ⟨_, (hsub j).1⟩ G' H' env' s' σ' x H3 hin R' e' y
    have hj : j < ps.length := by omega
    have hdrop : ps.drop j = ps[j] :: ps.drop (j + 1) := List.drop_eq_getElem_cons hj
    have hd' : d = .st ps[j].1 := by
      rw [List.getElem?_map, List.getElem?_eq_getElem hj] at hd
      exact (Option.some.inj hd).symm
    subst hd'
    simp only [Rep] at rd
    subst rd
    have fr1 := (hsub j).2
    have R4 : Rel (c.h0 (hid c.H0 (ps.drop j))) G4 env' s' σ' H3 := R4
    rw [hdrop] at fr1 R4
    obtain ⟨⟨f1, f2, f3, f4⟩, f5⟩ := fr1
    generalize ps[j] = pj at *
    obtain ⟨p, vs⟩ := pj
    simp only at f1 f2 f3 f4 f5 R4 ⊢
    have R5 := R4.setNo i (.ref p)
    have hkk : fs.length - j = (fs.length - (j + 1)) + 1 := by omega
    rw [hkk] at k'
    have hp : ∀ {G6 env6 s6 σ6 H6}, Rel (c.h0 (hid c.H0 ((p, vs) :: ps.drop (j + 1)))) G6 env6 s6 σ6 H6 → H6 p = some (.lst vs) ∧ G6 p = none ∧ Apart env6 σ6 (.ref p) := fun {G6 env6 s6 σ6 H6} R6 => by
      have hh0 : hid (upd c.H0 p (.lst vs)) (ps.drop (j + 1)) p = some (.lst vs) := hid_keep (c := c) f5 upd_same
      have hh : hid c.H0 ((p, vs) :: ps.drop (j + 1)) p = some (.lst vs) := hh0
      refine ⟨R6.keep p _ hh f2 (fun _ z => by cases z), R6.gnew p vs (by show hid c.H0 ((p, vs) :: ps.drop (j + 1)) p = some (.lst vs); exact hh) f3, fun l es h1 h2 => ?_⟩
      obtain ⟨v, z1, q, us, rfl, z3, z4, _⟩ := R6.owns l es h1
      rw [z1] at h2
      cases h2
      have z4' : hid c.H0 ((p, vs) :: ps.drop (j + 1)) p = none := z4
      rw [hh] at z4'
      cases z4'
    have hi : (σ'.set i (some (V.ref p)))[i]? = some (some (.ref p)) := List.getElem?_set_self il
    refine ⟨.ref p, hi, Or.inl ⟨rfl, vs, Evl.sq_of (hp R5).1⟩, ?_⟩
    refine hx _ G4 (env'.set i .no) s' _ H3 _ _ R5 k' fun G6 H6 v r env6 s6 R6 e6 rv k6 => ?_
    obtain ⟨h61, h62, h63⟩ := hp R6
    refine ⟨p, vs, v, rfl, rfl, h61, f4, ?_⟩
    have R7 : Rel (c.h0 (hid c.H0 (ps.drop (j + 1)))) G6 env6 s6 _ H6 := R6.weak (hid_le fun q o e => by rw [upd_ne (fun z => by rw [z, f1] at e; cases e)]; exact e)
    have hnone : hid c.H0 (ps.drop (j + 1)) p = none := hid_none (B := upd c.H0 p (.lst vs)) (fun q o e => by rw [upd_ne (fun z => by rw [z, f1] at e; cases e)]; exact e) f5 f1 (by rw [upd_same]; simp)
    exact ⟨by rw [List.length_set]; exact il, G6, env6, s6, R7.mutG h61 hnone h62 f2 h63, ((e'.trans e4).trans e6), k6⟩
  · rintro σ' H' ⟨_, G', env', s', R', e', k'⟩
    have e0 : fs.length - n = 0 := by omega
    rw [e0] at k'
    have e1' : ps.drop n = [] := by rw [hnn', List.drop_length]
    rw [e1'] at R'
    exact q.nx G' H' env' s' σ' R' ((e1.trans e3).trans e') k'
end
theorem inT_K (K : PySem.W.Frag) {X : Cx} (hK : X.K = K := by rfl) : OpR X (compareOp .In) (rIn K false) := by subst hK; exact op_in_seq
theorem notInT_K (K : PySem.W.Frag) {X : Cx} (hK : X.K = K := by rfl) : OpR X (compareOp .NotIn) (rIn K true) := by subst hK; exact op_notIn_seq
def gInT (neg : Bool) : F2 := fun d e k => match d, e with
  | .int i, .tup [.int a, .int b] => k (.val (.bl (if neg then !(i == a || i == b) else (i == a || i == b))))
  | _, _ => False
theorem gInT_ap (neg : Bool) (d e : D) (k : Sl → Prop) : gInT neg d e k = (match d, e with
  | .int i, .tup [.int a, .int b] => k (.val (.bl (if neg then !(i == a || i == b) else (i == a || i == b))))
  | _, _ => False) := rfl
theorem d2_inT {c : Cxt} (neg : Bool) : D2 c (rIn c.K neg) (gInT neg) := by
  intro G env s σ H x y d e k Q R p1 p2 h q
  unfold gInT at h
  split at h
  · rename_i i a b
    have hx := pr_int p1 rfl
    subst hx
    have h' : Rep c.K G (.tup [.int a, .int b]) y := p2
    simp only [Rep] at h'
    obtain ⟨p, vs, rfl, h3, h4⟩ := h'
    have hv : vs = [.int a, .int b] := by
      simp only [RepL, Rep] at h4
      obtain ⟨v, r, rfl, rfl, w, r2, rfl, rfl, rfl⟩ := h4
      rfl
    subst hv
    refine ⟨p, _, rfl, .inr (Evl.ex_t R.ex h3), rfl, rfl, ?_⟩
    have e1 : inV (.int i) [.int a, .int b] = (i == a || i == b) := by
      show (a == i || (b == i || false)) = (i == a || i == b)
      rw [Bool.or_false, BEq.comm (a := a), BEq.comm (a := b)]
    rw [e1]
    exact q G H _ (.val (.bl _)) R (Ex.refl G) (by simp only [RV, Rep]) h
  · exact h.elim
end DL
set_option Elab.async false
set_option linter.all false
set_option maxRecDepth 100000
set_option maxHeartbeats 1000000
namespace DL
open PySem L2 PySem.Spec PyProof.Rows
open Evl (Ex)
theorem tg_lst (K : PySem.W.Frag) {X : Cx} {pos : Pos} {es : List Expr} {k : Nat} {t : TGs} {n : Nat} (h : PGs X es t) (hK : X.K = K := by rfl) (hc : X.calm = true := by rfl) (hn : (assignEach es X.env).length = n := by rfl) (hst : (assignEach es X.env).findIdx? (·.1) = none := by rfl) : PG X (.Tuple es k pos) (gLst K n t) := by
  subst hK; exact pg_lst hc h hn hst
def wTupL (n : Nat) (f : FGs) : FG := fun r env s k => match r.d with
  | .lst ds => ds.length = n ∧ f ds env s k
  | _ => False
theorem dg_lst {c : Cxt} {n : Nat} {ts : TGs} {fs : FGs} (h : DGs c ts fs) : DG c (gLst c.K n ts) (wTupL n fs) := by
  intro G env s σ H v r k Q R rv hf q
  unfold wTupL at hf
  cases r with
  | no => exact rv.elim
  | own ds =>
    obtain ⟨G1, R1, e1, rp⟩ := R.toVal rv
    have h' : Rep c.K G1 (.lst ds) v := rp
    simp only [Rep] at h'
    obtain ⟨p, vs, rfl, h2, h3⟩ := h'
    exact ⟨p, vs, rfl, Evl.sq_of (R1.ex _ _ h2), by rw [h3.length]; exact hf.1, h G1 env s σ H vs ds k Q R1 h3 hf.2 fun G2 H2 env2 s2 σ2 R2 e2 kk => q G2 H2 env2 s2 σ2 R2 (e1.trans e2) kk⟩
  | val d =>
    cases d with
    | lst ds =>
      have h' : Rep c.K G (.lst ds) v := rv
      simp only [Rep] at h'
      obtain ⟨p, vs, rfl, h2, h3⟩ := h'
      exact ⟨p, vs, rfl, Evl.sq_of (R.ex _ _ h2), by rw [h3.length]; exact hf.1, h G env s σ H vs ds k Q R h3 hf.2 q⟩
    | _ => exact hf.elim
theorem units1 {k : Nat} {A : Around} (r : Room k A) : A.units + 1 < cLine := by have := r.un; omega
def lkD : Option D → List (Key × D) → Key → Option D
  | o, [], _ => o
  | o, (k, d) :: r, j => lkD (if j = k then some d else o) r j
def kyD : D → Option Key
  | .int i => some (.inl i)
  | .str x => some (.inr x)
  | _ => none
def wDSub (ks : List Key) (fa : FA) (fi : FP) : FE := fun env s k => fa env s fun ds env1 s1 => fi env1 s1 fun d env2 s2 => match kyD d with
  | some j => ∃ z, lkD none (ks.zip ds) j = some z ∧ k (.val z) env2 s2
  | none => False
def DQ (c : Cxt) (trs : List (TE × TE)) (ks : List Key) (f : FA) : Prop := ∀ (G : Hp) (env : EnvD) (s : S) (σ : L2.St) (H : Hp) (k : List D → EnvD → S → Prop) (Q : List (V × V) → Hp → Prop), Rel c G env s σ H → f env s k →
  (∀ G' H' vs ds env' s', Rel c G' env' s' σ H' → Ex G G' → RepL c.K G' ds vs → k ds env' s' → Q ((ks.zip vs).map fun kv => (kV kv.1, kv.2)) H') → tPairs trs σ H Q
section
variable {c : Cxt}
theorem dq_nil : DQ c [] [] wNil := fun G env s σ H k Q R hf q => q G H [] [] env s R (Ex.refl G) RepL.nil hf
theorem dq_cons {tk ta : TE} {fa : FE} {trs : List (TE × TE)} {ks : List Key} {f : FA} (j : Key) (hk : ∀ (σ : L2.St) (H : Hp) (Q : VK), Q (kV j) H → tk σ H Q) (h : DE c ta fa) (h' : DQ c trs ks f) : DQ c ((tk, ta) :: trs) (j :: ks) (wCons fa f) := by
  intro G env s σ H k Q R hf q
  refine hk σ H _ ?_
  refine h G env s σ H _ _ R hf fun G1 H1 v r env1 s1 R1 e1 rv1 k1 => ?_
  obtain ⟨G2, R2, e2, rp⟩ := R1.toVal rv1
  exact h' G2 env1 s1 σ H1 _ _ R2 k1 fun G3 H3 vs ds env3 s3 R3 e3 rl k3 => q G3 H3 (v :: vs) (r.d :: ds) env3 s3 R3 ((e1.trans e2).trans e3) (RepL.cons (Rep.mono e3 _ rp) rl) k3
theorem RepL.lk {K : PySem.W.Frag} {G : Hp} {j : Key} {z : D} : ∀ {ks : List Key} {ds : List D} {vs : List V} {o : Option D} {kvs : List (Key × V)}, RepL K G ds vs → (∀ d, o = some d → ∃ v, valV kvs j = some v ∧ Rep K G d v) → lkD o (ks.zip ds) j = some z →
    ∃ v, valV (mergeK kvs (ks.zip vs)) j = some v ∧ Rep K G z v
  | [], ds, vs, o, kvs, _, ho, h => by
    simp only [List.zip_nil_left, lkD] at h
    exact ho z h
  | k :: ks, [], vs, o, kvs, hr, ho, h => by
    simp only [RepL] at hr
    subst hr
    simp only [List.zip_nil_right, lkD] at h
    exact ho z h
  | k :: ks, d :: ds, vs, o, kvs, hr, ho, h => by
    simp only [RepL] at hr
    obtain ⟨v, r, rfl, h1, h2⟩ := hr
    simp only [List.zip_cons_cons, lkD] at h
    show ∃ w, valV (mergeK (putK kvs k v) (ks.zip r)) j = some w ∧ _
    refine RepL.lk (ks := ks) (ds := ds) h2 (fun d' hd => ?_) h
    rw [valV_put]
    by_cases hjk : j = k
    · rw [if_pos hjk] at hd ⊢
      cases hd
      exact ⟨v, rfl, h1⟩
    · rw [if_neg hjk] at hd ⊢
      exact ho d' hd
theorem kyD_v {G : Hp} {H : Hp} {d : D} {v : V} {j : Key} (h : PR c G H d v) (e : kyD d = some j) : v = kV j := by
  cases d with
  | int i =>
    cases e
    exact pr_int h rfl
  | str x =>
    cases e
    have : Rep c.K G (.str x) v := h
    simp only [Rep] at this
    exact this
  | _ => cases e
mutual
theorem Rep.dic {K : PySem.W.Frag} {G : Hp} {p : Addr} {a b : List (Key × V)} (hp : G p = some (.dK a)) : ∀ (d : D) {v : V}, Rep K G d v → Rep K (upd G p (.dK b)) d v
  | .non, _, h => by simpa only [Rep] using h
  | .bl _, _, h => by simpa only [Rep] using h
  | .int _, _, h => by simpa only [Rep] using h
  | .str _, _, h => by simpa only [Rep] using h
  | .st _, _, h => by simpa only [Rep] using h
  | .lst ds, v, h => by
    simp only [Rep] at h ⊢
    obtain ⟨q, vs, e, h1, h2⟩ := h
    have hb : q ≠ p := fun z => by rw [z, hp] at h1; cases h1
    exact ⟨q, vs, e, by rw [upd_ne hb]; exact h1, RepL.dic hp ds h2⟩
  | .tup ds, v, h => by
    simp only [Rep] at h ⊢
    obtain ⟨q, vs, e, h1, h2⟩ := h
    refine ⟨q, vs, e, ?_, RepL.dic hp ds h2⟩
    rcases h1 with (h1 | h1) | h1
    · have hb : q ≠ p := fun z => by rw [z, hp] at h1; cases h1
      exact .inl (.inl (by rw [upd_ne hb]; exact h1))
    · have hb : q ≠ p := fun z => by
        rw [z, hp] at h1
        obtain ⟨_, w⟩ := h1
        cases w
      exact .inl (.inr (by rw [upd_ne hb]; exact h1))
    · exact .inr h1
  | .dic, v, h => by
    simp only [Rep] at h ⊢
    obtain ⟨q, kvs, e, h1⟩ := h
    by_cases hb : q = p
    · exact ⟨q, b, e, by rw [hb, upd_same]⟩
    · exact ⟨q, kvs, e, by rw [upd_ne hb]; exact h1⟩
  | .scr ns, v, h => by
    simp only [Rep] at h ⊢
    obtain ⟨q, e, h1⟩ := h
    refine ⟨q, e, ?_⟩
    rcases h1 with (h1 | h1) | h1
    · have hb : q ≠ p := fun z => by rw [z, hp] at h1; cases h1
      exact .inl (.inl (by rw [upd_ne hb]; exact h1))
    · have hb : q ≠ p := fun z => by
        rw [z, hp] at h1
        obtain ⟨_, w⟩ := h1
        cases w
      exact .inl (.inr (by rw [upd_ne hb]; exact h1))
    · exact .inr h1
  | .exc x, v, h => by
    simp only [Rep] at h ⊢
    obtain ⟨q, e, h1⟩ := h
    have hb : q ≠ p := fun z => by rw [z, hp] at h1; unfold ErrO at h1; cases h1
    exact ⟨q, e, by rw [upd_ne hb]; exact h1⟩
  | .fn f q o u, v, h => by
    simp only [Rep] at h ⊢
    obtain ⟨e, h1, h2, h3, h4⟩ := h
    have hf : f ≠ p := fun z => by rw [z, hp] at h1; exact h3 _ (Option.some.inj h1).symm
    have hb : q ≠ p := fun z => by rw [z, hp] at h2; exact h4 _ (Option.some.inj h2).symm
    exact ⟨e, by rw [upd_ne hf]; exact h1, by rw [upd_ne hb]; exact h2, h3, h4⟩
theorem RepL.dic {K : PySem.W.Frag} {G : Hp} {p : Addr} {a b : List (Key × V)} (hp : G p = some (.dK a)) : ∀ (ds : List D) {vs : List V}, RepL K G ds vs → RepL K (upd G p (.dK b)) ds vs
  | [], _, h => by simpa only [RepL] using h
  | d :: ds, vs, h => by
    simp only [RepL] at h ⊢
    obtain ⟨v, r, e, h1, h2⟩ := h
    exact ⟨v, r, e, Rep.dic hp d h1, RepL.dic hp ds h2⟩
end
theorem Tabs.updD {T : List (Addr × Str)} {H : Hp} {p : Addr} {a b : List (Key × V)} (h : LamX.Tabs T H) (e : H p = some (.dK a)) : LamX.Tabs T (upd H p (.dK b)) := fun q hq => by
  obtain ⟨ps, h1, h2, h3⟩ := h q hq
  have n1 : q.1 ≠ p := ne_of h1 e (by intro z; cases z)
  refine ⟨ps, by rw [upd_ne n1]; exact h1, h2, fun pos cv hc => ?_⟩
  obtain ⟨x, e1, e2⟩ := h3 pos cv hc
  refine ⟨x, e1, ?_⟩
  rw [upd_ne (ne_of e2 e (by intro z; unfold LamX.CodeO at z; cases z))]
  exact e2
theorem Rel.dic {G H : Hp} {env : EnvD} {s : S} {σ : L2.St} {p : Addr} {a b : List (Key × V)} (R : Rel c G env s σ H) (hg : G p = some (.dK a)) (h0 : c.H0 p = none) (g0 : c.G0 p = none) (ha : c.a0 ≠ some p) : Rel c (upd G p (.dK b)) env s σ (upd H p (.dK b)) := by
  have hH := R.ex _ _ hg
  refine { ex := fun q u hq => ?_, st := fun a h1 => ?_, sn := R.sn, keep := fun q u h1 h2 h3 => ?_, kn := fun q hq => ?_, h0n := R.h0n, tab := Tabs.updD R.tab hH, gnew := fun q ws h1 h2 => ?_, gx := fun q u hq => ?_, gtb := fun q ps hq => ?_, len := R.len,
           vals := fun i d hi => ?_, owns := fun i ds hi => ?_, dist := R.dist }
  · by_cases hb : q = p
    · subst hb; rw [upd_same] at hq ⊢; exact hq
    · rw [upd_ne hb] at hq ⊢; exact R.ex q u hq
  · have hb : a ≠ p := fun z => ha (by rw [← z]; exact h1)
    obtain ⟨m1, y, z, m2, m3⟩ := R.st a h1
    exact ⟨by rw [upd_ne hb]; exact m1, y, z, m2, by rw [upd_ne hb]; exact m3⟩
  · have hb : q ≠ p := fun z => by rw [z, h0] at h1; cases h1
    rw [upd_ne hb]
    exact R.keep q u h1 h2 h3
  · by_cases hb : q = p
    · rw [hb]; exact h0
    · rw [upd_ne hb] at hq; exact R.kn q hq
  · have hb : q ≠ p := fun z => by rw [z, h0] at h1; cases h1
    rw [upd_ne hb]
    exact R.gnew q ws h1 h2
  · have hb : q ≠ p := fun z => by rw [z, g0] at hq; cases hq
    rw [upd_ne hb]
    exact R.gx q u hq
  · by_cases hb : q = p
    · subst hb; rw [upd_same] at hq; cases hq
    · rw [upd_ne hb] at hq; exact R.gtb q ps hq
  · obtain ⟨v, h1, h2⟩ := R.vals i d hi
    exact ⟨v, h1, Rep.dic hg d h2⟩
  · obtain ⟨v, h1, q, vs, h2, h3, h4, h5, h6, h7⟩ := R.owns i ds hi
    have hb : q ≠ p := fun z => by rw [z, hg] at h3; cases h3
    exact ⟨v, h1, q, vs, h2, by rw [upd_ne hb]; exact h3, h4, h5, by rw [upd_ne hb]; exact h6, RepL.dic hg ds h7⟩
theorem de_dsub {trs : List (TE × TE)} {ks : List Key} {fa : FA} {ti : TE} {fi : FP} (hl : ks.length ≤ 15) (h : DQ c trs ks fa) (hi : DP c ti fi) : DE c (tDGet (tDisp trs) ti) (wDSub ks fa fi) := by
  intro G env s σ H k Q R hf q
  intro p hp
  have R1 := R.new (o := .dK []) hp (fun _ z => by cases z)
  have hg0 := R.g0 hp
  have hk0 := R.kn p hp
  have ha := R.a0ne hp
  have hG0 : c.G0 p = none := by
    cases e : c.G0 p with
    | none => rfl
    | some o => rw [R.gx p o e] at hg0; cases hg0
  have R2 := R1.grow upd_same hk0 hg0 ha (fun _ z => by cases z) (R.newApart hp)
  have e2 : Ex G (upd G p (.dK [])) := Ex.new hg0
  refine h _ env s σ _ _ _ R2 hf fun G3 H3 vs ds env3 s3 R3 e3 rl k3 => ?_
  have hp3 : G3 p = some (.dK []) := e3 _ _ upd_same
  have lz : (ks.zip vs).length ≤ 15 := by rw [List.length_zip]; omega
  refine ⟨R3.ex _ _ hp3, ks.zip vs, rfl, lz, ?_⟩
  have R4 := R3.dic (b := mergeK [] (ks.zip vs)) hp3 hk0 hG0 ha
  have e4 : Ex G (upd G3 p (.dK (mergeK [] (ks.zip vs)))) := fun b o hb => by
    have hbp : b ≠ p := fun z => by rw [z, hg0] at hb; cases hb
    rw [upd_ne hbp]
    exact (e2.trans e3) b o hb
  refine hi _ env3 s3 σ _ _ _ R4 k3 fun G5 H5 y d env5 s5 R5 e5 p5 k5 => ?_
  split at k5
  · rename_i j hj
    obtain ⟨z, hz, k6⟩ := k5
    have hy := kyD_v p5 hj
    have rl4 := RepL.dic (b := mergeK [] (ks.zip vs)) hp3 ds rl
    obtain ⟨v, hv, rv⟩ := RepL.lk (kvs := []) rl4 (fun d z => by cases z) hz
    refine ⟨p, v, rfl, ?_, q G5 H5 v (.val z) env5 s5 R5 (e4.trans e5) (Rep.mono e5 _ rv) k6⟩
    rw [hy, ← hv]
    exact DGet.k (R5.ex _ _ (e5 _ _ upd_same))
  · exact k5.elim
end
end DL
set_option linter.all false
namespace DL
open PySem L2
abbrev KE := Sl → EnvD → S → Prop
abbrev KP := D → EnvD → S → Prop
abbrev KA := List D → EnvD → S → Prop
abbrev KT := Bool → EnvD → S → Prop
abbrev KG := EnvD → S → Prop
abbrev KO := Option Int → EnvD → S → Prop
section
variable (f : FE) (fa : FA) (fp fp' : FP) (ft ft' : FT) (g g' : FG) (gs : FGs) (fs fs' : FS) (fi : FI) (fb : FB) (fo fo' : FO) (f' f'' : FE) (env e : EnvD) (s s1 : S) (i j n : Nat) (r r' : Sl) (d : D) (ds es : List D)
variable (ke : KE) (kp : KP) (ka : KA) (kt : KT) (kg : KG) (ks : Fl → Prop) (kl : Sl → Prop) (F : Fn) (xq : Str → S → Prop) (o2 o2' : F2) (o1 : F1) (ol : FL) (vs : List Nat)
def valK : Sl → Prop := fun r => ke r e s
theorem valK_ap : valK e s ke r = ke r e s := rfl
def asg2K : KG := fun e s => ks (.nx e s)
theorem asg2K_ap : asg2K ks e s = ks (.nx e s) := rfl
def asgK : KE := fun r e s => g r e s (asg2K ks)
theorem asgK_ap : asgK g ks r e s = g r e s (asg2K ks) := rfl
theorem wAsg_C : wAsg f g env s ks = f env s (asgK g ks) := rfl
def gconsK : KG := fun e s => gs ds e s kg
theorem gconsK_ap : gconsK gs ds kg e s = gs ds e s kg := rfl
theorem wGCons_C : wGCons g gs (d :: ds) env s kg = g (.val d) env s (gconsK gs ds kg) := rfl
theorem wGCons_N : wGCons g gs [] env s kg = False := rfl
def parK : KA := fun ds e s => match ds with
  | [d, d'] => ks (.nx ((e.set i (.val d)).set j (.val d')) s)
  | _ => False
theorem parK_ap (d' : D) : parK i j ks [d, d'] e s = ks (.nx ((e.set i (.val d)).set j (.val d')) s) := rfl
theorem wPar_C : wPar i j fa env s ks = fa env s (parK i j ks) := rfl
def appK : KE := fun r e s => match at_ e j with
  | .own ds => ds.length < sizeLine ∧ ks (.nx (e.set j (.own (ds ++ [r.d]))) s)
  | _ => False
theorem appK_ap : appK j ks r e s = (match at_ e j with
  | .own ds => ds.length < sizeLine ∧ ks (.nx (e.set j (.own (ds ++ [r.d]))) s)
  | _ => False) := rfl
theorem wApp_C : wApp j f env s ks = (match at_ env j with
  | .own _ => f env s (appK j ks)
  | _ => False) := rfl
def extK : KE := fun r e s => match at_ e j, r.d with
  | .own ds, .lst es => ds.length + es.length ≤ sizeLine ∧ ks (.nx (e.set j (.own (ds ++ es))) s)
  | _, _ => False
theorem extK_ap : extK j ks r e s = (match at_ e j, r.d with
  | .own ds, .lst es => ds.length + es.length ≤ sizeLine ∧ ks (.nx (e.set j (.own (ds ++ es))) s)
  | _, _ => False) := rfl
theorem wExt_C : wExt j f env s ks = (match at_ env j with
  | .own _ => f env s (extK j ks)
  | _ => False) := rfl
def st2K : S → Prop := fun s2 => kg e s2
theorem st2K_ap : st2K e kg s1 = kg e s1 := rfl
def subK : KP := fun di e s => match at_ e j, di with
    | .own ds, .int i => ∃ n, ixN ds.length i = some n ∧ kg (e.set j (.own (ds.set n r.d))) s
    | .val (.st a), .int i => setSt s a i r.d (st2K e kg)
    | _, _ => False
theorem subK_ap : subK j r kg d e s = (match at_ e j, d with
    | .own ds, .int i => ∃ n, ixN ds.length i = some n ∧ kg (e.set j (.own (ds.set n r.d))) s
    | .val (.st a), .int i => setSt s a i r.d (st2K e kg)
    | _, _ => False) := rfl
theorem wSub_C : wSub j fp r env s kg = (match at_ env j with
  | .no => False
  | _ => fp env s (subK j r kg)) := rfl
def forK : KA := fun ds e s => forW g fs ks ds e s
theorem forK_ap : forK g fs ks ds e s = forW g fs ks ds e s := rfl
theorem wFor_C : wFor fi g fs env s ks = fi env s (forK g fs ks) := rfl
def rng1K : KA := fun ds e s => match ds with
  | [.int j] => (-(2 ^ 62) ≤ j ∧ j < 2 ^ 62) ∧ ka (intL 0 j.toNat) e s
  | _ => False
theorem rng1K_ap (x : Int) : rng1K ka [.int x] e s = ((-(2 ^ 62) ≤ x ∧ x < 2 ^ 62) ∧ ka (intL 0 x.toNat) e s) := rfl
theorem wRng1_C : wRng1 fa env s ka = fa env s (rng1K ka) := rfl
def rng2K : KA := fun ds e s => match ds with
  | [.int i, .int j] => (-(2 ^ 62) ≤ i ∧ i < 2 ^ 62 ∧ -(2 ^ 62) ≤ j ∧ j < 2 ^ 62) ∧ ka (intL i (j - i).toNat) e s
  | _ => False
theorem rng2K_ap (x y : Int) : rng2K ka [.int x, .int y] e s = ((-(2 ^ 62) ≤ x ∧ x < 2 ^ 62 ∧ -(2 ^ 62) ≤ y ∧ y < 2 ^ 62) ∧ ka (intL x (y - x).toNat) e s) := rfl
theorem wRng2_C : wRng2 fa env s ka = fa env s (rng2K ka) := rfl
def rng3K : KA := fun ds e s => match ds with
  | [.int i, .int j, .int c] => ∃ n, RgC i j c n ∧ ka (intLC i c n) e s
  | _ => False
theorem rng3K_ap (x y z : Int) : rng3K ka [.int x, .int y, .int z] e s = (∃ n, RgC x y z n ∧ ka (intLC x z n) e s) := rfl
theorem wRng3_C : wRng3 fa env s ka = fa env s (rng3K ka) := rfl
def enumK : KA := fun ds e s => match ds with
  | [.lst es] => ka (enumD es) e s
  | _ => False
theorem enumK_ap : enumK ka [.lst es] e s = ka (enumD es) e s := rfl
theorem wEnum_C : wEnum fa env s ka = fa env s (enumK ka) := rfl
def zipK : KA := fun ds e s => match ds with
  | [.lst es, .lst fs] => ka (zipD es fs) e s
  | [.tup es, .tup fs] => ka (zipD es fs) e s
  | _ => False
theorem zipK_ap : zipK ka [.lst ds, .lst es] e s = ka (zipD ds es) e s := rfl
theorem zipK_ap' : zipK ka [.tup ds, .tup es] e s = ka (zipD ds es) e s := rfl
theorem wZip_C : wZip fa env s ka = fa env s (zipK ka) := rfl
def revK : KA := fun ds e s => match ds with
  | [.lst es] => ka es.reverse e s
  | _ => False
theorem revK_ap : revK ka [.lst es] e s = ka es.reverse e s := rfl
theorem wRev_C : wRev fa env s ka = fa env s (revK ka) := rfl
def itK : KE := fun r e s => match r.d with
  | .lst ds => ka ds e s
  | _ => False
theorem itK_ap : itK ka r e s = (match r.d with
  | .lst ds => ka ds e s
  | _ => False) := rfl
theorem wIt_C : wIt f env s ka = f env s (itK ka) := rfl
def itTK : KE := fun r e s => match r.d with
  | .tup ds => ka ds e s
  | _ => False
theorem itTK_ap : itTK ka r e s = (match r.d with
  | .tup ds => ka ds e s
  | _ => False) := rfl
theorem wItT_C : wItT f env s ka = f env s (itTK ka) := rfl
def pK : KE := fun r e s => kp r.d e s
theorem pK_ap : pK kp r e s = kp r.d e s := rfl
theorem wP_C : wP f env s kp = f env s (pK kp) := rfl
def op2K : KP := fun d e s => o2 r.d d (valK e s ke)
theorem op2K_ap : op2K r ke o2 d e s = o2 r.d d (valK e s ke) := rfl
def opK : KE := fun r e s => fp e s (op2K r ke o2)
theorem opK_ap : opK fp ke o2 r e s = fp e s (op2K r ke o2) := rfl
theorem wOp_C : wOp o2 f fp env s ke = f env s (opK fp ke o2) := rfl
def opvK : KP := fun d e s => at_ e i ≠ .no ∧ o2 (at_ e i).d d (valK e s ke)
theorem opvK_ap : opvK i ke o2 d e s = (at_ e i ≠ .no ∧ o2 (at_ e i).d d (valK e s ke)) := rfl
theorem wOpv_C : wOpv o2 i fp env s ke = (at_ env i ≠ .no ∧ fp env s (opvK i ke o2)) := rfl
def unK : KP := fun d e s => o1 d (valK e s ke)
theorem unK_ap : unK ke o1 d e s = o1 d (valK e s ke) := rfl
theorem wUn_C : wUn o1 fp env s ke = fp env s (unK ke o1) := rfl
theorem wCB1_C : wCB1 o1 fp env s ke = fp env s (unK ke o1) := rfl
def cbK : KA := fun ds e s => ol ds (valK e s ke)
theorem cbK_ap : cbK ke ol ds e s = ol ds (valK e s ke) := rfl
theorem wCB_C : wCB ol fa env s ke = fa env s (cbK ke ol) := rfl
def bK : KE := fun r e s => match r.d with
  | .bl b => kt b e s
  | _ => False
theorem bK_ap : bK kt r e s = (match r.d with
  | .bl b => kt b e s
  | _ => False) := rfl
theorem wB_C : wB f env s kt = f env s (bK kt) := rfl
def notK : KT := fun b e s => kt (!b) e s
theorem notK_ap (b : Bool) : notK kt b e s = kt (!b) e s := rfl
theorem wNot_C : wNot ft env s kt = ft env s (notK kt) := rfl
def andK : KT := fun b e s => if b = true then ft' e s kt else kt false e s
theorem andK_ap (b : Bool) : andK ft' kt b e s = (if b = true then ft' e s kt else kt false e s) := rfl
theorem wAnd_C : wAnd ft ft' env s kt = ft env s (andK ft' kt) := rfl
def orK : KT := fun b e s => if b = true then kt true e s else ft' e s kt
theorem orK_ap (b : Bool) : orK ft' kt b e s = (if b = true then kt true e s else ft' e s kt) := rfl
theorem wOr_C : wOr ft ft' env s kt = ft env s (orK ft' kt) := rfl
def andVK : KE := fun r e s => match r.d with
  | .bl b => if b = true then f' e s ke else ke (.val (.bl false)) e s
  | _ => False
theorem andVK_ap : andVK f' ke r e s = (match r.d with
  | .bl b => if b = true then f' e s ke else ke (.val (.bl false)) e s
  | _ => False) := rfl
theorem wAndV_C : wAndV f f' env s ke = f env s (andVK f' ke) := rfl
def orVK : KE := fun r e s => match r.d with
  | .bl b => if b = true then ke (.val (.bl true)) e s else f' e s ke
  | _ => False
theorem orVK_ap : orVK f' ke r e s = (match r.d with
  | .bl b => if b = true then ke (.val (.bl true)) e s else f' e s ke
  | _ => False) := rfl
theorem wOrV_C : wOrV f f' env s ke = f env s (orVK f' ke) := rfl
def notVK : KE := fun r e s => match r.d with
  | .bl b => ke (.val (.bl (!b))) e s
  | _ => False
theorem notVK_ap : notVK ke r e s = (match r.d with
  | .bl b => ke (.val (.bl (!b))) e s
  | _ => False) := rfl
theorem wNotV_C : wNotV f env s ke = f env s (notVK ke) := rfl
def ifK : KT := fun b e s => if b = true then f e s ke else f' e s ke
theorem ifK_ap (b : Bool) : ifK f f' ke b e s = (if b = true then f e s ke else f' e s ke) := rfl
theorem wIf_C : wIf ft f f' env s ke = ft env s (ifK f f' ke) := rfl
def ifsK : KT := fun b e s => if b = true then fs e s ks else fs' e s ks
theorem ifsK_ap (b : Bool) : ifsK fs fs' ks b e s = (if b = true then fs e s ks else fs' e s ks) := rfl
theorem wIfS_C : wIfS ft fs fs' env s ks = ft env s (ifsK fs fs' ks) := rfl
def cons2K : KA := fun ds e s => ka (r.d :: ds) e s
theorem cons2K_ap : cons2K r ka ds e s = ka (r.d :: ds) e s := rfl
def consK : KE := fun r e s => fa e s (cons2K r ka)
theorem consK_ap : consK fa ka r e s = fa e s (cons2K r ka) := rfl
theorem wCons_C : wCons f fa env s ka = f env s (consK fa ka) := rfl
def tupK : KA := fun ds e s => ds.length ≤ sizeLine ∧ ke (.val (.tup ds)) e s
theorem tupK_ap : tupK ke ds e s = (ds.length ≤ sizeLine ∧ ke (.val (.tup ds)) e s) := rfl
theorem wTup_C : wTup fa env s ke = fa env s (tupK ke) := rfl
def lstK : KA := fun ds e s => ds.length ≤ sizeLine ∧ ke (.own ds) e s
theorem lstK_ap : lstK ke ds e s = (ds.length ≤ sizeLine ∧ ke (.own ds) e s) := rfl
theorem wLst_C : wLst fa env s ke = fa env s (lstK ke) := rfl
def ixvK : KP := fun db e s => match at_ e i with
    | .no => False
    | .own ds => gIx (.lst ds) db (valK e s ke)
    | .val (.st a) => stIx s a db (valK e s ke)
    | .val d => gIx d db (valK e s ke)
theorem ixvK_ap : ixvK i ke d e s = (match at_ e i with
    | .no => False
    | .own ds => gIx (.lst ds) d (valK e s ke)
    | .val (.st a) => stIx s a d (valK e s ke)
    | .val d' => gIx d' d (valK e s ke)) := rfl
theorem wIxv_C : wIxv i fp env s ke = (match at_ env i with
  | .no => False
  | _ => fp env s (ixvK i ke)) := rfl
def sl3K (lo : Option Int) : KO := fun hi e s => match r.d with
  | .lst ds => ke (.own (cutD ds lo hi)) e s
  | _ => False
theorem sl3K_ap (lo hi : Option Int) : sl3K r ke lo hi e s = (match r.d with
  | .lst ds => ke (.own (cutD ds lo hi)) e s
  | _ => False) := rfl
def sl2K : KO := fun lo e s => fo' e s (sl3K r ke lo)
theorem sl2K_ap (lo : Option Int) : sl2K fo' r ke lo e s = fo' e s (sl3K r ke lo) := rfl
def sl1K : KE := fun r e s => fo e s (sl2K fo' r ke)
theorem sl1K_ap : sl1K fo fo' ke r e s = fo e s (sl2K fo' r ke) := rfl
theorem wSl_C : wSl f fo fo' env s ke = f env s (sl1K fo fo' ke) := rfl
def slv2K (lo : Option Int) : KO := fun hi e s => match (at_ e i).d with
    | .lst ds => ke (.own (cutD ds lo hi)) e s
    | _ => False
theorem slv2K_ap (lo hi : Option Int) : slv2K i ke lo hi e s = (match (at_ e i).d with
    | .lst ds => ke (.own (cutD ds lo hi)) e s
    | _ => False) := rfl
def slv1K : KO := fun lo e s => fo' e s (slv2K i ke lo)
theorem slv1K_ap (lo : Option Int) : slv1K fo' i ke lo e s = fo' e s (slv2K i ke lo) := rfl
theorem wSlv_C : wSlv i fo fo' env s ke = (match at_ env i with
  | .no => False
  | _ => fo env s (slv1K fo' i ke)) := rfl
def partK (ko : KO) : KP := fun d e s => match d with
  | .int i => ko (some i) e s
  | _ => False
theorem partK_ap (ko : KO) : partK ko d e s = (match d with
  | .int i => ko (some i) e s
  | _ => False) := rfl
theorem wPart_C (ko : KO) : wPart fp env s ko = fp env s (partK ko) := rfl
def argK : KA := fun ds e s => F ds s (callK ke e) xq
theorem argK_ap : argK ke F xq ds e s = F ds s (callK ke e) xq := rfl
theorem wCall_C : wCall F xq fa env s ke = fa env s (argK ke F xq) := rfl
def argBK : KA := fun ds e s => F ds s (scalK ke e) xq
theorem argBK_ap : argBK ke F xq ds e s = F ds s (scalK ke e) xq := rfl
theorem wCallB_C : wCallB F xq fb env s ke = fb env s (argBK ke F xq) := rfl
def lndK : Sl → S → Prop := fun r s2 => match s2 with
  | some t => ke r (env.set j (.own [.int t.x, .bl t.b])) s
  | none => False
def bvarK : KA := fun ds e s => at_ e i ≠ .no ∧ ka ((at_ e i).d :: ds) e s
theorem bvarK_ap : bvarK i ka ds e s = (at_ e i ≠ .no ∧ ka ((at_ e i).d :: ds) e s) := rfl
theorem wBVar_C : wBVar i fb env s ka = (at_ env i ≠ .no ∧ fb env s (bvarK i ka)) := rfl
def bconsK : KE := fun r e s => fb e s (cons2K r ka)
theorem bconsK_ap : bconsK fb ka r e s = fb e s (cons2K r ka) := rfl
theorem wBCons_C : wBCons f fb env s ka = f env s (bconsK fb ka) := rfl
def cmpK : KA := fun ds e s => noOwn e vs ∧ ds.length < sizeLine ∧ compW g ft f vs (compK ke e vs) ds [] (wipeD e vs) s
theorem cmpK_ap : cmpK f ft g ke vs ds e s = (noOwn e vs ∧ ds.length < sizeLine ∧ compW g ft f vs (compK ke e vs) ds [] (wipeD e vs) s) := rfl
theorem wComp_C : wComp fi g ft f vs env s ke = fi env s (cmpK f ft g ke vs) := rfl
def cmpBK : KE := fun r e s => ke r (e.set i (.own ds)) s
theorem cmpBK_ap : cmpBK i ds ke r e s = ke r (e.set i (.own ds)) s := rfl
def itD : FI := fun env s k => k ds env s
theorem itD_ap : itD ds env s ka = ka ds env s := rfl
theorem wCompB_C : wCompB i g ft f vs env s ke = (match at_ env i with
  | .own ds => wComp (itD ds) g ft f vs (env.set i .no) s (cmpBK i ds ke)
  | _ => wComp (wIt (wV i)) g ft f vs env s ke) := rfl
def dropK : KE := fun _ e s => ks (.nx e s)
theorem dropK_ap : dropK ks r e s = ks (.nx e s) := rfl
theorem wDrop_C : wDrop f env s ks = f env s (dropK ks) := rfl
def retK : KE := fun r _ s => ks (.rt r s)
theorem retK_ap : retK ks r e s = ks (.rt r s) := rfl
theorem wRet_C : wRet f env s ks = f env s (retK ks) := rfl
def isiK (t : String) : KP := fun d e s => notScr d ∧ ke (.val (.bl (isTy d t))) e s
theorem isiK_ap (t : String) : isiK ke t d e s = (notScr d ∧ ke (.val (.bl (isTy d t))) e s) := rfl
theorem wIsi_C (t : String) : wIsi t fp env s ke = fp env s (isiK ke t) := rfl
def isi2K (t u : String) : KP := fun d e s => notScr d ∧ ke (.val (.bl (isTy d t || isTy d u))) e s
theorem isi2K_ap (t u : String) : isi2K ke t u d e s = (notScr d ∧ ke (.val (.bl (isTy d t || isTy d u))) e s) := rfl
theorem wIsi2_C (t u : String) : wIsi2 t u fp env s ke = fp env s (isi2K ke t u) := rfl
def ch3K : KP := fun d e s => o2' r.d d (valK e s ke)
theorem ch3K_ap : ch3K r ke o2' d e s = o2' r.d d (valK e s ke) := rfl
def chzK : Sl → Prop := fun z => match z.d with
  | .bl true => fp e s (ch3K r ke o2')
  | .bl false => ke (.val (.bl false)) e s
  | _ => False
theorem chzK_ap (z : Sl) : chzK fp e s r ke o2' z = (match z.d with
  | .bl true => fp e s (ch3K r ke o2')
  | .bl false => ke (.val (.bl false)) e s
  | _ => False) := rfl
def ch2K : KE := fun r' e s => o2 r.d r'.d (chzK fp e s r' ke o2')
theorem ch2K_ap : ch2K fp r ke o2 o2' r' e s = o2 r.d r'.d (chzK fp e s r' ke o2') := rfl
def ch1K : KE := fun r e s => f' e s (ch2K fp r ke o2 o2')
theorem ch1K_ap : ch1K fp f' ke o2 o2' r e s = f' e s (ch2K fp r ke o2 o2') := rfl
theorem wChain_C : wChain o2 o2' f f' fp env s ke = f env s (ch1K fp f' ke o2 o2') := rfl
def dsubK (kk : List Key) : KP := fun d e s => match kyD d with
  | some j => ∃ z, lkD none (kk.zip ds) j = some z ∧ ke (.val z) e s
  | none => False
theorem dsubK_ap (kk : List Key) : dsubK ds ke kk d e s = (match kyD d with
  | some j => ∃ z, lkD none (kk.zip ds) j = some z ∧ ke (.val z) e s
  | none => False) := rfl
def dsub1K (kk : List Key) : KA := fun ds e s => fp e s (dsubK ds ke kk)
theorem dsub1K_ap (kk : List Key) : dsub1K fp ke kk ds e s = fp e s (dsubK ds ke kk) := rfl
theorem wDSub_C (kk : List Key) : wDSub kk fa fp env s ke = fa env s (dsub1K fp ke kk) := rfl
theorem wNext_C : wNext env s ks = ks (.nx env s) := rfl
theorem wNil_C : wNil env s ka = ka [] env s := rfl
theorem wBNil_C : wBNil env s ka = ka [] env s := rfl
theorem wNoPart_C (ko : KO) : wNoPart env s ko = ko none env s := rfl
theorem wRetN_C : wRetN env s ks = ks (.rt (.val .non) s) := rfl
theorem wYes_C : wYes env s kt = kt true env s := rfl
theorem wGNil_C : wGNil ds env s kg = (ds = [] ∧ kg env s) := rfl
theorem wC_C : wC d env s ke = ke (.val d) env s := rfl
theorem wName_C : wName i r env s kg = kg (env.set i r) s := rfl
theorem wV_C : wV i env s ke = (match at_ env i with
  | .no => False
  | .val d => ke (.val d) env s
  | .own ds => ke (.val (.lst ds)) (env.set i (.val (.lst ds))) s) := rfl
theorem wPV_C : wPV i env s kp = (match at_ env i with
  | .no => False
  | .val d => kp d env s
  | .own ds => kp (.lst ds) env s) := rfl
theorem wRetV_C : wRetV i env s ks = (match at_ env i with
  | .no => False
  | .val d => ks (.rt (.val d) s)
  | .own ds => ks (.rt (.own ds) s)) := rfl
end
end DL
set_option Elab.async false
set_option linter.all false
set_option maxRecDepth 100000
set_option maxHeartbeats 1000000
namespace DL
open PySem PySem.Spec PyProof.Rows L2 RT
section
variable {prog : Program} {w : World} {A : Around} {E : Value → Shared → Prop} {s : Shared}
theorem extend_rev {R : Result → Shared → Prop} {it l : Addr} {items : Array Value} (hh : A.handled = none) (S : Addr) (res : Value) (c₀ : Nat) (hS : s.heap.get? S = some { cls := .type "list", data := .seq #[] c₀ })
    (hit : s.heap.IsRevIter it l ((items.size : Int) - 1)) (hl : s.heap.IsList l items) (hne : l ≠ it) (hSi : S ≠ it) (hSl : S ≠ l) (hn : items.size ≤ sizeLine)
    (hR : ∀ h' tk acc' c', (∀ b o, b ≠ S → b ≠ it → s.heap.get? b = some o → h'.get? b = some o) → h'.get? S = some { cls := .type "list", dict := none, data := .seq acc' c', slots := #[] } →
      ItemsOf (fun i v => items[items.size - 1 - i]? = some v) acc' items.size → R (.ok (.ret res)) { s with heap := h', toks := tk }) :
    wpAny (model prog w) A.in1 (Builtin.List.listExtendWith (.ref S) (.ref it) res)
      (fun fin s' => match fin with | .done f => R (.ok f) s' | .again c' => c'.quiet = true ∧ codeAny (model prog w) A c' R s') (fun e s' => R (.error e) s') s := by
  have W := (Walks.listRev (prog := prog) (w := w) (A := A.in1) hh it l hne items).toS
  have hSf : S ∉ [it, l] := by simp only [List.mem_cons, List.not_mem_nil, or_false, not_or]; exact ⟨hSi, hSl⟩
  have hT : s.TypeIs (.ref it) "list_reverseiterator" := Heap.IsRevIter.typeIs hit
  have h1 : Builtin.List.listSameRef (.ref S) (.ref it) = false := by simp [Builtin.List.listSameRef, hSi]
  unfold Builtin.List.listExtendWith
  refine wpAny_bind (wpAny_typeOf hT ?_)
  rw [if_neg (by rw [h1]; decide)]
  refine wpAny_bind (wpAny_pyIter_revIter hit ?_)
  refine wpAny_bind (wpAny_holding ?_)
  unfold Builtin.List.listLengthHint
  refine wpAny_bind (wpAny_specialOf hT nolen_lri ?_)
  show wpAny _ A.in1 (specialOf (Value.ref it) (Str.ofString "__length_hint__") >>= _) _ _ _
  refine wpAny_bind (wpAny_specialOf hT hint_lri ?_)
  generalize hid : ("list_reverseiterator.__length_hint__" : String) = id0
  wp_delta
  rw [show splitId id0 = some ("list_reverseiterator", "__length_hint__") from by subst hid; decide +kernel]
  subst hid
  refine wpAny_bind (wpAny_isInstance (b := true) hT (by rw [isSubtype_type]; kernel_rfl) ?_)
  refine wpAny_pure ?_
  rw [if_neg (by decide)]
  have e0 : ((items.size : Nat) : Int) - 1 - ((0 : Nat) : Int) = (items.size : Int) - 1 := by omega
  refine wpAny_pure ⟨plainId_quiet F.plain_extend_loop _, codeAny_extend_loopS W hn _ hSf _ items.size 0 _ _ _ rfl (Nat.zero_le _) ⟨Nat.zero_le _, by rw [e0]; exact hit, hl⟩ hS (ItemsOf.nil _) fun s' acc' c' hm hS' hacc => ?_⟩
  rw [Moved.eq_with hm]
  refine hR s'.heap s'.toks acc' c' (fun b o hb hb2 e => hm.heap b o (fun hmem => ?_) e) hS' hacc
  rcases List.mem_cons.mp hmem with e' | hmem
  · exact hb e'
  · exact hb2 (List.mem_singleton.mp hmem)
theorem list_init_rev {R : Result → Shared → Prop} {it l : Addr} {items : Array Value} (hh : A.handled = none) (S : Addr) (hS : s.heap.get? S = some { cls := .type "list", data := .seq #[] })
    (hit : s.heap.IsRevIter it l ((items.size : Int) - 1)) (hl : s.heap.IsList l items) (hne : l ≠ it) (hSi : S ≠ it) (hSl : S ≠ l) (hn : items.size ≤ sizeLine)
    (hR : ∀ h' tk acc' c', (∀ b o, b ≠ S → b ≠ it → s.heap.get? b = some o → h'.get? b = some o) → h'.get? S = some { cls := .type "list", dict := none, data := .seq acc' c', slots := #[] } →
      ItemsOf (fun i v => items[items.size - 1 - i]? = some v) acc' items.size → R (.ok (.ret .none)) { s with heap := h', toks := tk }) :
    wpAny (model prog w) A.in1 (Builtin.«list.__init__» ⟨[.ref S, .ref it], []⟩)
      (fun fin s' => match fin with | .done f => R (.ok f) s' | .again c' => c'.quiet = true ∧ codeAny (model prog w) A c' R s') (fun e s' => R (.error e) s') s := by
  show wpAny _ _ (do let old ← Builtin.List.listItems (.ref S); Builtin.List.listUpdate (.ref S) (fun _ => #[]); letGo old.toList.reverse; Builtin.List.listExtendWith (.ref S) (.ref it) .none) _ _ s
  refine wpAny_bind ?_
  unfold Builtin.List.listItems
  refine wpAny_bind (wpAny_seqItems hS rfl (wpAny_pure ?_))
  show wpAny _ _ (updateSeq S (fun _ => #[]) >>= fun _ => letGo (#[] : Array Value).toList.reverse >>= fun _ => Builtin.List.listExtendWith (.ref S) (.ref it) .none) _ _ s
  refine wpAny_bind (wpAny_updateSeq hS rfl ?_)
  have hS₂ := Heap.get?_update_self (Obj.mapSeq (fun _ => (#[] : Array Value))) hS rfl
  have oth : ∀ b o, b ≠ S → s.heap.get? b = some o → (s.heap.update S (Obj.mapSeq (fun _ => (#[] : Array Value)))).get? b = some o :=
    fun b o hb e => (Heap.get?_update_other _ _ (Ne.symm hb)).trans e
  refine wpAny_bind (wpAny_letGo ?_)
  have hit2 : (s.heap.update S (Obj.mapSeq (fun _ => (#[] : Array Value)))).IsRevIter it l ((items.size : Int) - 1) := hit.at fun o e => oth _ _ (Ne.symm hSi) e
  have hl2 : (s.heap.update S (Obj.mapSeq (fun _ => (#[] : Array Value)))).IsList l items := by
    obtain ⟨o, ho, r⟩ := hl
    exact ⟨o, oth _ _ (Ne.symm hSl) ho, r⟩
  refine extend_rev (s := { s with heap := s.heap.update S (Obj.mapSeq (fun _ => (#[] : Array Value))) }) hh S .none _ hS₂ hit2 hl2 hne hSi hSl hn fun h' tk acc' c' hk hS' hacc => ?_
  exact hR h' tk acc' c' (fun b o hb hb2 e => hk b o hb hb2 (oth b o hb e)) hS' hacc
theorem call_list_rev {it l : Addr} {items : Array Value} {Q : Value → Shared → Prop} (hh : A.handled = none) (hit : s.heap.IsRevIter it l ((items.size : Int) - 1)) (hl : s.heap.IsList l items) (hne : l ≠ it) (hn : items.size ≤ sizeLine)
    (hQ : ∀ h' tk acc' c', (∀ b o, b ≠ it → s.heap.get? b = some o → h'.get? b = some o) →
      h'.get? s.heap.objs.size = some { cls := .type "list", dict := none, data := .seq acc' c', slots := #[] } → ItemsOf (fun i v => items[items.size - 1 - i]? = some v) acc' items.size → Q (.ref s.heap.objs.size) { s with heap := h', toks := tk }) :
    wpAny (model prog w) A (call (.type "list") [.ref it]) Q E s := by
  obtain ⟨oi, hoi, _⟩ := id hit
  obtain ⟨ol, hol, _⟩ := id hl
  have hSi : s.heap.objs.size ≠ it := Nat.ne_of_gt (Heap.lt_size hoi)
  have hSl : s.heap.objs.size ≠ l := Nat.ne_of_gt (Heap.lt_size hol)
  refine callType_codes (Q₁ := fun obj s₁ => obj = .ref s.heap.objs.size ∧ s₁ = { s with heap := s.heap.push { cls := .type "list", data := .seq #[] } }) F.called_list (F.typeCall_list_1 _) F.entry_list_init
    (code_list_new _ ⟨rfl, rfl⟩) fun obj s₁ h₁ => ?_
  obtain ⟨rfl, rfl⟩ := h₁
  have hS : (s.heap.push { cls := .type "list", data := .seq #[] }).get? s.heap.objs.size = some { cls := .type "list", data := .seq #[] } := Heap.get?_push_size _ rfl
  refine ⟨⟨_, hS, rfl⟩, F.args_list_init_2 _ _, list_init_rev (A := A.in1) (s := { s with heap := s.heap.push { cls := .type "list", data := .seq #[] } }) hh _ hS (hit.at fun o e => Heap.get?_push_of_some _ e) (hl.push _) hne hSi hSl hn fun h' tk acc' c' hk hS' hacc => ?_⟩
  exact ⟨rfl, hQ h' tk acc' c' (fun b o hb e => hk b o (Nat.ne_of_lt (Heap.lt_size e)) hb (Heap.get?_push_of_some _ e)) hS' hacc⟩
end
def tLstRev (K : PySem.W.Frag) (te : TE) : TE := fun σ H Q => te σ H fun v H1 => ∃ (a : Addr) (xs : List V), v = .ref a ∧ SqL K H1 a xs ∧ ∀ q, H1 q = none → Q (.ref q) (upd H1 q (.lst xs.reverse))
theorem pe_lstRev {X : Cx} {e : Expr} {te : TE} {p p2 pos pos2 : Pos} (hm : X.mg "list" = none) (hm2 : X.mg "reversed" = none) (he : PE X e te) (hc : X.calm = true := by rfl) (hg : Gl X "list" := by rfl) (hg2 : Gl X "reversed" := by rfl)
    (hs : starEach [e] X.env = (false, eval e X.env) :: starEach [] X.env := by rfl)
    (hs2 : starEach [.Call (.Name "reversed" p2) [e] [] pos2] X.env = (false, eval (.Call (.Name "reversed" p2) [e] [] pos2) X.env) :: starEach [] X.env := by rfl) :
    PE X (.Call (.Name "list" p) [.Call (.Name "reversed" p2) [e] [] pos2] [] pos) (tLstRev X.K te) := by
  refine ⟨fun pins s σ H Q I h => ?_⟩
  refine Call_ (ld_blt I hg hm boot_list (PyProof.Rows.callWith_type1 (args_cons (Call_ (ld_blt I hg2 hm2 PyProof.Rows.boot_reversed (PyProof.Rows.callWith_type1 (args_cons (thn (he.run pins s σ H _ I h) fun u s1 ⟨v, H1, I1, r1, q1⟩ => args_nil ?_) hs) hs rfl))) hs2) hs2 rfl))
  obtain ⟨a, xs, ev, hq, q⟩ := q1
  subst ev
  obtain rfl : u = Value.ref a := r1
  obtain ⟨its, rv, p', hz⟩ := I1.list hq
  refine call_reversed_list p'.isList (args_nil ?_)
  have k0 : ∀ b o, s1.heap.get? b = some o → (s1.heap.push (revObj a ((its.toArray.size : Int) - 1))).get? b = some o := fun b o e => Heap.get?_push_of_some _ e
  have I2 : Inv X pins σ H1 { s1 with heap := s1.heap.push (revObj a ((its.toArray.size : Int) - 1)) } := I1.kept (t' := s1.toks) k0
  obtain ⟨f0, f1, f2, f3, f4, f5⟩ := I1.fpOk (H' := H1) (b := s1.heap.objs.size) (Nat.le_refl _) (I1.hok.fresh (Nat.le_refl _))
  have hl := p'.isList
  obtain ⟨ol, hol, _⟩ := id hl
  have hne : a ≠ s1.heap.objs.size := Nat.ne_of_lt (Heap.lt_size hol)
  have hn : its.toArray.size ≤ sizeLine := by rw [List.size_toArray, ← rv.length]; exact hz
  refine call_list_rev (s := { s1 with heap := s1.heap.push (revObj a ((its.toArray.size : Int) - 1)) }) (I1.ok.hd hc) ⟨_, Heap.get?_push_size _ rfl, rfl, rfl⟩ (hl.push _) hne hn fun h' tk acc c' hk hS hi => ?_
  have hsz : (s1.heap.push (revObj a ((its.toArray.size : Int) - 1))).objs.size = s1.heap.objs.size + 1 := by simp [Heap.push]
  have hle : s1.heap.objs.size ≤ (s1.heap.push (revObj a ((its.toArray.size : Int) - 1))).objs.size := by omega
  refine ⟨.ref (s1.heap.push (revObj a ((its.toArray.size : Int) - 1))).objs.size, upd H1 (s1.heap.push (revObj a ((its.toArray.size : Int) - 1))).objs.size (.lst xs.reverse), I1.laid (t' := tk) (fun b o e => hk b o (Nat.ne_of_lt (Heap.lt_size e)) (Heap.get?_push_of_some _ e)) hle (show ObjOk X.prog X.w _ _ _ (.lst xs.reverse) from ⟨by rw [List.length_reverse]; exact hz, acc.toList, c', vals_rev rv hi, ?_⟩), rfl, q _ (I1.hok.fresh hle)⟩
  rw [Array.toArray_toList]
  exact hS
def wLRev (f : FP) : FE := fun env s k => f env s fun d env1 s1 => match d with
  | .lst ds => k (.own ds.reverse) env1 s1
  | _ => False
theorem de_lrev {c : Cxt} {te : TE} {f : FP} (h : DP c te f) : DE c (tLstRev c.K te) (wLRev f) := by
  intro G env s σ H k Q R hf q
  refine h G env s σ H _ _ R hf fun G1 H1 x d env1 s1 R1 e1 p1 k1 => ?_
  cases d with
  | lst ds =>
    obtain ⟨p, vs, rfl, h3, h4⟩ := p1
    refine ⟨p, vs, rfl, Evl.sq_of h3, fun l hl => ?_⟩
    obtain ⟨R5, rv5⟩ := R1.newOwn hl h4.reverse
    exact q G1 _ _ (.own ds.reverse) env1 s1 R5 e1 rv5 k1
  | _ => exact k1.elim
def lrevK (ke : KE) : KP := fun d e s => match d with
  | .lst ds => ke (.own ds.reverse) e s
  | _ => False
theorem lrevK_ap (ke : KE) (d : D) (e : EnvD) (s : S) : lrevK ke d e s = (match d with
  | .lst ds => ke (.own ds.reverse) e s
  | _ => False) := rfl
theorem wLRev_C (f : FP) (env : EnvD) (s : S) (ke : KE) : wLRev f env s ke = f env s (lrevK ke) := rfl
end DL
set_option Elab.async false
set_option linter.all false
set_option maxRecDepth 100000
set_option maxHeartbeats 1000000
namespace DL
open PySem L2 PySem.Spec PyProof.Rows
open Evl (Ex)
mutual
def flatD : D → Prop
  | .non => True
  | .bl _ => True
  | .int _ => True
  | .str _ => True
  | .tup ds => flatL ds
  | _ => False
def flatL : List D → Prop
  | [] => True
  | d :: ds => flatD d ∧ flatL ds
end
section
variable {K : PySem.W.Frag} {G G' : Hp}
mutual
theorem rep_flat (e : ∀ p vs, SqT K G p vs → SqT K G' p vs) : ∀ (d : D) {v : V}, flatD d → Rep K G d v → Rep K G' d v
  | .non, _, _, h => by simpa only [Rep] using h
  | .bl _, _, _, h => by simpa only [Rep] using h
  | .int _, _, _, h => by simpa only [Rep] using h
  | .str _, _, _, h => by simpa only [Rep] using h
  | .tup ds, _, f, h => by
    simp only [Rep] at h ⊢
    simp only [flatD] at f
    obtain ⟨p, vs, h1, h2, h3⟩ := h
    exact ⟨p, vs, h1, e _ _ h2, repL_flat e ds f h3⟩
  | .lst _, _, f, _ => by simp only [flatD] at f
  | .dic, _, f, _ => by simp only [flatD] at f
  | .scr _, _, f, _ => by simp only [flatD] at f
  | .st _, _, f, _ => by simp only [flatD] at f
  | .exc _, _, f, _ => by simp only [flatD] at f
  | .fn .., _, f, _ => by simp only [flatD] at f
theorem repL_flat (e : ∀ p vs, SqT K G p vs → SqT K G' p vs) : ∀ (ds : List D) {vs : List V}, flatL ds → RepL K G ds vs → RepL K G' ds vs
  | [], _, _, h => by simpa only [RepL] using h
  | d :: ds, _, f, h => by
    simp only [RepL] at h ⊢
    simp only [flatL] at f
    obtain ⟨v, r, h1, h2, h3⟩ := h
    exact ⟨v, r, h1, rep_flat e d f.1 h2, repL_flat e ds f.2 h3⟩
end
end
def flatR : Sl → Prop
  | .no => False
  | .val d => flatD d
  | .own ds => flatL ds
def wCallF (F : Fn) (xq : Str → S → Prop) (fa : FB) : FE := fun env s k => fa env s fun ds env1 s1 => F ds s1 (fun r s2 => flatR r ∧ k r env1 s2) xq
def noL (G1 G' : Hp) : Hp := fun p => match G1 p with
  | some o => some o
  | none => match G' p with
    | some (.lst _) => none
    | o => o
section
variable {c : Cxt}
theorem pql_knownL {G H : Hp} (ex : Ex G H) (ga : ∀ a, c.a0 = some a → G a = none) (gt : ∀ p ps, G p ≠ some (.tbl ps)) : ∀ {ds : List D} {vs : List V}, PQL c G H ds vs →
    ∃ G', Ex G G' ∧ Ex G' H ∧ (∀ a, c.a0 = some a → G' a = none) ∧ (∀ p ps, G' p ≠ some (.tbl ps)) ∧ RepL c.K G' ds vs ∧ ∀ p o, G p = none → G' p = some o → ∃ ws, o = .lst ws
  | [], _, h => ⟨G, Ex.refl G, ex, ga, gt, by have h' : _ = [] := h; subst h'; exact RepL.nil, fun p o h1 h2 => by rw [h1] at h2; cases h2⟩
  | d :: ds, _, h => by
    obtain ⟨v, r, rfl, h1, h2⟩ := h
    obtain ⟨G', e1, e2, e3, e4, e5, e0⟩ := pql_knownL ex ga gt h2
    cases d with
    | lst es =>
      obtain ⟨p, vs, rfl, g1, g2, g3⟩ := h1
      have e6 : Ex G' (upd G' p (.lst vs)) := fun q o hq => by
        by_cases hb : q = p
        · subst hb
          rw [upd_same]
          have := e2 _ _ hq
          rw [g2] at this
          exact this
        · rw [upd_ne hb]; exact hq
      refine ⟨upd G' p (.lst vs), e1.trans e6, fun q o hq => ?_, fun a ha => ?_, fun q ps hq => ?_, RepL.cons ?_ (RepL.mono e6 ds e5), fun q o h1 h2 => ?_⟩
      · by_cases hb : q = p
        · subst hb; rw [upd_same] at hq; cases hq; exact g2
        · rw [upd_ne hb] at hq; exact e2 q o hq
      · rw [upd_ne (fun z => g1 (by rw [← z]; exact ha))]; exact e3 a ha
      · by_cases hb : q = p
        · subst hb; rw [upd_same] at hq; cases hq
        · rw [upd_ne hb] at hq; exact e4 q ps hq
      · simp only [Rep]
        exact ⟨p, vs, rfl, upd_same, RepL.mono (e1.trans e6) es g3⟩
      · by_cases hb : q = p
        · subst hb; rw [upd_same] at h2; cases h2; exact ⟨_, rfl⟩
        · rw [upd_ne hb] at h2; exact e0 q o h1 h2
    | _ => exact ⟨G', e1, e2, e3, e4, RepL.cons (Rep.mono e1 _ h1) e5, e0⟩
end
section
variable {c : Cxt} {cl : Str → Addr} {E : XK} {xq : Str → S → Prop} {F : Fn} {t : TA}
theorem de_callF {g : FB} (hE : EOk c cl E xq) (h : DAB c t g) : DE c (tCall (spD c.K c.T cl F) [] E t) (wCallF F xq g) := by
  intro G env s σ H k Q R hf q
  refine h G env s σ H _ _ R hf fun G1 H1 vs ds env1 s1 R1 e1 rl k1 => ?_
  show spD c.K c.T cl F (vs ++ []) H1 Q E
  rw [List.append_nil]
  obtain ⟨G2, x1, x2, x3, x4, x5, x6⟩ := pql_knownL R1.ex (fun a ha => (R1.st a ha).1) R1.gtb rl
  have Ri : Rel (c.inn H1 G2) G2 [] s1 [] H1 :=
    { ex := x2, st := fun a ha => ⟨x3 a ha, (R1.st a ha).2⟩, sn := R1.sn, keep := fun _ _ h _ _ => (noT_some h).1, kn := fun _ h => noT_none h, h0n := fun p ps z => (noT_some z).2 ps rfl, tab := R1.tab, gnew := fun _ _ _ h => h, gx := Ex.refl G2, gtb := x4, len := rfl,
      vals := fun i d h => by simp at h, owns := fun i d h => by simp at h, dist := fun i j d e v h => by simp at h }
  have back : ∀ {G' H' s'}, Rel (c.inn H1 G2) G' [] s' [] H' → Rel c G1 env1 s' σ H' := fun {G' H' s'} R' => by
    refine { ex := (x1.trans R'.gx).trans R'.ex, st := fun a ha => ⟨(R1.st a ha).1, (R'.st a ha).2⟩, sn := R'.sn, keep := fun p o h1 h2 h3 => R'.keep p o (noT_of (R1.keep p o h1 h2 h3) h3) h2 h3, kn := fun p h => R1.knN (R'.kn p h), h0n := R1.h0n, tab := R'.tab, gnew := R1.gnew, gx := R1.gx, gtb := R1.gtb, len := R1.len,
             vals := R1.vals, owns := fun i es hi => ?_, dist := R1.dist }
    obtain ⟨v, h1, p, us, rfl, h3, h4, h5, h6, h7⟩ := R1.owns i es hi
    exact ⟨_, h1, p, us, rfl, h3, h4, h5, R'.keep p _ (noT_of h6 (fun _ z => by cases z)) h5 (fun _ z => by cases z), h7⟩
  have eG : ∀ {G'}, Ex G1 (noL G1 G') := fun {G'} p o hp => by
    unfold noL
    rw [hp]
  have inv : ∀ {G' p o}, noL G1 G' p = some o → G1 p = some o ∨ (G1 p = none ∧ G' p = some o ∧ ∀ ws, o ≠ .lst ws) := fun {G' p o} hp => by
    unfold noL at hp
    cases e : G1 p with
    | some u => rw [e] at hp; exact .inl hp
    | none =>
      rw [e] at hp
      refine .inr ⟨rfl, ?_⟩
      cases e2 : G' p with
      | none => rw [e2] at hp; cases hp
      | some u =>
        rw [e2] at hp
        cases u <;> first | (cases hp; done) | (cases hp; exact ⟨rfl, fun _ z => by cases z⟩)
  have none_of : ∀ {G' p}, G1 p = none → (∀ o, G' p = some o → ∃ ws, o = .lst ws) → noL G1 G' p = none := fun {G' p} h1 h2 => by
    cases e : noL G1 G' p with
    | none => rfl
    | some o =>
      rcases inv e with z | ⟨_, z, n⟩
      · rw [h1] at z; cases z
      · obtain ⟨ws, rfl⟩ := h2 _ z
        exact absurd rfl (n ws)
  have back3 : ∀ {G' H' s'}, Rel (c.inn H1 G2) G' [] s' [] H' → Rel c (noL G1 G') env1 s' σ H' := fun {G' H' s'} R' => by
    have B := back R'
    refine { B with ex := fun p o hp => ?_, st := fun a ha => ⟨none_of (R1.st a ha).1 (fun o z => by rw [(R'.st a ha).1] at z; cases z), (R'.st a ha).2⟩, gnew := fun p ws h1 h2 => ?_, gx := R1.gx.trans eG, gtb := fun p ps hp => ?_, vals := fun i d hi => ?_, owns := fun i es hi => ?_ }
    · rcases inv hp with z | ⟨_, z, _⟩
      · exact B.ex _ _ z
      · exact R'.ex _ _ z
    · have g1 := R1.gnew p ws h1 h2
      refine none_of g1 fun o z => ?_
      cases e : G2 p with
      | some u =>
        obtain ⟨ws, rfl⟩ := x6 p u g1 e
        have := R'.gx p _ e
        rw [z] at this
        cases this
        exact ⟨ws, rfl⟩
      | none =>
        obtain ⟨us, hu⟩ := R1.lstN h1
        have := R'.gnew p us hu e
        rw [z] at this
        cases this
    · rcases inv hp with z | ⟨_, z, _⟩
      · exact R1.gtb _ _ z
      · exact R'.gtb _ _ z
    · obtain ⟨v, a1, a2⟩ := R1.vals i d hi
      exact ⟨v, a1, Rep.mono eG d a2⟩
    · obtain ⟨v, h1, p, us, rfl, h3, h4, h5, h6, h7⟩ := B.owns i es hi
      refine ⟨_, h1, p, us, rfl, none_of h3 fun o z => ?_, h4, h5, h6, RepL.mono eG es h7⟩
      have := R'.ex _ _ z
      rw [h6] at this
      cases this
      exact ⟨_, rfl⟩
  refine ⟨c.inn H1 G2, G2, s1, ds, _, xq, rfl, rfl, Ri, x5, k1, fun G' H' v r s' R' rv kk => ?_, fun G' H' cn s' R' hx => ?_⟩
  · have sq : ∀ p vs, SqT c.K G' p vs → SqT c.K (noL G1 G') p vs := fun p vs z => by
      rcases z with z | z
      · refine .inl ?_
        have mv : ∀ o, G' p = some o → (∀ ws, o ≠ .lst ws) → noL G1 G' p = some o := fun o e n => by
          cases e1 : G1 p with
          | some u =>
            have := (x1.trans R'.gx) _ _ e1
            rw [e] at this
            cases this
            exact eG _ _ e1
          | none =>
            unfold noL
            rw [e1, e]
            cases o <;> first | rfl | exact absurd rfl (n _)
        rcases z with z | ⟨o, z⟩
        · exact .inl (mv _ z fun _ z => by cases z)
        · exact .inr ⟨o, mv _ z fun _ z => by cases z⟩
      · exact .inr z
    refine q (noL G1 G') H' v r env1 s' (back3 R') (e1.trans eG) ?_ kk.2
    cases r with
    | no => exact rv
    | val d => exact rep_flat sq d kk.1 rv
    | own es =>
      obtain ⟨⟨a, us, rfl, m3, m4, m5, m6, m7⟩, _⟩ := rv
      have m4' : noT H1 a = none := m4
      refine ⟨⟨a, us, rfl, none_of ?_ (fun o z => by rw [m3] at z; cases z), R1.knN m4', R1.a0neN m4', m6, repL_flat sq es kk.1 m7⟩, fun i fs hi hv => ?_⟩
      · cases e : G1 a with
        | none => rfl
        | some u =>
          have := (x1.trans R'.gx) _ _ e
          rw [m3] at this
          cases this
      · obtain ⟨w, n1, a2, us2, rfl, n3, n4, n5, n6, n7⟩ := R1.owns i fs hi
        rw [n1] at hv
        cases hv
        rw [noT_of n6 (fun _ z => by cases z)] at m4'
        cases m4'
  · exact hE G1 H' cn s' (back R').bare hx
end
abbrev flatK (k : Sl → EnvD → S → Prop) (env : EnvD) : Sl → S → Prop := fun r s => flatR r ∧ k r env s
theorem flatK_ap (k : Sl → EnvD → S → Prop) (env : EnvD) (r : Sl) (s : S) : flatK k env r s = (flatR r ∧ k r env s) := rfl
def argFK (ke : KE) (F : Fn) (xq : Str → S → Prop) : KA := fun ds e s => F ds s (flatK ke e) xq
theorem argFK_ap (ke : KE) (F : Fn) (xq : Str → S → Prop) (ds : List D) (e : EnvD) (s : S) : argFK ke F xq ds e s = F ds s (flatK ke e) xq := rfl
theorem wCallF_C (ke : KE) (F : Fn) (xq : Str → S → Prop) (fb : FB) (env : EnvD) (s : S) : wCallF F xq fb env s ke = fb env s (argFK ke F xq) := rfl
end DL
set_option Elab.async false
set_option linter.all false
set_option maxRecDepth 100000
set_option maxHeartbeats 1000000
namespace DL
open PySem PySem.Spec PyProof.Rows L2
open Evl (Ex)
def tOrL (K : PySem.W.Frag) (ta tb : TE) : TE := fun σ H Q => ta σ H fun x H1 => ∃ p vs, x = .ref p ∧ SqL K H1 p vs ∧ if vs.isEmpty = true then tb σ H1 Q else Q x H1
section
variable {X : Cx} {a b : Expr} {rest : List Expr} {pos : Pos} {ta tb : TE}
theorem pe_orL (K : PySem.W.Frag) (ha : PE X a ta) (hb : PE X (.BoolOp .Or (b :: rest) pos) tb) (hK : X.K = K := by rfl) : PE X (.BoolOp .Or (a :: b :: rest) pos) (tOrL K ta tb) := by
  subst hK
  refine ⟨fun pins s σ H Q I h => ?_⟩
  refine BoolOp_or (thn (ha.run pins s σ H _ I h) fun v s1 ⟨x, H1, I1, r1, q1⟩ => ?_)
  obtain ⟨p, vs, rfl, hs, q1⟩ := q1
  cases r1
  obtain ⟨its, r, pl, hz⟩ := I1.list hs
  have hlen := r.length
  have hl := line63
  have hs2 : sizeLine = 16777216 := sizeLine_eq
  refine wpAny_truthy_list pl.isList (by simp only [List.size_toArray]; omega) ?_
  rw [isEmpty_of r]
  cases h0 : vs.isEmpty with
  | true =>
    rw [h0] at q1
    rw [if_pos rfl] at q1
    exact hb.run pins _ σ H1 Q (I1.tok _) q1
  | false =>
    rw [h0] at q1
    rw [if_neg (by decide)] at q1
    exact ⟨.ref p, H1, I1.tok _, rfl, q1⟩
end
def wOrL (f g : FE) : FE := fun env s k => f env s fun r env1 s1 => match r with
  | .own ds => if ds.isEmpty = true then g env1 s1 k else k (.own ds) env1 s1
  | .val (.lst ds) => if ds.isEmpty = true then g env1 s1 k else k (.val (.lst ds)) env1 s1
  | _ => False
theorem repL_emptyB {K : PySem.W.Frag} {G : Hp} {ds : List D} {vs : List V} (h : RepL K G ds vs) : vs.isEmpty = ds.isEmpty := by
  have := h.length
  cases vs <;> cases ds <;> simp_all
theorem de_orL {c : Cxt} {ta tb : TE} {fa fb : FE} (h : DE c ta fa) (h' : DE c tb fb) : DE c (tOrL c.K ta tb) (wOrL fa fb) := by
  intro G env s σ H k Q R hf q
  refine h G env s σ H _ _ R hf fun G1 H1 v r env1 s1 R1 e1 rv1 k1 => ?_
  cases r with
  | no => exact k1.elim
  | own ds =>
    obtain ⟨⟨p, vs, rfl, m3, m4, m5, m6, m7⟩, ap⟩ := id rv1
    refine ⟨p, vs, rfl, Evl.sq_of m6, ?_⟩
    rw [repL_emptyB m7]
    have k1 : if ds.isEmpty = true then fb env1 s1 k else k (.own ds) env1 s1 := k1
    split
    · rename_i z
      rw [if_pos z] at k1
      exact h' G1 env1 s1 σ H1 k Q R1 k1 fun G2 H2 b2 r2 env2 s2 R2 e2 rv2 k2 => q G2 H2 b2 r2 env2 s2 R2 (e1.trans e2) rv2 k2
    · rename_i z
      rw [if_neg z] at k1
      exact q G1 H1 _ (.own ds) env1 s1 R1 e1 rv1 k1
  | val d =>
    cases d with
    | lst ds =>
      have rp : Rep c.K G1 (.lst ds) v := rv1
      simp only [Rep] at rp
      obtain ⟨p, vs, rfl, h2, h3⟩ := rp
      refine ⟨p, vs, rfl, Evl.sq_of (R1.ex _ _ h2), ?_⟩
      rw [repL_emptyB h3]
      have k1 : if ds.isEmpty = true then fb env1 s1 k else k (.val (.lst ds)) env1 s1 := k1
      split
      · rename_i z
        rw [if_pos z] at k1
        exact h' G1 env1 s1 σ H1 k Q R1 k1 fun G2 H2 b2 r2 env2 s2 R2 e2 rv2 k2 => q G2 H2 b2 r2 env2 s2 R2 (e1.trans e2) rv2 k2
      · rename_i z
        rw [if_neg z] at k1
        exact q G1 H1 _ (.val (.lst ds)) env1 s1 R1 e1 rv1 k1
    | _ => exact k1.elim
def orLK (g : FE) (ke : KE) : KE := fun r e s => match r with
  | .own ds => if ds.isEmpty = true then g e s ke else ke (.own ds) e s
  | .val (.lst ds) => if ds.isEmpty = true then g e s ke else ke (.val (.lst ds)) e s
  | _ => False
theorem orLK_ap (g : FE) (ke : KE) (r : Sl) (e : EnvD) (s : S) : orLK g ke r e s = (match r with
  | .own ds => if ds.isEmpty = true then g e s ke else ke (.own ds) e s
  | .val (.lst ds) => if ds.isEmpty = true then g e s ke else ke (.val (.lst ds)) e s
  | _ => False) := rfl
theorem wOrL_C (f g : FE) (env : EnvD) (s : S) (ke : KE) : wOrL f g env s ke = f env s (orLK g ke) := rfl
end DL
set_option Elab.async false
set_option linter.all false
set_option maxRecDepth 100000
set_option maxHeartbeats 2000000
namespace DL
open PySem PySem.Spec PyProof.Rows L2 LamX
open Evl (Ex)
def FunO (f : Addr) (q : Str) (params : Arguments) (body : Expr) (scope : Scope) (cl : List (Str × Addr)) (c' : Addr) : HO := .ext fun h => ∃ pm ctv, h.get? f = some (PySem.W.kla_obj "<lambda>" q params body scope cl pm c' ctv)
theorem funO_ne {f : Addr} {q : Str} {params : Arguments} {body : Expr} {scope : Scope} {cl : List (Str × Addr)} {c' : Addr} (ps : Array Value) : FunO f q params body scope cl c' ≠ .tbl ps := fun z => by
  unfold FunO at z
  cases z
section
variable {X : Cx} {pins : List (Addr × Obj)} {σ : L2.St} {H : Hp} {s : Shared}
theorem lam_expr {T : List (Addr × Str)} {c P : Addr} {params : Arguments} {body : Expr} {scope : Scope} {pos : Pos} {E : Value → Shared → Prop} {Q : Value → Shared → Prop} (I : Inv X pins σ H s) (TB : TabB X.base X.mg c P) (hcode : X.env.code = .ref c)
    (hm : (P, X.env.qual ++ "<lambda>") ∈ T) (hu : ∀ p ∈ T, p.1 = P → p.2 = X.env.qual ++ "<lambda>") (hT : Tabs T H) (hdef : defaultsOf params X.env = ([], [])) (hfree : ∀ y ∈ scope.names, y.2 = .free → ∃ c, X.env.cells.lookup y.1 = some c)
    (h : ∀ (f c' : Addr) (H1 : Hp) (s' : Shared), Inv X pins σ H1 s' → ExtN H H1 → Tabs T H1 → H f = none →
      H1 f = some (FunO f (X.env.qual ++ "<lambda>") params body scope (cloFrom X.env.cells scope.names []) c') → H1 c' = some (CodeO c' (X.env.qual ++ "<lambda>")) → Q (.ref f) s') :
    wpAny (model X.prog X.w) X.A (eval (.Lambda params body scope pos) X.env) Q E s := by
  obtain ⟨ps, hP, ht, ha⟩ := hT _ hm
  refine PySem.W.kla_eval hdef ?_
  have bP : s.heap.BuiltinsAt X.mg P := TB.bm.keeps I.bk
  have hP' : s.heap.get? P = some { cls := .none, data := .fields ps } := I.hok P _ hP
  have okF : ∀ (H1 : Hp) (h' : Heap) (c' : Addr) (pm ctv : Value), ObjOk X.prog X.w H1 (h'.push (PySem.W.kla_obj "<lambda>" (X.env.qual ++ "<lambda>") params body scope (cloFrom X.env.cells scope.names []) pm c' ctv)) h'.objs.size (FunO h'.objs.size (X.env.qual ++ "<lambda>") params body scope (cloFrom X.env.cells scope.names []) c') := fun H1 h' c' pm ctv =>
    ⟨⟨pm, ctv, Heap.get?_push_size _ rfl⟩, ⟨_, Heap.get?_push_size _ rfl⟩, fun h1 h2 ⟨pm, ctv, e⟩ st => ⟨pm, ctv, st _ e⟩⟩
  cases hc : codeAmong pos ps.toList with
  | none =>
    refine PySem.W.kla_makeFunction (mg := X.mg) (c := c) (P := P) (ps := ps) (closure_ok hfree) I.ok.glob (I.mod.glob.keeps I.bk) hcode (TB.code.keeps I.bk) hP' ht hc TB.gP bP fun c' ctv h' tk hx hge hlt hrec htb => ?_
    obtain ⟨c2, oc, vs, t, e2, hoc, hd, hv⟩ := hrec
    cases e2
    have hsz : s.heap.objs.size ≤ h'.objs.size := Nat.le_trans hge (Nat.le_of_lt hlt)
    have nC : H c' = none := I.hok.fresh hge
    have I0 := inv_table (t' := tk) (more := #[rawInt pos.line, rawInt pos.col, .ref c']) (h' := h') I hP (fun b o hb e => hx b o hb e) htb hge ⟨oc, vs, t, hoc, hd, hv⟩
    have I1 := I0.laid (a := h'.objs.size) (t' := tk) (fun b u e => Heap.get?_push_of_some _ e) (Nat.le_refl _) (okF _ h' c' ((X.mg "__name__").getD .none) ctv)
    have hE : ExtN H (upd (upd H P (.tbl (ps ++ #[rawInt pos.line, rawInt pos.col, .ref c']))) c' (CodeO c' (X.env.qual ++ "<lambda>"))) := fun b o e n => by
      rw [upd_ne (ne_of_none e nC), upd_ne (fun z => n ps (Option.some.inj (e.symm.trans (by rw [z]; exact hP))))]
      exact e
    have n1 : h'.objs.size ≠ c' := Nat.ne_of_gt hlt
    have n2 : h'.objs.size ≠ P := Nat.ne_of_gt (Nat.lt_of_lt_of_le (Heap.lt_size hP') hsz)
    have nf : H h'.objs.size = none := I.hok.fresh hsz
    have eL : (ps ++ #[rawInt pos.line, rawInt pos.col, .ref c']).toList = ps.toList ++ [rawInt pos.line, rawInt pos.col, .ref c'] := by simp
    have T1 : Tabs T (upd (upd H P (.tbl (ps ++ #[rawInt pos.line, rawInt pos.col, .ref c']))) c' (CodeO c' (X.env.qual ++ "<lambda>"))) := fun p hp => by
      by_cases hb : p.1 = P
      · rw [hu p hp hb, hb]
        refine ⟨_, by rw [upd_ne (ne_of_none hP nC), upd_same], by rw [eL]; exact PySem.TriplesOk_snoc _ _ _ _ ht, fun p' cv hcv => ?_⟩
        rw [eL] at hcv
        rcases among_app _ ht hcv with z | z
        · obtain ⟨c0, e1, e2⟩ := ha p' cv z
          exact ⟨c0, e1, hE _ _ e2 codeO_ne⟩
        · exact ⟨c', z, upd_same⟩
      · obtain ⟨ps', a1, a2, a3⟩ := hT p hp
        refine ⟨ps', by rw [upd_ne (ne_of_none a1 nC), upd_ne hb]; exact a1, a2, fun p' cv hcv => ?_⟩
        obtain ⟨c0, e1, e2⟩ := a3 p' cv hcv
        exact ⟨c0, e1, hE _ _ e2 codeO_ne⟩
    have nf1 : (upd (upd H P (.tbl (ps ++ #[rawInt pos.line, rawInt pos.col, .ref c']))) c' (CodeO c' (X.env.qual ++ "<lambda>"))) h'.objs.size = none := by rw [upd_ne n1, upd_ne n2]; exact nf
    have keepU : ∀ b o, (upd (upd H P (.tbl (ps ++ #[rawInt pos.line, rawInt pos.col, .ref c']))) c' (CodeO c' (X.env.qual ++ "<lambda>"))) b = some o → (upd (upd (upd H P (.tbl (ps ++ #[rawInt pos.line, rawInt pos.col, .ref c']))) c' (CodeO c' (X.env.qual ++ "<lambda>"))) h'.objs.size (FunO h'.objs.size (X.env.qual ++ "<lambda>") params body scope (cloFrom X.env.cells scope.names []) c')) b = some o := fun b o e => by
      rw [upd_ne (ne_of_none e nf1)]
      exact e
    exact h h'.objs.size c' _ _ I1 (hE.trans (ExtN.of keepU)) (T1.ext keepU) nf upd_same (keepU _ _ upd_same)
  | some cv =>
    obtain ⟨c', e, hco⟩ := ha pos cv hc
    subst e
    refine PySem.W.kla_makeFunctionHit (mg := X.mg) (c := c) (P := P) (ps := ps) (closure_ok hfree) I.ok.glob (I.mod.glob.keeps I.bk) hcode (TB.code.keeps I.bk) hP' ht hc bP fun ctv h' tk hx hsz => ?_
    have nf : H h'.objs.size = none := I.hok.fresh hsz
    have keepU : ∀ b o, H b = some o → (upd H h'.objs.size (FunO h'.objs.size (X.env.qual ++ "<lambda>") params body scope (cloFrom X.env.cells scope.names []) c')) b = some o := fun b o e => by
      rw [upd_ne (ne_of_none e nf)]
      exact e
    have I1 := I.laid (a := h'.objs.size) (t' := tk) (h' := h'.push (PySem.W.kla_obj "<lambda>" (X.env.qual ++ "<lambda>") params body scope (cloFrom X.env.cells scope.names []) ((X.mg "__name__").getD .none) c' ctv)) (fun b o e => Heap.get?_push_of_some _ (hx b o e)) hsz (okF _ h' c' ((X.mg "__name__").getD .none) ctv)
    exact h h'.objs.size c' _ _ I1 (ExtN.of keepU) (hT.ext keepU) nf upd_same (keepU _ _ hco)
theorem pe_lam {T : List (Addr × Str)} {c P : Addr} {params : Arguments} {body : Expr} {scope : Scope} {pos : Pos} (TB : TabB X.base X.mg c P) (hcode : X.env.code = .ref c)
    (hm : (P, X.env.qual ++ "<lambda>") ∈ T) (hu : ∀ p ∈ T, p.1 = P → p.2 = X.env.qual ++ "<lambda>") (hdef : defaultsOf params X.env = ([], [])) (L : LamS X.env.scope scope) :
    PE X (.Lambda params body scope pos) (fun _ H Q => Tabs T H ∧ ∀ f c' H1, ExtN H H1 → Tabs T H1 → H f = none → H1 f = some (FunO f (X.env.qual ++ "<lambda>") params body scope (cloFrom X.env.cells scope.names []) c') → H1 c' = some (CodeO c' (X.env.qual ++ "<lambda>")) → Q (.ref f) H1) := by
  refine ⟨fun pins s σ H Q I h => ?_⟩
  exact lam_expr I TB hcode hm hu h.1 hdef (L.has I.ok) fun f c' H1 s' I1 e1 t1 n f1 k1 => ⟨.ref f, H1, I1, rfl, h.2 f c' H1 e1 t1 n f1 k1⟩
theorem pe_actF {CXg : CXT} {Eg : XK} {Ng : List Str} {qg : Str} {sg : Scope} {g : Addr} {cdg : Value} {params : Arguments} {body : Expr} {scope : Scope} {k i : Nat} {a : Str} {pn : List (Addr × Obj)} {xe : Value → Shared → Prop} {W : WX} {E : XK} {tb : TE} {p1 p2 : Pos}
    (I : Inv X pins σ H s) (L : LamS X.env.scope scope)
    (hbind : ∀ (c' : Addr) (pm ctv : Value), bindArgs (PySem.W.kla_fn "<lambda>" (X.env.qual ++ "<lambda>") params body scope (cloFrom X.env.cells scope.names []) pm (.ref c') ctv) ⟨[], []⟩ = pure [])
    (tk : Takes ((cxOf CXg X.prog X.w X.K X.mg X.base Ng qg sg g cdg X.A X.stack s H Eg).tr pn xe) W) (hW : ∀ cls d σ' H', E cls d H' → W cls d σ' H') (hr : Room (k + 1) (X.A.deeper (envOfC qg sg s.heap.objs.size g cdg)))
    (hbody : ∀ (A : Around) (outer : List Env) (s : Shared) (H : Hp) (f c' : Addr), Room k (A.deeper (lamEnv X scope s.heap.objs.size f c')) → PE (lamCx X A outer s H E scope f c') body tb)
    (hN : Ng[i]? = some a) (hv : Vis sg a) (hd : (a == ("__debug__" : Str)) = false := by decide) (hcd : (a == ("__classdict__" : Str)) = false := by decide) :
    PE ((cxOf CXg X.prog X.w X.K X.mg X.base Ng qg sg g cdg X.A X.stack s H Eg).tr pn xe) (.Call (.Name a p1) [] [] p2)
      (fun σZ HZ Q => ∃ f c', σZ[i]? = some (some (.ref f)) ∧ HZ f = some (FunO f (X.env.qual ++ "<lambda>") params body scope (cloFrom X.env.cells scope.names []) c') ∧ HZ c' = some (CodeO c' (X.env.qual ++ "<lambda>")) ∧ tb σ HZ Q) := by
  refine ⟨fun pinsZ sZ σZ HZ Q IZ h => ?_⟩
  obtain ⟨f, c', hs, hF, hc, ht⟩ := h
  refine wpAny_Call_Name_kw (thn ((pe_var (pos := p1) (i := i) hN hv hd hcd).run pinsZ sZ σZ HZ (fun v H1 => v = .ref f ∧ H1 = HZ) IZ ⟨.ref f, hs, rfl, rfl⟩) fun u s1 ⟨v, H1, I1, r1, q1⟩ => ?_)
  obtain ⟨ev, eH⟩ := q1
  subst ev
  rw [eH] at I1
  obtain rfl : u = Value.ref f := r1
  obtain ⟨⟨pm, ctv, of1⟩, _, _⟩ := I1.hok f _ hF
  refine PySem.W.callWith_F0 ⟨_, _, _, _, of1⟩ ?_
  have un : Un (frs X.stack) [] H HZ s.heap s1.heap := I1.base
  obtain ⟨⟨oc, vs, t, hoc, hdc, hvc⟩, _, _⟩ := I1.hok c' _ hc
  have rc : codeAny (model X.prog X.w) (X.A.deeper (envOfC qg sg s.heap.objs.size g cdg)) (.call (.ref f) ⟨[], []⟩) (CR (L2.CX X.prog X.w) (envOfC qg sg s.heap.objs.size g cdg :: X.stack) X.prog X.w HZ s1 Q E) s1 := by
    refine PySem.W.kla_callFunE hr.depth of1 rfl L.co L.gen rfl ⟨c', oc, vs, t, rfl, hoc, hdc, hvc⟩ ?_
    rw [hbind]
    refine wpAny_pure (wpAny_newFunctionEnv (fun y hy => (L.own y hy).2) (fun y hy => absurd hy (by simp)) (fun h₁ hns hsb => ⟨I1.nolimit.fresh _ hsb, ?_⟩) L.kind)
    show codeAny _ _ (.expr body (lamEnv X scope s1.heap.objs.size f c')) _ _
    have kp : ∀ b o, s1.heap.get? b = some o → h₁.get? b = some o := fun b o e => hsb.extBut b o (Nat.ne_of_lt (Heap.lt_size e)) (Heap.get?_push_of_some _ e)
    have J : Inv (lamCx X (X.A.deeper (envOfC qg sg s.heap.objs.size g cdg)) (envOfC qg sg s.heap.objs.size g cdg :: X.stack) s1 HZ E scope f c') [] σ HZ { s1 with heap := h₁, toks := s1.toks + ([] : List (Str × Value)).length } :=
      lam_start2 I L I1.env0 hr.hd un hns kp
    refine PySem.W.kla_codeExpr (wpAny_mono ((hbody _ _ s1 HZ f c' (hr.deeper _)).run [] _ _ HZ Q J ht) (fun v s' hq => ?_) fun e s' hq => hq)
    obtain ⟨w', H', J', rv, q⟩ := hq
    exact ⟨w', H', J'.os, J'.bare, J'.base, J'.hok, rv, q⟩
  have hx : Passes (L2.CX X.prog X.w) ((cxOf CXg X.prog X.w X.K X.mg X.base Ng qg sg g cdg X.A X.stack s H Eg).tr pn xe) E := passes_call tk hW
  refine wpAny_call (codeAny_mono rc fun r s' hq => ?_)
  cases r with
  | error e => exact hx pinsZ σZ HZ s1 e s' I1 hq
  | ok fl =>
    cases fl with
    | ret u => exact I1.after hq
    | next => exact False.elim hq
    | brk => exact False.elim hq
    | cont => exact False.elim hq
theorem pe_callL {TT : List V → L2.St → Hp → VK → Prop} {x : Str} {g : Addr} {k : Nat} {pg : Arguments} {bg : List Stmt} {sg : Scope} {dV kV doc pm cdv ct oc : Value} {an od : Option Addr} {osl : Array (Option Value)} {Ng ps : List Str}
    {e : Expr} {es : List Expr} {ta : TA} {p pos : Pos} (hg : Gl X x) (hm : X.mg x = some (.ref g)) (hk : PySem.W.keepIn X.K (.ref g) = true)
    (lk : X.K.lookup g = some ⟨oc, od, .func (PySem.W.fnOf x x pg bg sg dV kV doc pm an cdv ct), osl⟩) (hcg : PySem.W.codeIn X.K cdv x = true) (hb : L2.Binds X.K (PySem.W.fnOf x x pg bg sg dV kV doc pm an cdv ct) ps []) (Sg : FnScope Ng ps sg) (hr : Room (k + 1) X.A)
    (ha : PA X (e :: es) ta)
    (hG : ∀ (pins : List (Addr × Obj)) (s : Shared) (σ : L2.St) (H : Hp) (vs : List V) (Q : VK), Inv X pins σ H s → Room k (X.A.deeper (envOfC x sg s.heap.objs.size g cdv)) → vs.length = ps.length → TT vs σ H Q →
      ∃ t, PSs (cxOf C8.CX0 X.prog X.w X.K X.mg X.base Ng x sg g cdv X.A X.stack s H C8.E0).nox bg t ∧ t { nx := fun _ H' => Q .non H', rt := Q } (L2.start Ng vs) H)
    (hdb : (x == ("__debug__" : Str)) = false := by decide) (he : starEach (e :: es) X.env = (false, eval e X.env) :: starEach es X.env := by rfl) (hpl : (backTo pos (starEach es X.env)).any (·.1) = false := by rfl) :
    PE X (.Call (.Name x p) (e :: es) [] pos) (fun σ H Q => ta σ H fun vs H1 => vs.length = ps.length ∧ TT vs σ H1 Q) := by
  refine ⟨fun pins s σ H Q I h => ?_⟩
  refine wpAny_Call_Name_kw (ld_glob I hg hm ?_ hdb)
  refine PySem.W.callWith_K (h₀ := X.base) I.ok.mod.kin hk (thn (ha.run pos pins s σ H _ I h) fun us s1 ⟨vs, H1, I1, r, q⟩ => ⟨I1.kIn, ?_⟩) he hpl
  obtain ⟨hl, q⟩ := q
  have rc : codeAny (model X.prog X.w) X.A (.call (.ref g) ⟨us, []⟩) (CR C8.CX0 X.stack X.prog X.w H1 s1 Q C8.E0) s1 := by
    have hlu : us.length = ps.length := by rw [← r.length]; exact hl
    refine run_ofS (N := Ng) (ps := ps) (us := us) (vs := vs) lk hcg Sg hr I1.env0 ?_ r hl fun hr' => ?_
    · have := hb s1 us I1.kIn (by rw [List.append_nil]; exact hlu)
      rw [List.append_nil] at this
      exact this
    obtain ⟨t', ht', hq'⟩ := hG pins s1 σ H1 vs Q I1 hr' hl q
    exact ⟨t', ht'.nox, hq'⟩
  refine wpAny_call (codeAny_mono rc fun r s2 hq => ?_)
  cases r with
  | error e => exact (show False from hq).elim
  | ok fl =>
    cases fl with
    | ret u => exact I1.after hq
    | next => exact False.elim hq
    | brk => exact False.elim hq
    | cont => exact False.elim hq
end
section
variable {c : Cxt} {G : Hp} {env : EnvD} {s : S} {σ : L2.St} {H : Hp}
theorem Rel.know (R : Rel c G env s σ H) {p : Addr} {o : HO} (h : H p = some o) (hl : ∀ vs, o ≠ .lst vs) (ho : ∀ ps, o ≠ .tbl ps) : ∃ G', Rel c G' env s σ H ∧ Ex G G' ∧ G' p = some o := by
  cases e : G p with
  | some u =>
    have := R.ex _ _ e
    rw [h] at this
    cases this
    exact ⟨G, R, Ex.refl G, e⟩
  | none =>
    refine ⟨upd G p o, R.growX h (.inr hl) e (fun z => ?_) ho (fun i es hi hv => ?_), Ex.new e, upd_same⟩
    · obtain ⟨x, b, _, h2⟩ := (R.st p z).2
      rw [h] at h2
      exact hl _ (Option.some.inj h2)
    · obtain ⟨v, h1, q, vs, rfl, h3, h4, h5, h6, h7⟩ := R.owns i es hi
      rw [h1] at hv
      cases hv
      rw [h] at h6
      exact hl _ (Option.some.inj h6)
end
structure LamD where
  params : Arguments
  body : Expr
  scope : Scope
  cl : List (Str × Addr)
abbrev LamI := Nat → Addr → Addr → HO → HO → Prop
def LamOk (X : Cx) (m : Nat) (d : LamD) (tb : TE) : Prop := LamS X.env.scope d.scope ∧ d.cl = cloFrom X.env.cells d.scope.names [] ∧
  (∀ (c' : Addr) (pm ctv : Value), bindArgs (PySem.W.kla_fn "<lambda>" (X.env.qual ++ "<lambda>") d.params d.body d.scope (cloFrom X.env.cells d.scope.names []) pm (.ref c') ctv) ⟨[], []⟩ = pure []) ∧
  (∀ (A : Around) (outer : List Env) (s : Shared) (H : Hp) (f c' : Addr), Room m (A.deeper (lamEnv X d.scope s.heap.objs.size f c')) → PE (lamCx X A outer s H C8.E0 d.scope f c') d.body tb)
def DEs (K : PySem.W.Frag) (T : List (Addr × Str)) (tb : TE) (fe : FE) : Prop := ∀ c : Cxt, c.K = K → c.T = T → DE c tb fe
def liOf (X : Cx) (T : List (Addr × Str)) (m : Nat) (fes : Nat → FE) : LamI := fun n f a o u => ∃ (d : LamD) (tb : TE), LamOk X m d tb ∧ DEs X.K T tb (fes n) ∧ o = FunO f (X.env.qual ++ "<lambda>") d.params d.body d.scope d.cl a ∧ u = CodeO a (X.env.qual ++ "<lambda>")
def tLamV (T : List (Addr × Str)) (q : Str) (params : Arguments) (body : Expr) (scope : Scope) (cl : List (Str × Addr)) : TE := fun _ H Q => Tabs T H ∧ ∀ f c' H1, ExtN H H1 → Tabs T H1 → H f = none → H1 f = some (FunO f q params body scope cl c') → H1 c' = some (CodeO c' q) → Q (.ref f) H1
def wLamV (LI : LamI) (n : Nat) (caps : List Nat) : FE := fun env s k => has caps env ∧ ∀ f a o u, LI n f a o u → k (.val (.fn f a o u)) (frz caps env) s
theorem funO_nl {f : Addr} {q : Str} {params : Arguments} {body : Expr} {scope : Scope} {cl : List (Str × Addr)} {c' : Addr} (vs : List V) : FunO f q params body scope cl c' ≠ .lst vs := fun z => by
  unfold FunO at z
  cases z
theorem codeO_nl {c' : Addr} {q : Str} (vs : List V) : CodeO c' q ≠ .lst vs := fun z => by
  unfold CodeO at z
  cases z
theorem de_lamV {c : Cxt} {LI : LamI} {n : Nat} {caps : List Nat} {q : Str} {params : Arguments} {body : Expr} {scope : Scope} {cl : List (Str × Addr)} (hLI : ∀ f a, LI n f a (FunO f q params body scope cl a) (CodeO a q)) : DE c (tLamV c.T q params body scope cl) (wLamV LI n caps) := by
  intro G env s σ H k Q R hf qq
  obtain ⟨hh, hf⟩ := hf
  obtain ⟨G2, R2, e2⟩ := frz_rel R hh
  refine ⟨R2.tab, fun f c' H1 eN T1 nf hF hC => ?_⟩
  have R3 := R2.ext eN T1
  obtain ⟨G4, R4, e4, g4⟩ := R3.know hF funO_nl funO_ne
  obtain ⟨G5, R5, e5, g5⟩ := R4.know hC codeO_nl (fun ps => codeO_ne ps)
  refine qq G5 H1 _ (.val (.fn f c' _ _)) _ s R5 ((e2.trans e4).trans e5) ?_ (hf f c' _ _ (hLI f c'))
  show Rep c.K G5 (.fn f c' _ _) (.ref f)
  simp only [Rep]
  exact ⟨trivial, e5 _ _ g4, g5, (fun kvs z => by unfold FunO at z; cases z), (fun kvs z => by unfold CodeO at z; cases z)⟩
abbrev Th := S → (Sl → S → Prop) → Prop
def wClo (LI : LamI) (ths : Nat → Th) (i : Nat) : FE := fun env s k => ∃ n f a o u, at_ env i = .val (.fn f a o u) ∧ LI n f a o u ∧ ths n s (fun r s' => k r env s')
def ThOk (c : Cxt) (G0 : Hp) (σ : L2.St) (tb : TE) (th : Th) : Prop := ∀ (HZ G : Hp) (s : S) (k : Sl → S → Prop) (Q : VK), Ex G0 G → Rel (c.inn HZ G) G [] s [] HZ → th s k →
  (∀ G' H' v r s', Rel (c.inn HZ G) G' [] s' [] H' → RV (c.inn HZ G) G' H' [] [] v r → k r s' → Q v H') → tb σ HZ Q
def tClo (X : Cx) (T : List (Addr × Str)) (m : Nat) (fes : Nat → FE) (i : Nat) (σ : L2.St) : TE := fun σZ HZ Q => ∃ (n : Nat) (d : LamD) (tb : TE) (f a : Addr), LamOk X m d tb ∧ DEs X.K T tb (fes n) ∧ σZ[i]? = some (some (.ref f)) ∧
  HZ f = some (FunO f (X.env.qual ++ "<lambda>") d.params d.body d.scope d.cl a) ∧ HZ a = some (CodeO a (X.env.qual ++ "<lambda>")) ∧ tb σ HZ Q
theorem de_clo {c : Cxt} {X : Cx} {σ : L2.St} {m : Nat} {fes : Nat → FE} {ths : Nat → Th} {i : Nat} (ok : ∀ n tb, DEs X.K c.T tb (fes n) → ThOk c c.G0 σ tb (ths n)) : DE c (tClo X c.T m fes i σ) (wClo (liOf X c.T m fes) ths i) := by
  intro G env s σZ HZ k Q R hw qq
  obtain ⟨n, f, a, o, u, h0, hl, ht⟩ := hw
  obtain ⟨d, tb, hd, htb, rfl, rfl⟩ := hl
  obtain ⟨v, h1, h2⟩ := R.vals i _ (at_val h0 (by simp))
  simp only [Rep] at h2
  obtain ⟨rfl, g1, g2, _⟩ := h2
  refine ⟨n, d, tb, f, a, hd, htb, h1, R.ex _ _ g1, R.ex _ _ g2, ?_⟩
  exact ok n tb htb HZ G s _ Q R.gx R.inn ht fun G' H' v r s' R' rv kk => qq G' H' v r env s' (R.out R') R'.gx (RV.out R R' rv) kk
def lamTh (fe : FE) (caps : List Nat) (env : EnvD) : Th := fun s k => fe (pick env caps (blank env)) s fun r _ s' => k r s'
theorem lam_ok {c : Cxt} {caps : List Nat} {fe : FE} {tb : TE} {G2 H1 : Hp} {env : EnvD} {s0 : S} {σ : L2.St} (R3 : Rel c G2 env s0 σ H1) (hv : noOwn env caps) (h : ∀ (H0 G0 : Hp), DE (c.inn H0 G0) tb fe) (c2 : Cxt) (hc2 : ∀ H0 G0, c2.inn H0 G0 = c.inn H0 G0) : ThOk c2 G2 σ tb (lamTh fe caps env) := by
  intro HZ G s k Q e R ht q
  have R' : Rel (c.inn HZ G) G [] s [] HZ := by rw [← hc2]; exact R
  have no : ∀ (i : Nat) (ds : List D), (pick env caps (blank env))[i]? = some (.own ds) → False := fun i ds hi => by
    rcases pick_at hi with ⟨h1, h2⟩ | h1
    · exact noOwn_at hv h1 (at_val h2.symm (by simp))
    · have := blank_at h1; cases this
  have Rm : Rel (c.inn HZ G) G (pick env caps (blank env)) s σ HZ :=
    { R' with len := (by rw [pick_len, blank_len, ← R3.len])
              vals := fun i d hi => (by
                rcases pick_at hi with ⟨_, h2⟩ | h1
                · obtain ⟨v, a, b⟩ := R3.vals i d (at_val h2.symm (by simp))
                  exact ⟨v, a, Rep.mono e d b⟩
                · have := blank_at h1; cases this)
              owns := fun i ds hi => (no i ds hi).elim
              dist := fun i j ds es v hi _ _ _ => (no i ds hi).elim }
  refine h HZ G G _ s σ HZ _ Q Rm ht fun G' H' v r env' s' R2 e2 rv kk => ?_
  have Rb := R2.bare
  refine q G' H' v r s' (by rw [hc2]; exact Rb) ?_ kk
  rw [hc2]
  cases r with
  | no => exact rv
  | val d => exact rv
  | own ds => exact ⟨rv.1, fun i es hi => by simp at hi⟩
def TTclo (K : PySem.W.Frag) (T : List (Addr × Str)) (F : (Nat → Th) → Fn) (fes : Nat → FE) : List V → L2.St → Hp → VK → Prop := fun vs σ H Q =>
  ∃ (c : Cxt) (s0 : S) (ths : Nat → Th) (ds : List D) (k : Sl → S → Prop), c.K = K ∧ c.T = T ∧ Rel c c.G0 [] s0 [] H ∧ RepL K c.G0 ds vs ∧ (∀ n tb, DEs K T tb (fes n) → ThOk c c.G0 σ tb (ths n)) ∧ F ths ds s0 k (fun _ _ => False) ∧ ∀ G' H' v r s', Rel c G' [] s' [] H' → RV c G' H' [] [] v r → k r s' → Q v H'
def wCallC (F : (Nat → Th) → Fn) (fes : Nat → FE) (caps : List Nat) (fa : FA) : FE := fun env s k => fa env s fun ds env1 s1 => noOwn env1 caps ∧ F (fun n => lamTh (fes n) caps env1) ds s1 (fun r s2 => k r env1 s2) (fun _ _ => False)
theorem de_callC {c : Cxt} {F : (Nat → Th) → Fn} {fes : Nat → FE} {caps : List Nat} {ta : TA} {fa : FA} {m : Nat} (hl : ∀ ths ds s k xq, F ths ds s k xq → ds.length = m) (ha : DA c ta fa) :
    DE c (fun σ H Q => ta σ H fun vs H1 => vs.length = m ∧ TTclo c.K c.T F fes vs σ H1 Q) (wCallC F fes caps fa) := by
  intro G env s σ H k Q R hf qq
  refine ha G env s σ H _ _ R hf fun G1 H1 vs ds env1 s1 R1 e1 rl k1 => ?_
  obtain ⟨hn, k1⟩ := k1
  refine ⟨by rw [rl.length]; exact hl _ _ _ _ _ k1, c.inn H1 G1, s1, _, ds, _, rfl, rfl, R1.inn, rl, fun n tb h => lam_ok R1 hn (fun H0 G0 => h (c.inn H0 G0) rfl rfl) (c.inn H1 G1) (fun _ _ => rfl), k1, fun G' H' v r s' R' rv kk => ?_⟩
  exact qq G' H' v r env1 s' (R1.out R') (e1.trans R'.gx) (RV.out R1 R' rv) kk
theorem pe_lamD {b : Book} {X : Cx} {T : List (Addr × Str)} {f0 : Str} {params : Arguments} {body : Expr} {scope : Scope} {pos : Pos} (TX : Txt b X.K X.mg) (TB : TBs b X.K X.mg X.base T X.prog)
    (hit : (f0, none) ∈ b.tf) (hcv : X.env.code = .ref (He.cT X.K (f0, none)).1) (hq : X.env.qual = f0 ++ ".<locals>.") (L : LamX.lamSB X.env.scope scope = true) (hdef : defaultsOf params X.env = ([], []) := by rfl) :
    PE X (.Lambda params body scope pos) (tLamV T (X.env.qual ++ "<lambda>") params body scope (cloFrom X.env.cells scope.names [])) := by
  have hmem : ((He.cT X.K (f0, none)).2, X.env.qual ++ "<lambda>") ∈ T := by
    rw [TB.eq, hq]
    exact List.mem_map.mpr ⟨(f0, none), hit, rfl⟩
  refine pe_lam (TB.tb _ hit) hcv hmem (fun r hr' e => ?_) hdef (LamX.lamS_by L)
  rw [TB.eq] at hr'
  obtain ⟨r0, hr0, rfl⟩ := List.mem_map.mp hr'
  have nd := TX.nd
  have : r0 = (f0, none) := by
    have key : ∀ {l : List He.Defn}, (l.map fun p => (He.cT X.K p).2).Nodup → r0 ∈ l → (f0, none) ∈ l → (He.cT X.K r0).2 = (He.cT X.K (f0, none)).2 → r0 = (f0, none) := by
      intro l
      induction l with
      | nil => intro _ h; simp at h
      | cons x xs ih =>
        intro n h1 h2 e
        rw [List.map_cons, List.nodup_cons] at n
        rcases List.mem_cons.mp h1 with h1 | h1 <;> rcases List.mem_cons.mp h2 with h2 | h2
        · rw [h1, h2]
        · exact absurd (List.mem_map.mpr ⟨_, h2, by rw [← h1]; exact e.symm⟩) n.1
        · exact absurd (List.mem_map.mpr ⟨_, h1, by rw [← h2]; exact e⟩) n.1
        · exact ih n.2 h1 h2 e
    exact key nd hr0 hit e
  rw [this, hq]
theorem lamOk0 {X : Cx} {m : Nat} {params : Arguments} {body : Expr} {scope : Scope} {tb : TE} (L : LamX.lamSB X.env.scope scope = true)
    (hbody : ∀ (A : Around) (outer : List Env) (s : Shared) (H : Hp) (f c' : Addr), Room m (A.deeper (LamX.lamEnv X scope s.heap.objs.size f c')) → PE (LamX.lamCx X A outer s H C8.E0 scope f c') body tb)
    (hbind2 : ∀ (q : Str) (cl : List (Str × Addr)) (pm cv ctv : Value), bindArgs (PySem.W.kla_fn "<lambda>" q params body scope cl pm cv ctv) ⟨[], []⟩ = pure [] := by intros; rfl) :
    LamOk X m ⟨params, body, scope, cloFrom X.env.cells scope.names []⟩ tb :=
  ⟨LamX.lamS_by L, rfl, fun _ _ _ => hbind2 _ _ _ _ _, hbody⟩
theorem pe_cloD {b : Book} {X : Cx} {T : List (Addr × Str)} {F : (Nat → Th) → Fn} {fs : (Nat → Th) → FS} {fes : Nat → FE} {st : Stmt} {x a : Str} {Ng ps : List Str} {k m i n : Nat} {e : Expr} {es : List Expr} {ta : TA} {p pos : Pos} (TX : Txt b X.K X.mg) (ii jj : Nat)
    (hdf : b.fn[ii]? = some ⟨(x, none), x, x, defArgs st, defBody st, defScope st, [], []⟩) (hgl : b.fa[jj]? = some (.glo x)) (Sg : FnScope Ng ps (defScope st))
    (hbind : ∀ (kV doc pm : Value) (an : Option Addr) (cdv ct : Value) (us : List Value), us.length = ps.length → bindArgs (PySem.W.fnOf x x (defArgs st) (defBody st) (defScope st) .none kV doc pm an cdv ct) ⟨us, []⟩ = pure (ps.zip us))
    (hF : ∀ ths ds s k xq, F ths ds s k xq → fs ths (start_ Ng ds) s (kBody k)) (hN : Ng[i]? = some a) (hv : Vis (defScope st) a) (hd : (a == ("__debug__" : Str)) = false) (hcd : (a == ("__classdict__" : Str)) = false) (hm : m + 1 ≤ k) (hn : ps.length = n) (hr : Room (k + 1) X.A) (ha : PA X (e :: es) ta)
    (hb : ∀ (g : Addr) (cdv : Value) (s : Shared) (H : Hp) (rd : TE), Room k (X.A.deeper (envOfC x (defScope st) s.heap.objs.size g cdv)) → (∀ p1 p2, PE (cxOf C8.CX0 X.prog X.w X.K X.mg X.base Ng x (defScope st) g cdv X.A X.stack s H C8.E0).nox (.Call (.Name a p1) [] [] p2) rd) →
      ∃ t, PSs (cxOf C8.CX0 X.prog X.w X.K X.mg X.base Ng x (defScope st) g cdv X.A X.stack s H C8.E0).nox (defBody st) t ∧ ∀ (c : Cxt) (ths : Nat → Th), c.K = X.K → c.T = T → DE c rd (wClo (liOf X T m fes) ths i) → DS c t (fs ths))
    (hg : Gl X x := by rfl) (hdb : (x == ("__debug__" : Str)) = false := by decide) (he : starEach (e :: es) X.env = (false, eval e X.env) :: starEach es X.env := by rfl) (hpl : (backTo pos (starEach es X.env)).any (·.1) = false := by rfl) :
    PE X (.Call (.Name x p) (e :: es) [] pos) (fun σ H Q => ta σ H fun vs H1 => vs.length = n ∧ TTclo X.K T F fes vs σ H1 Q) := by
  obtain ⟨fd, FD⟩ := TX.fun_ ii hdf
  have FD' : FunD X.K x x (defArgs st) (defBody st) (defScope st) [] [] (He.ga X.K x) fd := FD
  obtain ⟨oc, od, dV, kV, doc, pm, an, cdv, ct, osl, e', lk, hcdv, _, _⟩ := FD'.ex
  subst e'
  subst hn
  refine pe_callL (TT := TTclo X.K T F fes) hg (TX.glo jj _ hgl) FD'.kp lk hcdv (FD'.bindsN (ps := ps) hbind) Sg hr ha (fun pins s σ H vs Q I hr _ tt => ?_) hdb he hpl
  obtain ⟨c, s0, ths, ds, kk, hK, hT, R, rl, hth, hf, hq⟩ := tt
  have tk : Takes ((cxOf C8.CX0 X.prog X.w X.K X.mg X.base Ng x (defScope st) (He.ga X.K x) cdv X.A X.stack s H C8.E0).tr [] fun _ _ => False) (fun _ _ _ _ => False) := fun u s' ⟨_, _, _, _, _, _, _, _, _, _, _, _, _, _, _, _, z⟩ => z.elim
  obtain ⟨t, h1, h2⟩ := hb (He.ga X.K x) cdv s H (tClo X T m fes i σ) hr fun p1 p2 => ⟨fun pinsZ sZ σZ HZ QZ IZ h => by
    obtain ⟨n, d, tb, f, a', ⟨y1, y2, y3, y4⟩, _, z1, z2, z3, z4⟩ := h
    rw [y2] at z2
    exact (pe_actF (Eg := C8.E0) (E := C8.E0) (k := m) (xe := fun _ _ => False) (pn := []) (p1 := p1) (p2 := p2) I y1 y3 tk (fun _ _ _ _ z => z) (hr.mono hm) y4 hN hv hd hcd).run pinsZ sZ σZ HZ QZ IZ ⟨f, a', z1, z2, z3, z4⟩⟩
  subst hT
  refine ⟨t, h1, h2 c ths hK rfl (de_clo (fun n tb h => hth n tb h)) c.G0 (start_ Ng ds) s0 (L2.start Ng vs) H (kBody kk) _ (rel_start R (by rw [hK]; exact rl)) (hF _ _ _ _ _ hf) ⟨fun G' H' env' s2 σ' R' e kk => ?_, fun G' H' s2 v r R' e rv kk => hq G' H' v r s2 R' rv kk, fun _ _ _ _ _ _ _ kk => kk.elim, fun _ _ _ _ _ _ _ kk => kk.elim⟩⟩
  exact hq G' H' .non (.val .non) s2 R'.bare (by simp only [RV, Rep]) kk
theorem Txt.defL {b : Book} {P : Program} {w : World} {K : PySem.W.Frag} {mg : Str → Option Value} {base : Heap} {T : List (Addr × Str)} (X : Txt b K mg) (i j : Nat) {st : Stmt} {f : Str} {N ps : List Str} {k : Nat} {F : Fn} {fs : LamI → (Str → S → Prop) → FS}
    (hd : b.fn[i]? = some ⟨(f, none), f, f, defArgs st, defBody st, defScope st, [], []⟩) (hg : b.fa[j]? = some (.glo f)) (Sc : FnScope N ps (defScope st))
    (hbind : ∀ (kV doc pm : Value) (an : Option Addr) (cdv ct : Value) (us : List Value), us.length = ps.length → bindArgs (PySem.W.fnOf f f (defArgs st) (defBody st) (defScope st) .none kV doc pm an cdv ct) ⟨us, []⟩ = pure (ps.zip us))
    (len : ∀ ds s k xq, F ds s k xq → ds.length = ps.length) (hF : ∀ ds s k xq, F ds s k xq → ∀ LI, fs LI xq (start_ N ds) s (kBody k))
    (hbody : ∀ (fa : Addr) (cdv : Value) (A : Around) (outer : List Env) (s : Shared) (H : Hp) (E : XK), cdv = .ref (He.cT K (f, none)).1 → Room k (A.deeper (envOfC f (defScope st) s.heap.objs.size fa cdv)) →
      ∃ t LI, PSs (cxOf (L2.CX P w) P w K mg base N f (defScope st) fa cdv A outer s H E) (defBody st) t ∧ ∀ (c : Cxt) (xq : Str → DL.S → Prop), c.K = K → c.T = T → EOk c (He.ga K) E xq → DS c t (fs LI xq)) :
    Def P w K mg base T f ps (k + 1) F := by
  obtain ⟨fd, FD⟩ := X.fun_ i hd
  refine ⟨He.ga K f, fd, X.glo j f hg, FD.kp, FD.bindsN hbind, ?_, let ⟨oc, od, _, _, _, _, _, _, _, osl, _, lk, _⟩ := FD.ex; ⟨oc, od, osl, lk⟩⟩
  have FD' : FunD K f f (defArgs st) (defBody st) (defScope st) [] [] (He.ga K f) fd := FD
  obtain ⟨oc, od, dV, kV, doc, pm, an, cdv, ct, osl, rfl, lk, hcd, _, _⟩ := FD'.ex
  have hcv : cdv = .ref (He.cT K (f, none)).1 := by
    obtain ⟨c, e⟩ := He.codeIn_ref hcd
    have e2 : He.codeOf K (f, none) = c := He.codeOf_eq (fd := PySem.W.fnOf f f (defArgs st) (defBody st) (defScope st) dV kV doc pm an cdv ct) lk (by rw [← e] <;> rfl)
    show cdv = .ref (He.codeOf K (f, none))
    rw [e2, e]
  refine fn_of lk hcd Sc (fun vs H Q E h => ?_) (fun A outer s H vs Q E hr h => ?_)
  · obtain ⟨c, G, s, ds, k, xq, _, _, _, rl, hf, _⟩ := h
    rw [rl.length]
    exact len ds s k xq hf
  · obtain ⟨t, LI, h1, h2⟩ := hbody _ cdv A outer s H E hcv hr
    obtain ⟨c, G, s', ds, k, xq, hK, hT, R, rl, hf, hq, hx⟩ := h
    refine ⟨t, h1, ?_⟩
    refine h2 c xq hK hT (fun G' H' cn s2 R' hc => ?_) G (start_ N ds) s' (L2.start N vs) H (kBody k) _ (rel_start R rl) (hF ds s' k xq hf LI) ⟨fun G' H' env' s2 σ' R' e kk => ?_, fun G' H' s2 v r R' e rv kk => hq G' H' v r s2 R' rv kk, fun _ _ _ _ _ _ _ kk => kk.elim, fun _ _ _ _ _ _ _ kk => kk.elim⟩
    · exact hx G' H' cn s2 R' hc
    · exact hq G' H' .non (.val .non) s2 R'.bare (by simp only [RV, Rep]) kk
end DL
namespace DL
open PySem PySem.Spec PyProof.Rows L2 LamX
theorem li_of {X : Cx} {T : List (Addr × Str)} {m n : Nat} {fes : Nat → FE} {f a : Addr} {params : Arguments} {body : Expr} {scope : Scope} {tb : TE} (L : LamX.lamSB X.env.scope scope = true)
    (hbody : ∀ (A : Around) (outer : List Env) (s : Shared) (H : Hp) (f c' : Addr), Room m (A.deeper (LamX.lamEnv X scope s.heap.objs.size f c')) → PE (LamX.lamCx X A outer s H C8.E0 scope f c') body tb)
    (hd : DEs X.K T tb (fes n))
    (hbind2 : ∀ (q : Str) (cl : List (Str × Addr)) (pm cv ctv : Value), bindArgs (PySem.W.kla_fn "<lambda>" q params body scope cl pm cv ctv) ⟨[], []⟩ = pure [] := by intros; rfl) :
    liOf X T m fes n f a (FunO f (X.env.qual ++ "<lambda>") params body scope (cloFrom X.env.cells scope.names []) a) (CodeO a (X.env.qual ++ "<lambda>")) :=
  ⟨⟨params, body, scope, cloFrom X.env.cells scope.names []⟩, tb, lamOk0 L hbody hbind2, hd, rfl, rfl⟩
end DL
namespace DL
open L2
def argCK (ke : KE) (F : (Nat → Th) → Fn) (fes : Nat → FE) (caps : List Nat) : KA := fun ds e s => noOwn e caps ∧ F (fun n => lamTh (fes n) caps e) ds s (callK ke e) (fun _ _ => False)
theorem argCK_ap (ke : KE) (F : (Nat → Th) → Fn) (fes : Nat → FE) (caps : List Nat) (ds : List D) (e : EnvD) (s : S) : argCK ke F fes caps ds e s = (noOwn e caps ∧ F (fun n => lamTh (fes n) caps e) ds s (callK ke e) (fun _ _ => False)) := rfl
theorem wCallC_C (ke : KE) (F : (Nat → Th) → Fn) (fes : Nat → FE) (caps : List Nat) (fa : FA) (env : EnvD) (s : S) : wCallC F fes caps fa env s ke = fa env s (argCK ke F fes caps) := rfl
end DL
set_option Elab.async false
set_option linter.all false
set_option maxRecDepth 100000
set_option maxHeartbeats 2000000
namespace DL
open PySem L2 PySem.Spec PyProof.Rows
open Evl (Ex)
def TW (c : Cxt) (G H : Hp) (env : EnvD) (σ : L2.St) (v : V) (ds es : List D) : Prop := ∃ p q1 q2, v = .ref p ∧ SqT c.K G p [.ref q1, .ref q2] ∧ q1 ≠ q2 ∧ (SlV c G H (.ref q1) ds ∧ Apart env σ (.ref q1)) ∧ SlV c G H (.ref q2) es ∧ Apart env σ (.ref q2)
abbrev FW := EnvD → S → (List D → List D → EnvD → S → Prop) → Prop
def DW (c : Cxt) (t : TE) (f : FW) : Prop := ∀ (G : Hp) (env : EnvD) (s : S) (σ : L2.St) (H : Hp) (k : List D → List D → EnvD → S → Prop) (Q : VK), Rel c G env s σ H → f env s k →
  (∀ G' H' v ds es env' s', Rel c G' env' s' σ H' → Ex G G' → TW c G' H' env' σ v ds es → k ds es env' s' → Q v H') → t σ H Q
section
variable {c : Cxt} {G H : Hp} {env : EnvD} {s : S} {σ : L2.St}
theorem TW.known {v : V} {ds es : List D} (R : Rel c G env s σ H) (h : TW c G H env σ v ds es) : ∃ p q1 q2 vs ws, v = .ref p ∧ SqT c.K G p [.ref q1, .ref q2] ∧ q1 ≠ q2 ∧ (G q1 = none ∧ c.H0 q1 = none ∧ c.a0 ≠ some q1 ∧ H q1 = some (.lst vs) ∧ RepL c.K G ds vs ∧ Apart env σ (.ref q1)) ∧
    (G q2 = none ∧ c.H0 q2 = none ∧ c.a0 ≠ some q2 ∧ H q2 = some (.lst ws) ∧ RepL c.K G es ws ∧ Apart env σ (.ref q2)) ∧ Rel c (upd (upd G q1 (.lst vs)) q2 (.lst ws)) env s σ H ∧ Ex G (upd (upd G q1 (.lst vs)) q2 (.lst ws)) ∧ Rep c.K (upd (upd G q1 (.lst vs)) q2 (.lst ws)) (.tup [.lst ds, .lst es]) v := by
  obtain ⟨p, q1, q2, rfl, hp, hne, ⟨⟨_, vs, z1, a1, a2, a3, a4, a5⟩, a6⟩, ⟨_, ws, z2, b1, b2, b3, b4, b5⟩, b6⟩ := h
  cases z1
  cases z2
  have e1 : Ex G (upd G q1 (.lst vs)) := Ex.new a1
  have b1' : (upd G q1 (.lst vs)) q2 = none := by rw [upd_ne (Ne.symm hne)]; exact b1
  have e2 : Ex (upd G q1 (.lst vs)) (upd (upd G q1 (.lst vs)) q2 (.lst ws)) := Ex.new b1'
  have R1 := R.grow a4 a2 a1 a3 (fun _ z => by cases z) a6
  have R2 := R1.grow b4 b2 b1' b3 (fun _ z => by cases z) b6
  refine ⟨p, q1, q2, vs, ws, rfl, hp, hne, ⟨a1, a2, a3, a4, a5, a6⟩, ⟨b1, b2, b3, b4, b5, b6⟩, R2, e1.trans e2, ?_⟩
  simp only [Rep]
  refine ⟨p, _, rfl, Evl.ex_t (e1.trans e2) hp, RepL.cons ?_ (RepL.one ?_)⟩
  · simp only [Rep]
    exact ⟨q1, vs, rfl, by rw [upd_ne hne, upd_same], RepL.mono (e1.trans e2) ds a5⟩
  · simp only [Rep]
    exact ⟨q2, ws, rfl, upd_same, RepL.mono (e1.trans e2) es b5⟩
theorem TW.bare {v : V} {ds es : List D} (h : TW c G H env σ v ds es) : TW c G H [] [] v ds es := by
  obtain ⟨p, q1, q2, e, hp, hne, ⟨a, _⟩, b, _⟩ := h
  exact ⟨p, q1, q2, e, hp, hne, ⟨a, fun i es q => by simp at q⟩, b, fun i es q => by simp at q⟩
end
def wVW (f : FW) : FE := fun env s k => f env s fun ds es env1 s1 => k (.val (.tup [.lst ds, .lst es])) env1 s1
def wIW0 (f : FW) : FE := fun env s k => f env s fun ds _ env1 s1 => k (.own ds) env1 s1
def wIW1 (f : FW) : FE := fun env s k => f env s fun _ es env1 s1 => k (.own es) env1 s1
def wMv (i : Nat) : FE := fun env s k => match at_ env i with
  | .own ds => k (.own ds) (env.set i .no) s
  | _ => False
def wTw (fa fb : FE) : FW := fun env s k => fa env s fun ra env1 s1 => match ra with
  | .own ds => fb env1 s1 fun rb env2 s2 => match rb with
    | .own es => k ds es env2 s2
    | _ => False
  | _ => False
section
variable {c : Cxt} {t ta tb : TE} {f : FW} {fa fb : FE}
theorem de_ofW (h : DW c t f) : DE c t (wVW f) := by
  intro G env s σ H k Q R hf q
  refine h G env s σ H _ _ R hf fun G1 H1 v ds es env1 s1 R1 e1 tw k1 => ?_
  obtain ⟨p, q1, q2, vs, ws, _, _, _, _, _, R2, e2, rp⟩ := tw.known R1
  exact q _ H1 v (.val (.tup [.lst ds, .lst es])) env1 s1 R2 (e1.trans e2) rp k1
theorem de_iW0 (h : DW c t f) : DE c (tOp (rIx c.K) t (tC (.int 0))) (wIW0 f) := by
  intro G env s σ H k Q R hf q
  refine h G env s σ H _ _ R hf fun G1 H1 v ds es env1 s1 R1 e1 tw k1 => ?_
  obtain ⟨p, q1, q2, rfl, hp, hne, a, b⟩ := tw
  exact .inr (.inl ⟨p, _, 0, .ref q1, rfl, rfl, Evl.ex_t R1.ex hp, rfl, q G1 H1 _ (.own ds) env1 s1 R1 e1 a k1⟩)
theorem de_iW1 (h : DW c t f) : DE c (tOp (rIx c.K) t (tC (.int 1))) (wIW1 f) := by
  intro G env s σ H k Q R hf q
  refine h G env s σ H _ _ R hf fun G1 H1 v ds es env1 s1 R1 e1 tw k1 => ?_
  obtain ⟨p, q1, q2, rfl, hp, hne, a, b⟩ := tw
  exact .inr (.inl ⟨p, _, 1, .ref q2, rfl, rfl, Evl.ex_t R1.ex hp, rfl, q G1 H1 _ (.own es) env1 s1 R1 e1 b k1⟩)
theorem Rel.setNoI {G H : Hp} {env : EnvD} {s : S} {σ : L2.St} (R : Rel c G env s σ H) (i : Nat) : Rel c G (env.set i .no) s σ H := by
  have get : ∀ {j : Nat} {x : Sl}, (env.set i .no)[j]? = some x → x ≠ .no → j ≠ i ∧ env[j]? = some x := fun {j x} h hx => by
    by_cases hb : i = j
    · subst hb
      by_cases hl : i < env.length
      · rw [List.getElem?_set_self hl] at h
        cases h
        exact absurd rfl hx
      · rw [List.getElem?_eq_none (by rw [List.length_set]; omega)] at h
        cases h
    · rw [List.getElem?_set_ne hb] at h
      exact ⟨fun e => hb e.symm, h⟩
  exact { R with
      len := by rw [List.length_set]; exact R.len
      vals := fun j d hj => R.vals j d (get hj (by simp)).2
      owns := fun j es hj => R.owns j es (get hj (by simp)).2
      dist := fun j j' es es' v h1 h2 => R.dist j j' es es' v (get h1 (by simp)).2 (get h2 (by simp)).2 }
theorem de_mv (i : Nat) : DE c (tVar i) (wMv i) := by
  intro G env s σ H k Q R hf q
  unfold wMv at hf
  cases e : at_ env i with
  | no => rw [e] at hf; exact hf.elim
  | val d => rw [e] at hf; exact hf.elim
  | own ds =>
    rw [e] at hf
    obtain ⟨v, h1, sl⟩ := R.owns i ds (at_val e (by simp))
    refine ⟨v, h1, q G H v (.own ds) _ s (R.setNoI i) (Ex.refl G) ⟨sl, fun j es' h2 h3 => ?_⟩ hf⟩
    by_cases hb : i = j
    · subst hb
      have hl : i < env.length := (List.getElem?_eq_some_iff.mp (at_val e (by simp))).1
      rw [List.getElem?_set_self hl] at h2
      cases h2
    · rw [List.getElem?_set_ne hb] at h2
      exact hb (R.dist i j ds es' v (at_val e (by simp)) h2 h1 h3)
theorem dw_tup (ha : DE c ta fa) (hb : ∀ H0, (∀ {cl : Str → Addr} {E : XK} {xq : Str → S → Prop}, EOk c cl E xq → EOk (c.h0 H0) cl E xq) → DE (c.h0 H0) tb fb) : DW c (tTup (tCons ta (tCons tb tNil))) (wTw fa fb) := by
  intro G env s σ H k Q R hf q
  refine ha G env s σ H _ _ R hf fun G1 H1 v1 ra env1 s1 R1 e1 rv1 k1 => ?_
  cases ra with
  | no => exact k1.elim
  | val d => exact k1.elim
  | own ds =>
    obtain ⟨⟨q1, vs, rfl, a1, a2, a3, a4, a5⟩, a6⟩ := rv1
    have Rh := R1.hide a4 a1 a2 a6
    refine hb _ (fun hE G H cn s R hc => hE G H cn s (Rel.unhide a2 R) hc) G1 env1 s1 σ H1 _ _ Rh k1 fun G2 H2 v2 rb env2 s2 R2 e2 rv2 k2 => ?_
    cases rb with
    | no => exact k2.elim
    | val d => exact k2.elim
    | own es =>
      obtain ⟨⟨q2, ws, rfl, b1, b2, b3, b4, b5⟩, b6⟩ := rv2
      have b2' : upd c.H0 q1 (.lst vs) q2 = none := b2
      have hne : q1 ≠ q2 := fun z => by rw [z, upd_same] at b2'; cases b2'
      have c4 : H2 q1 = some (.lst vs) := R2.keep q1 _ upd_same a3 (fun _ z => by cases z)
      have c0 : c.G0 q1 = none := by
        cases z : c.G0 q1 with
        | none => rfl
        | some o => have := R1.gx _ _ z; rw [a1] at this; cases this
      have c1 : G2 q1 = none := R2.gnew q1 vs (by show upd c.H0 q1 _ q1 = _; rw [upd_same]) c0
      have c6 : Apart env2 σ (.ref q1) := fun j us h1 h2 => by
        obtain ⟨w, n1, q, us', rfl, n3, n4, _⟩ := R2.owns j us h1
        rw [n1] at h2
        cases h2
        have n4' : upd c.H0 q1 (.lst vs) q1 = none := n4
        rw [upd_same] at n4'
        cases n4'
      have R3 := R2.unhide a2
      have b2n : c.H0 q2 = none := by rw [upd_ne (Ne.symm hne)] at b2'; exact b2'
      refine ⟨by show 2 ≤ sizeLine; decide, fun p hp => ?_⟩
      have R4 := R3.new (o := .tup [.ref q1, .ref q2]) hp (fun _ z => by cases z)
      have g0 := R3.g0 hp
      have R5 := R4.grow (p := p) (o := .tup [.ref q1, .ref q2]) upd_same (R3.kn p hp) g0 (R3.a0ne hp) (fun _ z => by cases z) (R3.newApart hp)
      have eG : Ex G2 (upd G2 p (.tup [.ref q1, .ref q2])) := Ex.new g0
      have n1 : q1 ≠ p := fun z => by rw [z, hp] at c4; cases c4
      have n2 : q2 ≠ p := fun z => by rw [z, hp] at b4; cases b4
      refine q _ _ _ ds es env2 s2 R5 ((e1.trans e2).trans eG) ⟨p, q1, q2, rfl, .inl (.inl upd_same), hne, ⟨⟨q1, vs, rfl, ?_, a2, a3, ?_, RepL.mono (e2.trans eG) ds a5⟩, c6⟩, ⟨q2, ws, rfl, ?_, b2n, b3, ?_, RepL.mono eG es b5⟩, b6⟩ k2
      · rw [upd_ne n1]; exact c1
      · rw [upd_ne n1]; exact c4
      · rw [upd_ne n2]; exact b1
      · rw [upd_ne n2]; exact b4
end
abbrev FnW := List D → S → (List D → List D → S → Prop) → (Str → S → Prop) → Prop
abbrev FSW := EnvD → S → (List D → List D → S → Prop) → Prop
structure WEnd (c : Cxt) (G : Hp) (k : List D → List D → S → Prop) (E : Ends) : Prop where
  rt : ∀ G' H' s' v ds es, Rel c G' [] s' [] H' → Ex G G' → TW c G' H' [] [] v ds es → k ds es s' → E.rt v H'
def DSW (c : Cxt) (t : TS) (f : FSW) : Prop := ∀ (G : Hp) (env : EnvD) (s : S) (σ : L2.St) (H : Hp) (k : List D → List D → S → Prop) (E : Ends), Rel c G env s σ H → f env s k → WEnd c G k E → t E σ H
def seqWK (g : FSW) (k : List D → List D → S → Prop) : Fl → Prop := fun fl => match fl with
  | .nx e s1 => g e s1 k
  | _ => False
def wSeqW (f : FS) (g : FSW) : FSW := fun env s k => f env s (seqWK g k)
def wRetW (f : FW) : FSW := fun env s k => f env s fun ds es _ s1 => k ds es s1
section
variable {c : Cxt} {t u : TS} {te : TE} {f : FS} {g : FSW} {fw : FW}
theorem dsw_seq (h : DS c t f) (h' : DSW c u g) : DSW c (tSeq t u) (wSeqW f g) := by
  intro G env s σ H k E R hf q
  exact h G env s σ H _ { E with nx := u E } R hf ⟨fun G' H' env' s' σ' R' e kk => h' G' env' s' σ' H' k E R' kk ⟨fun _ _ _ _ _ _ R2 e2 => q.rt _ _ _ _ _ _ R2 (e.trans e2)⟩, fun _ _ _ _ _ _ _ _ z => z.elim, fun _ _ _ _ _ _ _ z => z.elim, fun _ _ _ _ _ _ _ z => z.elim⟩
theorem dsw_ret (h : DW c te fw) : DSW c (tRet te) (wRetW fw) := by
  intro G env s σ H k E R hf q
  exact h G env s σ H _ _ R hf fun G' H' v ds es env' s' R' e tw kk => q.rt G' H' s' v ds es R'.bare e tw.bare kk
end
def spW (K : PySem.W.Frag) (T : List (Addr × Str)) (cl : Str → Addr) (F : FnW) : Sp := fun vs H Q E =>
  ∃ (c : Cxt) (G : Hp) (s : S) (ds : List D) (k : List D → List D → S → Prop) (xq : Str → S → Prop), c.K = K ∧ c.T = T ∧ Rel c G [] s [] H ∧ RepL K G ds vs ∧ F ds s k xq ∧
    (∀ G' H' v es fs s', Rel c G' [] s' [] H' → TW c G' H' [] [] v es fs → k es fs s' → Q v H') ∧ (∀ G' H' cn s', Rel c G' [] s' [] H' → xq cn s' → E (.ref (cl cn)) none H')
structure DefW (P : Program) (w : World) (K : PySem.W.Frag) (mg : Str → Option Value) (base : Heap) (T : List (Addr × Str)) (f : Str) (ps : List Str) (k : Nat) (F : FnW) : Prop where
  ex : ∃ (fa : Addr) (fd : FuncData), mg f = some (.ref fa) ∧ PySem.W.keepIn K (.ref fa) = true ∧ Binds K fd ps [] ∧ FnOk P w K mg base (L2.CX P w) k fa fd ps (spW K T (He.ga K) F) ∧
    ∃ oc od osl, K.lookup fa = some ⟨oc, od, .func fd, osl⟩
theorem pe_defW {X : Cx} {K : PySem.W.Frag} {T : List (Addr × Str)} {f : Str} {ps : List Str} {k : Nat} {F : FnW} {E : XK} {e : Expr} {es : List Expr} {t : TA} {p pos : Pos} (Dd : DefW X.prog X.w K X.mg X.base T f ps k F) (hr : Room k X.A) (hx : Passes (L2.CX X.prog X.w) X E) (ha : PA X (e :: es) t) (hK : X.K = K := by rfl) (hg : Gl X f := by rfl) (hdb : (f == ("__debug__" : Str)) = false := by decide)
    (he : starEach (e :: es) X.env = (false, eval e X.env) :: starEach es X.env := by rfl) (hpl : (backTo pos (starEach es X.env)).any (·.1) = false := by rfl) : PE X (.Call (.Name f p) (e :: es) [] pos) (tCall (spW K T (He.ga K) F) [] E t) := by
  subst hK
  obtain ⟨fa, fd, h1, h2, h3, h4, _⟩ := Dd.ex
  exact pe_call h4 hr hg h1 h2 h3 .nil hx ha hdb he hpl
def wCallW (F : FnW) (xq : Str → S → Prop) (fa : FA) : FW := fun env s k => fa env s fun ds env1 s1 => F ds s1 (fun es fs s2 => k es fs env1 s2) xq
theorem TW.out {c : Cxt} {G H : Hp} {env : EnvD} {s : S} {σ : L2.St} (R : Rel c G env s σ H) {G' H' : Hp} {v : V} {ds es : List D} (h : TW (c.inn H G) G' H' [] [] v ds es) : TW c G' H' env σ v ds es := by
  obtain ⟨p, q1, q2, e, hp, hne, ⟨⟨_, vs, z1, a1, a2, a3, a4, a5⟩, _⟩, ⟨_, ws, z2, b1, b2, b3, b4, b5⟩, _⟩ := h
  cases z1
  cases z2
  have a2' : noT H q1 = none := a2
  have b2' : noT H q2 = none := b2
  exact ⟨p, q1, q2, e, hp, hne, ⟨⟨q1, vs, rfl, a1, R.knN a2', a3, a4, a5⟩, R.newApartN a2'⟩, ⟨q2, ws, rfl, b1, R.knN b2', b3, b4, b5⟩, R.newApartN b2'⟩
theorem dw_call {c : Cxt} {cl : Str → Addr} {E : XK} {xq : Str → S → Prop} {F : FnW} {t : TA} {fa : FA} (hE : EOk c cl E xq) (h : DA c t fa) : DW c (tCall (spW c.K c.T cl F) [] E t) (wCallW F xq fa) := by
  intro G env s σ H k Q R hf q
  refine h G env s σ H _ _ R hf fun G1 H1 vs ds env1 s1 R1 e1 rl k1 => ?_
  show spW c.K c.T cl F (vs ++ []) H1 Q E
  rw [List.append_nil]
  refine ⟨c.inn H1 G1, G1, s1, ds, _, xq, rfl, rfl, R1.inn, rl, k1, fun G' H' v es fs s' R' tw kk => ?_, fun G' H' cn s' R' hx => ?_⟩
  · exact q G' H' v es fs env1 s' (R1.out R') (e1.trans R'.gx) (tw.out R1) kk
  · exact hE G' H' cn s' (R1.bare.out (G' := G') (H' := H') (s' := s') R') hx
theorem Txt.defW {b : Book} {P : Program} {w : World} {K : PySem.W.Frag} {mg : Str → Option Value} {base : Heap} {T : List (Addr × Str)} (X : Txt b K mg) (i j : Nat) {st : Stmt} {f : Str} {N ps : List Str} {k : Nat} {F : FnW} {fs : (Str → S → Prop) → FSW}
    (hd : b.fn[i]? = some ⟨(f, none), f, f, defArgs st, defBody st, defScope st, [], []⟩) (hg : b.fa[j]? = some (.glo f)) (Sc : FnScope N ps (defScope st))
    (hbind : ∀ (kV doc pm : Value) (an : Option Addr) (cdv ct : Value) (us : List Value), us.length = ps.length → bindArgs (PySem.W.fnOf f f (defArgs st) (defBody st) (defScope st) .none kV doc pm an cdv ct) ⟨us, []⟩ = pure (ps.zip us))
    (len : ∀ ds s k xq, F ds s k xq → ds.length = ps.length) (hF : ∀ ds s k xq, F ds s k xq → fs xq (start_ N ds) s k)
    (hbody : ∀ (fa : Addr) (cdv : Value) (A : Around) (outer : List Env) (s : Shared) (H : Hp) (E : XK), cdv = .ref (He.cT K (f, none)).1 → Room k (A.deeper (envOfC f (defScope st) s.heap.objs.size fa cdv)) →
      ∃ t, PSs (cxOf (L2.CX P w) P w K mg base N f (defScope st) fa cdv A outer s H E) (defBody st) t ∧ ∀ (c : Cxt) (xq : Str → DL.S → Prop), c.K = K → c.T = T → EOk c (He.ga K) E xq → DSW c t (fs xq)) :
    DefW P w K mg base T f ps (k + 1) F := by
  obtain ⟨fd, FD⟩ := X.fun_ i hd
  refine ⟨He.ga K f, fd, X.glo j f hg, FD.kp, FD.bindsN hbind, ?_, let ⟨oc, od, _, _, _, _, _, _, _, osl, _, lk, _⟩ := FD.ex; ⟨oc, od, osl, lk⟩⟩
  have FD' : FunD K f f (defArgs st) (defBody st) (defScope st) [] [] (He.ga K f) fd := FD
  obtain ⟨oc, od, dV, kV, doc, pm, an, cdv, ct, osl, rfl, lk, hcd, _, _⟩ := FD'.ex
  have hcv : cdv = .ref (He.cT K (f, none)).1 := by
    obtain ⟨c, e⟩ := He.codeIn_ref hcd
    have e2 : He.codeOf K (f, none) = c := He.codeOf_eq (fd := PySem.W.fnOf f f (defArgs st) (defBody st) (defScope st) dV kV doc pm an cdv ct) lk (by rw [← e] <;> rfl)
    show cdv = .ref (He.codeOf K (f, none))
    rw [e2, e]
  refine fn_of lk hcd Sc (fun vs H Q E h => ?_) (fun A outer s H vs Q E hr h => ?_)
  · obtain ⟨c, G, s, ds, k, xq, _, _, _, rl, hf, _⟩ := h
    rw [rl.length]
    exact len ds s k xq hf
  · obtain ⟨t, h1, h2⟩ := hbody _ cdv A outer s H E hcv hr
    obtain ⟨c, G, s', ds, k, xq, hK, hT, R, rl, hf, hq, hx⟩ := h
    refine ⟨t, h1, ?_⟩
    refine h2 c xq hK hT (fun G' H' cn s2 R' hc => ?_) G (start_ N ds) s' (L2.start N vs) H k _ (rel_start R (by rw [hK]; exact rl)) (hF ds s' k xq hf) ⟨fun G' H' s2 v es fs R' e tw kk => hq G' H' v es fs s2 R' tw kk⟩
    exact hx G' H' cn s2 R' hc
theorem upd_comm {H : Hp} {p q : Addr} {o u : HO} (h : p ≠ q) : upd (upd H p o) q u = upd (upd H q u) p o := by
  funext a
  by_cases ha : a = p
  · subst ha
    rw [upd_ne h, upd_same, upd_same]
  · by_cases hb : a = q
    · subst hb
      rw [upd_same, upd_ne ha, upd_same]
    · rw [upd_ne hb, upd_ne ha, upd_ne ha, upd_ne hb]
section
variable {c : Cxt} {G H : Hp} {env : EnvD} {s : S} {σ : L2.St}
theorem Rel.apartH {q : Addr} {o : HO} (R : Rel c G env s σ H) (h : c.H0 q = some o) : Apart env σ (.ref q) := fun j us h1 h2 => by
  obtain ⟨w, n1, q', us', rfl, n3, n4, _⟩ := R.owns j us h1
  rw [n1] at h2
  cases h2
  rw [h] at n4
  cases n4
theorem Rel.mutH {A : Hp} {q : Addr} {vs ws : List V} (R : Rel (c.h0 (upd A q (.lst vs))) G env s σ H) (hA : A q = none) (hg : G q = none) (ha : c.a0 ≠ some q) : Rel (c.h0 (upd A q (.lst ws))) G env s σ (upd H q (.lst ws)) := by
  have hl : H q = some (.lst vs) := R.keep q _ (show upd A q (.lst vs) q = _ from upd_same) ha (fun _ z => by cases z)
  have ap : Apart env σ (.ref q) := R.apartH (o := .lst vs) (show upd A q (.lst vs) q = _ from upd_same)
  have R9 : Rel (c.h0 A) G env s σ H := Rel.unhide (c := c.h0 A) (o := .lst vs) hA R
  have R10 : Rel (c.h0 A) G env s σ (upd H q (.lst ws)) :=
    { R9 with ex := R9.ex.mut hg
              st := fun a h1 => (by
                obtain ⟨m1, y, z, m2, m3⟩ := R9.st a h1
                exact ⟨m1, y, z, m2, by rw [upd_ne (fun z => ha (by rw [← z]; exact h1))]; exact m3⟩)
              keep := fun p o h1 h2 h3 => (by
                have h1' : A p = some o := h1
                rw [upd_ne (fun z => by rw [z, hA] at h1'; cases h1')]
                exact R9.keep p o h1 h2 h3)
              kn := fun p hp => (by
                by_cases hb : p = q
                · rw [hb]; exact hA
                · rw [upd_ne hb] at hp; exact R9.kn p hp)
              tab := Tabs.updL R9.tab hl
              owns := fun i es hi => (by
                obtain ⟨w, n1, p, us, rfl, n3, n4, n5, n6, n7⟩ := R9.owns i es hi
                have hb : p ≠ q := fun z => ap i es hi (by rw [n1, z])
                exact ⟨_, n1, p, us, rfl, n3, n4, n5, by rw [upd_ne hb]; exact n6, n7⟩) }
  exact Rel.hide (c := c.h0 A) R10 upd_same hg hA ap
end
def ToldR (c : Cxt) (G H : Hp) (env : EnvD) (s : S) (σ : L2.St) (i n1 n2 : Nat) : Prop := ∃ p q1 q2 vs ws, σ[i]? = some (some (.ref p)) ∧ SqT c.K G p [.ref q1, .ref q2] ∧ q1 ≠ q2 ∧ vs.length = n1 ∧ ws.length = n2 ∧ c.H0 q1 = none ∧ c.H0 q2 = none ∧ c.a0 ≠ some q1 ∧ c.a0 ≠ some q2 ∧ c.G0 q1 = none ∧ c.G0 q2 = none ∧
  Rel (c.h0 (upd (upd c.H0 q1 (.lst vs)) q2 (.lst ws))) G env s σ H
abbrev FOp := Nat → Nat → EnvD → S → (Nat → Nat → EnvD → S → Prop) → Prop
def DOp (c : Cxt) (i : Nat) (t : TS) (f : FOp) : Prop := ∀ (G : Hp) (env : EnvD) (s : S) (σ : L2.St) (H : Hp) (n1 n2 : Nat) (k : Nat → Nat → EnvD → S → Prop) (E : Ends), ToldR c G H env s σ i n1 n2 → f n1 n2 env s k →
  (∀ G' H' env' s' m1 m2, ToldR c G' H' env' s' σ i m1 m2 → Ex G G' → k m1 m2 env' s' → E.nx σ H') → t E σ H
def wOApp (b : Bool) (fa : FE) : FOp := fun n1 n2 env s k => (n1 < sizeLine ∧ n2 < sizeLine) ∧ fa env s fun _ env1 s1 => if b = true then k n1 (n2 + 1) env1 s1 else k (n1 + 1) n2 env1 s1
def wOClr (b : Bool) : FOp := fun n1 n2 env s k => if b = true then k n1 0 env s else k 0 n2 env s
section
variable {c : Cxt} {i : Nat}
theorem ToldR.sw {G H : Hp} {env : EnvD} {s : S} {σ : L2.St} {p q1 q2 : Addr} {vs ws : List V} (hne : q1 ≠ q2) (R : Rel (c.h0 (upd (upd c.H0 q1 (.lst vs)) q2 (.lst ws))) G env s σ H) : Rel (c.h0 (upd (upd c.H0 q2 (.lst ws)) q1 (.lst vs))) G env s σ H := by
  rw [upd_comm hne] at R
  exact R
theorem ToldR.at1 {G H : Hp} {env : EnvD} {s : S} {σ : L2.St} {q1 q2 : Addr} {vs ws : List V} (hne : q1 ≠ q2) (a : c.a0 ≠ some q1) (g : c.G0 q1 = none) (R : Rel (c.h0 (upd (upd c.H0 q1 (.lst vs)) q2 (.lst ws))) G env s σ H) : H q1 = some (.lst vs) ∧ G q1 = none := by
  have e : upd (upd c.H0 q1 (.lst vs)) q2 (.lst ws) q1 = some (.lst vs) := by rw [upd_ne hne, upd_same]
  exact ⟨R.keep q1 _ e a (fun _ z => by cases z), R.gnew q1 vs e g⟩
theorem ToldR.at2 {G H : Hp} {env : EnvD} {s : S} {σ : L2.St} {q1 q2 : Addr} {vs ws : List V} (a : c.a0 ≠ some q2) (g : c.G0 q2 = none) (R : Rel (c.h0 (upd (upd c.H0 q1 (.lst vs)) q2 (.lst ws))) G env s σ H) : H q2 = some (.lst ws) ∧ G q2 = none := by
  have e : upd (upd c.H0 q1 (.lst vs)) q2 (.lst ws) q2 = some (.lst ws) := upd_same
  exact ⟨R.keep q2 _ e a (fun _ z => by cases z), R.gnew q2 ws e g⟩
theorem do_app0 {ta : TE} {fa : FE} (h : ∀ H0, DE (c.h0 H0) ta fa) : DOp c i (tDrop (tBM c.K "list" rAppend (tOp (rIx c.K) (tVar i) (tC (.int 0))) (tCons ta tNil))) (wOApp false fa) := by
  intro G env s σ H n1 n2 k E T hf q
  obtain ⟨p, q1, q2, vs, ws, hs, hp, hne, rfl, rfl, a1, a2, a3, a4, a5, a6, R⟩ := T
  obtain ⟨⟨z1, z2⟩, hf⟩ := hf
  have x1 := ToldR.at1 hne a3 a5 R
  refine ⟨.ref p, hs, .inr (.inl ⟨p, _, 0, .ref q1, rfl, rfl, Evl.ex_t R.ex hp, rfl, .inl ⟨rfl, vs, Evl.sq_of x1.1⟩, ?_⟩)⟩
  refine h _ G env s σ H _ _ R hf fun G1 H1 v r env1 s1 R1 e1 rv1 k1 => ?_
  obtain ⟨y1, y2⟩ := ToldR.at1 hne a3 a5 R1
  refine ⟨q1, vs, v, rfl, rfl, y1, z1, q G1 _ env1 s1 (vs.length + 1) ws.length ⟨p, q1, q2, vs ++ [v], ws, hs, Evl.ex_t e1 hp, hne, by simp, rfl, a1, a2, a3, a4, a5, a6, ?_⟩ e1 k1⟩
  have R2 := ToldR.sw (p := p) hne R1
  have R3 := Rel.mutH (ws := vs ++ [v]) R2 (by rw [upd_ne hne]; exact a1) y2 a3
  rw [upd_comm hne]
  exact R3
theorem do_app1 {ta : TE} {fa : FE} (h : ∀ H0, DE (c.h0 H0) ta fa) : DOp c i (tDrop (tBM c.K "list" rAppend (tOp (rIx c.K) (tVar i) (tC (.int 1))) (tCons ta tNil))) (wOApp true fa) := by
  intro G env s σ H n1 n2 k E T hf q
  obtain ⟨p, q1, q2, vs, ws, hs, hp, hne, rfl, rfl, a1, a2, a3, a4, a5, a6, R⟩ := T
  obtain ⟨⟨z1, z2⟩, hf⟩ := hf
  have x1 := ToldR.at2 a4 a6 R
  refine ⟨.ref p, hs, .inr (.inl ⟨p, _, 1, .ref q2, rfl, rfl, Evl.ex_t R.ex hp, rfl, .inl ⟨rfl, ws, Evl.sq_of x1.1⟩, ?_⟩)⟩
  refine h _ G env s σ H _ _ R hf fun G1 H1 v r env1 s1 R1 e1 rv1 k1 => ?_
  obtain ⟨y1, y2⟩ := ToldR.at2 a4 a6 R1
  refine ⟨q2, ws, v, rfl, rfl, y1, z2, q G1 _ env1 s1 vs.length (ws.length + 1) ⟨p, q1, q2, vs, ws ++ [v], hs, Evl.ex_t e1 hp, hne, rfl, by simp, a1, a2, a3, a4, a5, a6, ?_⟩ e1 k1⟩
  exact Rel.mutH (ws := ws ++ [v]) R1 (by rw [upd_ne (Ne.symm hne)]; exact a2) y2 a4
theorem do_clr0 : DOp c i (tDrop (tBM0 c.K "list" rClearL (tOp (rIx c.K) (tVar i) (tC (.int 0))))) (wOClr false) := by
  intro G env s σ H n1 n2 k E T hf q
  obtain ⟨p, q1, q2, vs, ws, hs, hp, hne, rfl, rfl, a1, a2, a3, a4, a5, a6, R⟩ := T
  obtain ⟨y1, y2⟩ := ToldR.at1 hne a3 a5 R
  refine ⟨.ref p, hs, .inr (.inl ⟨p, _, 0, .ref q1, rfl, rfl, Evl.ex_t R.ex hp, rfl, .inl ⟨rfl, vs, Evl.sq_of y1⟩, q1, vs, rfl, rfl, y1, q G _ env s 0 ws.length ⟨p, q1, q2, [], ws, hs, hp, hne, rfl, rfl, a1, a2, a3, a4, a5, a6, ?_⟩ (Ex.refl G) hf⟩)⟩
  have R3 := Rel.mutH (ws := []) (ToldR.sw (p := p) hne R) (by rw [upd_ne hne]; exact a1) y2 a3
  rw [upd_comm hne]
  exact R3
theorem do_clr1 : DOp c i (tDrop (tBM0 c.K "list" rClearL (tOp (rIx c.K) (tVar i) (tC (.int 1))))) (wOClr true) := by
  intro G env s σ H n1 n2 k E T hf q
  obtain ⟨p, q1, q2, vs, ws, hs, hp, hne, rfl, rfl, a1, a2, a3, a4, a5, a6, R⟩ := T
  obtain ⟨y1, y2⟩ := ToldR.at2 a4 a6 R
  refine ⟨.ref p, hs, .inr (.inl ⟨p, _, 1, .ref q2, rfl, rfl, Evl.ex_t R.ex hp, rfl, .inl ⟨rfl, ws, Evl.sq_of y1⟩, q2, ws, rfl, rfl, y1, q G _ env s vs.length 0 ⟨p, q1, q2, vs, [], hs, hp, hne, rfl, rfl, a1, a2, a3, a4, a5, a6, ?_⟩ (Ex.refl G) hf⟩)⟩
  exact Rel.mutH (ws := []) R (by rw [upd_ne (Ne.symm hne)]; exact a2) y2 a4
end
def flatOw : EnvD → Prop
  | [] => True
  | x :: r => (match x with | .own ds => flatL ds | _ => True) ∧ flatOw r
theorem flatOw_at : ∀ {env : EnvD} {i : Nat} {ds : List D}, flatOw env → env[i]? = some (.own ds) → flatL ds
  | [], _, _, _, h => by simp at h
  | x :: r, 0, ds, f, h => by
    simp at h
    subst h
    exact f.1
  | x :: r, i + 1, ds, f, h => flatOw_at (env := r) (i := i) f.2 (by simpa using h)
abbrev FTl := Nat → Nat → FS
def DTl (c : Cxt) (i : Nat) (t : TS) (f : FTl) : Prop := ∀ (G : Hp) (env : EnvD) (s : S) (σ : L2.St) (H : Hp) (n1 n2 : Nat) (k : Fl → Prop) (E : Ends), ToldR c G H env s σ i n1 n2 → f n1 n2 env s k → DEnd c G k E → t E σ H
def wTlEnd (f : FS) : FTl := fun _ _ => f
def wTlOp (fo : FOp) (fr : FTl) : FTl := fun n1 n2 env s k => fo n1 n2 env s fun m1 m2 env1 s1 => fr m1 m2 env1 s1 k
theorem dtl_end {c : Cxt} {i : Nat} {t : TS} {f : FS} (h : DS c t f) : DTl c i t (wTlEnd f) := by
  intro G env s σ H n1 n2 k E T hf q
  obtain ⟨p', r1, r2, us, us', t1, t2, t3, t4, t5, t6, t7, t8, t9, t10, t11, R8⟩ := T
  have R9 : Rel (c.h0 (upd c.H0 r1 (.lst us))) G env s σ H := Rel.unhide (c := c.h0 (upd c.H0 r1 (.lst us))) (p := r2) (by show upd c.H0 r1 _ r2 = none; rw [upd_ne (Ne.symm t3)]; exact t7) R8
  exact h G env s σ H k E (R9.unhide t6) hf q
theorem dtl_op {c : Cxt} {i : Nat} {to tr : TS} {fo : FOp} {fr : FTl} (ho : DOp c i to fo) (h : DTl c i tr fr) : DTl c i (tSeq to tr) (wTlOp fo fr) := by
  intro G env s σ H n1 n2 k E T hf q
  exact ho G env s σ H n1 n2 _ { E with nx := tr E } T hf fun G' H' env' s' m1 m2 T' e kk => h G' env' s' σ H' m1 m2 k E T' kk (q.mono e)
def toldBK (k : Fl → Prop) : Fl → Prop := fun fl => match fl with
  | .rt r s => k (.rt r s)
  | _ => False
def wTold (i : Nat) (fT : FW) (fB : FT) (fb : FS) (fr : FTl) : FS := fun env s k => fT env s fun ds es env1 s1 => fB (env1.set i (.val (.tup [.lst ds, .lst es]))) s1 fun b env2 s2 =>
  if b = true then fb env2 s2 (toldBK k) else (at_ (env1.set i (.val (.tup [.lst ds, .lst es]))) i = .val (.tup [.lst ds, .lst es]) ∧ env2 = env1.set i (.val (.tup [.lst ds, .lst es])) ∧ flatOw (env1.set i .no)) ∧ fr ds.length es.length (env1.set i .no) s2 k
theorem noL_none {G1 G' : Hp} {p : Addr} (h1 : G1 p = none) (h2 : ∀ o, G' p = some o → ∃ ws, o = .lst ws) : noL G1 G' p = none := by
  unfold noL
  rw [h1]
  cases e : G' p with
  | none => rfl
  | some o =>
    obtain ⟨ws, rfl⟩ := h2 o e
    rfl
theorem noL_inv {G1 G' : Hp} {p : Addr} {o : HO} (hp : noL G1 G' p = some o) : G1 p = some o ∨ (G1 p = none ∧ G' p = some o ∧ ∀ ws, o ≠ .lst ws) := by
  unfold noL at hp
  cases e : G1 p with
  | some u => rw [e] at hp; exact .inl hp
  | none =>
    rw [e] at hp
    refine .inr ⟨rfl, ?_⟩
    cases e2 : G' p with
    | none => rw [e2] at hp; cases hp
    | some u =>
      rw [e2] at hp
      cases u <;> first | (cases hp; done) | (cases hp; exact ⟨rfl, fun _ z => by cases z⟩)
theorem noL_ex {G1 G' : Hp} : Ex G1 (noL G1 G') := fun p o hp => by
  unfold noL
  rw [hp]
theorem noL_le {G1 G' : Hp} (e : Ex G1 G') : Ex (noL G1 G') G' := fun p o hp => by
  rcases noL_inv hp with z | ⟨_, z, _⟩
  · exact e _ _ z
  · exact z
theorem noL_t {K : PySem.W.Frag} {G1 G' : Hp} (e : Ex G1 G') (p : Addr) (vs : List V) (z : SqT K G' p vs) : SqT K (noL G1 G') p vs := by
  rcases z with z | z
  · have mv : ∀ o, G' p = some o → (∀ ws, o ≠ .lst ws) → noL G1 G' p = some o := fun o h n => by
      cases e1 : G1 p with
      | some u =>
        have := e _ _ e1
        rw [h] at this
        cases this
        exact noL_ex _ _ e1
      | none =>
        unfold noL
        rw [e1, h]
        cases o <;> first | rfl | exact absurd rfl (n _)
    rcases z with z | ⟨o, z⟩
    · exact .inl (.inl (mv _ z fun _ z => by cases z))
    · exact .inl (.inr ⟨o, mv _ z fun _ z => by cases z⟩)
  · exact .inr z
theorem ds_told {c : Cxt} {i : Nat} {te : TE} {fT : FW} {tt : TT} {fB : FT} {tb tr : TS} {fb : FS} {fr : FTl} (hW : DW c te fT) (hB : DT c tt fB) (hb : DS c tb fb) (hr : DTl c i tr fr) :
    DS c (tSeq (tAsg te (gName i)) (tSeq (tIfS tt tb (fun E σ H => E.nx σ H)) tr)) (wTold i fT fB fb fr) := by
  intro G env s σ H k E R hf q
  refine hW G env s σ H _ _ R hf fun G1 H1 v ds es env1 s1 R1 e1 tw k1 => ?_
  obtain ⟨p, q1, q2, vs, ws, rfl, hp, hne, ⟨a1, a2, a3, a4, a5, a6⟩, ⟨b1, b2, b3, b4, b5, b6⟩, R2, e2, rp⟩ := tw.known R1
  have R3 := R2.set (r := .val (.tup [.lst ds, .lst es])) rp i
  show tIfS tt tb (fun E σ H => E.nx σ H) { E with nx := tr E } (σ.set i (some (.ref p))) H1
  refine hB _ _ s1 (σ.set i (some (.ref p))) H1 _ _ R3 k1 fun G4 H4 b env4 s4 R4 e4 k4 => ?_
  cases b with
  | true =>
    exact hb G4 env4 s4 _ H4 _ _ R4 k4 ⟨fun _ _ _ _ _ _ _ z => z.elim, fun G' H' s' v r R' e rv z => q.rt G' H' s' v r R' (((e1.trans e2).trans e4).trans e) rv z, fun _ _ _ _ _ _ _ z => z.elim, fun _ _ _ _ _ _ _ z => z.elim⟩
  | false =>
    obtain ⟨⟨hat, rfl, hfl⟩, k5⟩ : (at_ (env1.set i (.val (.tup [.lst ds, .lst es]))) i = .val (.tup [.lst ds, .lst es]) ∧ env4 = env1.set i (.val (.tup [.lst ds, .lst es])) ∧ flatOw (env1.set i .no)) ∧ _ := k4
    have il : i < env1.length := by
      have := (List.getElem?_eq_some_iff.mp (at_val hat (by simp))).1
      rwa [List.length_set] at this
    have ilσ : i < σ.length := by rw [← R1.len]; exact il
    have hsi : (σ.set i (some (.ref p)))[i]? = some (some (V.ref p)) := List.getElem?_set_self ilσ
    have e14 : Ex G1 G4 := e2.trans e4
    have get : ∀ {j : Nat} {x : Sl}, (env1.set i .no)[j]? = some x → x ≠ .no → j ≠ i ∧ env1[j]? = some x := fun {j x} h hx => by
      by_cases hb : i = j
      · subst hb
        rw [List.getElem?_set_self il] at h
        cases h
        exact absurd rfl hx
      · rw [List.getElem?_set_ne hb] at h
        exact ⟨fun e => hb e.symm, h⟩
    have toV : ∀ {j : Nat} {x : Sl}, j ≠ i → env1[j]? = some x → (env1.set i (.val (.tup [.lst ds, .lst es])))[j]? = some x := fun {j x} hj h => by
      rw [List.getElem?_set_ne (Ne.symm hj)]
      exact h
    have sg : ∀ {j : Nat}, j ≠ i → (σ.set i (some (V.ref p)))[j]? = σ[j]? := fun {j} hj => List.getElem?_set_ne (Ne.symm hj)
    have g1 : G4 q1 = some (.lst vs) := e4 _ _ (by rw [upd_ne hne, upd_same])
    have g2 : G4 q2 = some (.lst ws) := e4 _ _ upd_same
    have R5 : Rel c (noL G1 G4) (env1.set i .no) s4 (σ.set i (some (.ref p))) H4 := by
      refine { ex := (noL_le e14).trans R4.ex, st := fun a ha => ⟨noL_none (R1.st a ha).1 (fun o z => by rw [(R4.st a ha).1] at z; cases z), (R4.st a ha).2⟩, sn := R4.sn, keep := R4.keep, kn := R4.kn, h0n := R4.h0n, tab := R4.tab,
               gnew := fun a us h1 h2 => noL_none (R1.gnew a us h1 h2) (fun o z => by rw [R4.gnew a us h1 h2] at z; cases z), gx := R1.gx.trans noL_ex, gtb := fun a ps h => ?_, len := (by rw [List.length_set, List.length_set]; exact R1.len), vals := fun j d hj => ?_, owns := fun j us hj => ?_, dist := fun j l us us' v h1 h2 h3 h4 => ?_ }
      · rcases noL_inv h with z | ⟨_, z, _⟩
        · exact R1.gtb _ _ z
        · exact R4.gtb _ _ z
      · obtain ⟨n, hj⟩ := get hj (by simp)
        obtain ⟨v, m1, m2⟩ := R1.vals j d hj
        exact ⟨v, by rw [sg n]; exact m1, Rep.mono noL_ex d m2⟩
      · have hfu := flatOw_at hfl hj
        obtain ⟨n, hj⟩ := get hj (by simp)
        obtain ⟨v, m1, r, us', rfl, m3, m4, m5, m6, m7⟩ := R4.owns j us (toV n hj)
        refine ⟨_, m1, r, us', rfl, noL_none ?_ (fun o z => by rw [m3] at z; cases z), m4, m5, m6, repL_flat (noL_t e14) us hfu m7⟩
        cases z : G1 r with
        | none => rfl
        | some o => have := e14 _ _ z; rw [m3] at this; cases this
      · obtain ⟨n1, h1⟩ := get h1 (by simp)
        obtain ⟨n2, h2⟩ := get h2 (by simp)
        exact R4.dist j l us us' v (toV n1 h1) (toV n2 h2) h3 h4
    have ap : ∀ {r : Addr}, Apart env1 σ (.ref r) → Apart (env1.set i .no) (σ.set i (some (.ref p))) (.ref r) := fun {r} ha j us h1 h2 => by
      obtain ⟨n, h1⟩ := get h1 (by simp)
      rw [sg n] at h2
      exact ha j us h1 h2
    have R6 := R5.hide (R4.ex _ _ g1) (noL_none a1 fun o z => by rw [g1] at z; cases z; exact ⟨_, rfl⟩) a2 (ap a6)
    have R7 := Rel.hide (c := c.h0 (upd c.H0 q1 (.lst vs))) (p := q2) (o := .lst ws) R6 (R4.ex _ _ g2) (noL_none b1 fun o z => by rw [g2] at z; cases z; exact ⟨_, rfl⟩) (by show upd c.H0 q1 _ q2 = none; rw [upd_ne (Ne.symm hne)]; exact b2) (ap b6)
    have c0 : ∀ {r : Addr}, G1 r = none → c.G0 r = none := fun {r} h => by
      cases z : c.G0 r with
      | none => rfl
      | some o => have := R1.gx _ _ z; rw [h] at this; cases this
    exact hr _ _ s4 _ H4 _ _ k E ⟨p, q1, q2, vs, ws, hsi, Evl.ex_t noL_ex hp, hne, RepL.length a5, RepL.length b5, a2, b2, a3, b3, c0 a1, c0 b1, R7⟩ k5 (q.mono (e1.trans noL_ex))
end DL
namespace DL
open PySem L2
theorem seqWK_nx' {g : FSW} {k : List D → List D → S → Prop} {e : EnvD} {s : S} (h : g e s k) : seqWK g k (.nx e s) := h
theorem wSeqW' {f : FS} {g : FSW} {env : EnvD} {s : S} {k : List D → List D → S → Prop} (h : f env s (seqWK g k)) : wSeqW f g env s k := h
abbrev KW := List D → List D → EnvD → S → Prop
def retWK (k : List D → List D → S → Prop) : KW := fun ds es _ s => k ds es s
theorem retWK_ap (k : List D → List D → S → Prop) (ds es : List D) (e : EnvD) (s : S) : retWK k ds es e s = k ds es s := rfl
theorem wRetW_C (f : FW) (env : EnvD) (s : S) (k : List D → List D → S → Prop) : wRetW f env s k = f env s (retWK k) := rfl
def tw2K (ds : List D) (k : KW) : KE := fun r e s => match r with
  | .own es => k ds es e s
  | _ => False
def twK (fb : FE) (k : KW) : KE := fun r e s => match r with
  | .own ds => fb e s (tw2K ds k)
  | _ => False
theorem tw2K_own (ds es : List D) (k : KW) (e : EnvD) (s : S) : tw2K ds k (.own es) e s = k ds es e s := rfl
theorem twK_own (fb : FE) (ds : List D) (k : KW) (e : EnvD) (s : S) : twK fb k (.own ds) e s = fb e s (tw2K ds k) := rfl
theorem wTw_C (fa fb : FE) (env : EnvD) (s : S) (k : KW) : wTw fa fb env s k = fa env s (twK fb k) := rfl
abbrev callWK (k : KW) (e : EnvD) : List D → List D → S → Prop := fun es fs s => k es fs e s
theorem callWK_ap (k : KW) (e : EnvD) (es fs : List D) (s : S) : callWK k e es fs s = k es fs e s := rfl
def argWK (k : KW) (F : FnW) (xq : Str → S → Prop) : KA := fun ds e s => F ds s (callWK k e) xq
theorem argWK_ap (k : KW) (F : FnW) (xq : Str → S → Prop) (ds : List D) (e : EnvD) (s : S) : argWK k F xq ds e s = F ds s (callWK k e) xq := rfl
theorem wCallW_C (k : KW) (F : FnW) (xq : Str → S → Prop) (fa : FA) (env : EnvD) (s : S) : wCallW F xq fa env s k = fa env s (argWK k F xq) := rfl
def vwK (ke : KE) : KW := fun ds es e s => ke (.val (.tup [.lst ds, .lst es])) e s
theorem vwK_ap (ke : KE) (ds es : List D) (e : EnvD) (s : S) : vwK ke ds es e s = ke (.val (.tup [.lst ds, .lst es])) e s := rfl
theorem wVW_C (ke : KE) (f : FW) (env : EnvD) (s : S) : wVW f env s ke = f env s (vwK ke) := rfl
def iw0K (ke : KE) : KW := fun ds _ e s => ke (.own ds) e s
theorem iw0K_ap (ke : KE) (ds es : List D) (e : EnvD) (s : S) : iw0K ke ds es e s = ke (.own ds) e s := rfl
theorem wIW0_C (ke : KE) (f : FW) (env : EnvD) (s : S) : wIW0 f env s ke = f env s (iw0K ke) := rfl
def iw1K (ke : KE) : KW := fun _ es e s => ke (.own es) e s
theorem iw1K_ap (ke : KE) (ds es : List D) (e : EnvD) (s : S) : iw1K ke ds es e s = ke (.own es) e s := rfl
theorem wIW1_C (ke : KE) (f : FW) (env : EnvD) (s : S) : wIW1 f env s ke = f env s (iw1K ke) := rfl
def told2K (i : Nat) (fb : FS) (fr : FTl) (k : Fl → Prop) (ds es : List D) (env1 : EnvD) : Bool → EnvD → S → Prop := fun b env2 s2 =>
  if b = true then fb env2 s2 (toldBK k) else (at_ (env1.set i (.val (.tup [.lst ds, .lst es]))) i = .val (.tup [.lst ds, .lst es]) ∧ env2 = env1.set i (.val (.tup [.lst ds, .lst es])) ∧ flatOw (env1.set i .no)) ∧ fr ds.length es.length (env1.set i .no) s2 k
theorem told2K_f (i : Nat) (fb : FS) (fr : FTl) (k : Fl → Prop) (ds es : List D) (env1 env2 : EnvD) (s : S) : told2K i fb fr k ds es env1 false env2 s = ((at_ (env1.set i (.val (.tup [.lst ds, .lst es]))) i = .val (.tup [.lst ds, .lst es]) ∧ env2 = env1.set i (.val (.tup [.lst ds, .lst es])) ∧ flatOw (env1.set i .no)) ∧ fr ds.length es.length (env1.set i .no) s k) := by
  unfold told2K
  rw [if_neg (by decide)]
def toldK (i : Nat) (fB : FT) (fb : FS) (fr : FTl) (k : Fl → Prop) : KW := fun ds es e s => fB (e.set i (.val (.tup [.lst ds, .lst es]))) s (told2K i fb fr k ds es e)
theorem toldK_ap (i : Nat) (fB : FT) (fb : FS) (fr : FTl) (k : Fl → Prop) (ds es : List D) (e : EnvD) (s : S) : toldK i fB fb fr k ds es e s = fB (e.set i (.val (.tup [.lst ds, .lst es]))) s (told2K i fb fr k ds es e) := rfl
theorem wTold_C (i : Nat) (fT : FW) (fB : FT) (fb : FS) (fr : FTl) (env : EnvD) (s : S) (k : Fl → Prop) : wTold i fT fB fb fr env s k = fT env s (toldK i fB fb fr k) := rfl
theorem flatL_frs : ∀ l : List Rat, flatL (l.map fr)
  | [] => by simp [flatL]
  | q :: l => by
    simp only [List.map_cons, flatL]
    exact ⟨by simp [fr, flatD, flatL], flatL_frs l⟩
end DL
set_option Elab.async false
set_option linter.all false
set_option maxRecDepth 100000
set_option maxHeartbeats 2000000
namespace DL
open PySem PySem.Spec PyProof.Rows L2 LamX
open Evl (Ex)
def DWs (K : PySem.W.Frag) (T : List (Addr × Str)) (tb : TE) (fe : FW) : Prop := ∀ c : Cxt, c.K = K → c.T = T → DW c tb fe
def liOfW (X : Cx) (T : List (Addr × Str)) (m : Nat) (fes : Nat → FW) : LamI := fun n f a o u => ∃ (d : LamD) (tb : TE), LamOk X m d tb ∧ DWs X.K T tb (fes n) ∧ o = FunO f (X.env.qual ++ "<lambda>") d.params d.body d.scope d.cl a ∧ u = CodeO a (X.env.qual ++ "<lambda>")
abbrev ThW := S → (List D → List D → S → Prop) → Prop
def wCloW (LI : LamI) (ths : Nat → ThW) (i : Nat) : FW := fun env s k => ∃ n f a o u, at_ env i = .val (.fn f a o u) ∧ LI n f a o u ∧ ths n s (fun es fs s' => k es fs env s')
def ThOkW (c : Cxt) (G0 : Hp) (σ : L2.St) (tb : TE) (th : ThW) : Prop := ∀ (HZ G : Hp) (s : S) (k : List D → List D → S → Prop) (Q : VK), Ex G0 G → Rel (c.inn HZ G) G [] s [] HZ → th s k →
  (∀ G' H' v es fs s', Rel (c.inn HZ G) G' [] s' [] H' → TW (c.inn HZ G) G' H' [] [] v es fs → k es fs s' → Q v H') → tb σ HZ Q
def tCloW (X : Cx) (T : List (Addr × Str)) (m : Nat) (fes : Nat → FW) (i : Nat) (σ : L2.St) : TE := fun σZ HZ Q => ∃ (n : Nat) (d : LamD) (tb : TE) (f a : Addr), LamOk X m d tb ∧ DWs X.K T tb (fes n) ∧ σZ[i]? = some (some (.ref f)) ∧
  HZ f = some (FunO f (X.env.qual ++ "<lambda>") d.params d.body d.scope d.cl a) ∧ HZ a = some (CodeO a (X.env.qual ++ "<lambda>")) ∧ tb σ HZ Q
theorem de_cloW {c : Cxt} {X : Cx} {σ : L2.St} {m : Nat} {fes : Nat → FW} {ths : Nat → ThW} {i : Nat} (ok : ∀ n tb, DWs X.K c.T tb (fes n) → ThOkW c c.G0 σ tb (ths n)) : DW c (tCloW X c.T m fes i σ) (wCloW (liOfW X c.T m fes) ths i) := by
  intro G env s σZ HZ k Q R hw qq
  obtain ⟨n, f, a, o, u, h0, hl, ht⟩ := hw
  obtain ⟨d, tb, hd, htb, rfl, rfl⟩ := hl
  obtain ⟨v, h1, h2⟩ := R.vals i _ (at_val h0 (by simp))
  simp only [Rep] at h2
  obtain ⟨rfl, g1, g2, _⟩ := h2
  refine ⟨n, d, tb, f, a, hd, htb, h1, R.ex _ _ g1, R.ex _ _ g2, ?_⟩
  exact ok n tb htb HZ G s _ Q R.gx R.inn ht fun G' H' v es fs s' R' tw kk => qq G' H' v es fs env s' (R.out R') R'.gx (tw.out R) kk
def lamThW (fe : FW) (caps : List Nat) (env : EnvD) : ThW := fun s k => fe (pick env caps (blank env)) s fun es fs _ s' => k es fs s'
theorem lam_okW {c : Cxt} {caps : List Nat} {fe : FW} {tb : TE} {G2 H1 : Hp} {env : EnvD} {s0 : S} {σ : L2.St} (R3 : Rel c G2 env s0 σ H1) (hv : noOwn env caps) (h : ∀ (H0 G0 : Hp), DW (c.inn H0 G0) tb fe) (c2 : Cxt) (hc2 : ∀ H0 G0, c2.inn H0 G0 = c.inn H0 G0) : ThOkW c2 G2 σ tb (lamThW fe caps env) := by
  intro HZ G s k Q e R ht q
  have R' : Rel (c.inn HZ G) G [] s [] HZ := by rw [← hc2]; exact R
  have no : ∀ (i : Nat) (ds : List D), (pick env caps (blank env))[i]? = some (.own ds) → False := fun i ds hi => by
    rcases pick_at hi with ⟨h1, h2⟩ | h1
    · exact noOwn_at hv h1 (at_val h2.symm (by simp))
    · have := blank_at h1; cases this
  have Rm : Rel (c.inn HZ G) G (pick env caps (blank env)) s σ HZ :=
    { R' with len := (by rw [pick_len, blank_len, ← R3.len])
              vals := fun i d hi => (by
                rcases pick_at hi with ⟨_, h2⟩ | h1
                · obtain ⟨v, a, b⟩ := R3.vals i d (at_val h2.symm (by simp))
                  exact ⟨v, a, Rep.mono e d b⟩
                · have := blank_at h1; cases this)
              owns := fun i ds hi => (no i ds hi).elim
              dist := fun i j ds es v hi _ _ _ => (no i ds hi).elim }
  refine h HZ G G _ s σ HZ _ Q Rm ht fun G' H' v es fs env' s' R2 e2 tw kk => ?_
  have Rb := R2.bare
  refine q G' H' v es fs s' (by rw [hc2]; exact Rb) ?_ kk
  rw [hc2]
  exact tw.bare
def TTcloW (K : PySem.W.Frag) (T : List (Addr × Str)) (F : (Nat → ThW) → Fn) (fes : Nat → FW) : List V → L2.St → Hp → VK → Prop := fun vs σ H Q =>
  ∃ (c : Cxt) (s0 : S) (ths : Nat → ThW) (ds : List D) (k : Sl → S → Prop), c.K = K ∧ c.T = T ∧ Rel c c.G0 [] s0 [] H ∧ RepL K c.G0 ds vs ∧ (∀ n tb, DWs K T tb (fes n) → ThOkW c c.G0 σ tb (ths n)) ∧ F ths ds s0 k (fun _ _ => False) ∧ ∀ G' H' v r s', Rel c G' [] s' [] H' → RV c G' H' [] [] v r → k r s' → Q v H'
def wCallCW (F : (Nat → ThW) → Fn) (fes : Nat → FW) (caps : List Nat) (fa : FA) : FE := fun env s k => fa env s fun ds env1 s1 => noOwn env1 caps ∧ F (fun n => lamThW (fes n) caps env1) ds s1 (fun r s2 => k r env1 s2) (fun _ _ => False)
theorem de_callCW {c : Cxt} {F : (Nat → ThW) → Fn} {fes : Nat → FW} {caps : List Nat} {ta : TA} {fa : FA} {m : Nat} (hl : ∀ ths ds s k xq, F ths ds s k xq → ds.length = m) (ha : DA c ta fa) :
    DE c (fun σ H Q => ta σ H fun vs H1 => vs.length = m ∧ TTcloW c.K c.T F fes vs σ H1 Q) (wCallCW F fes caps fa) := by
  intro G env s σ H k Q R hf qq
  refine ha G env s σ H _ _ R hf fun G1 H1 vs ds env1 s1 R1 e1 rl k1 => ?_
  obtain ⟨hn, k1⟩ := k1
  refine ⟨by rw [rl.length]; exact hl _ _ _ _ _ k1, c.inn H1 G1, s1, _, ds, _, rfl, rfl, R1.inn, rl, fun n tb h => lam_okW R1 hn (fun H0 G0 => h (c.inn H0 G0) rfl rfl) (c.inn H1 G1) (fun _ _ => rfl), k1, fun G' H' v r s' R' rv kk => ?_⟩
  exact qq G' H' v r env1 s' (R1.out R') (e1.trans R'.gx) (RV.out R1 R' rv) kk
theorem pe_cloDW {b : Book} {X : Cx} {T : List (Addr × Str)} {F : (Nat → ThW) → Fn} {fs : (Nat → ThW) → FS} {fes : Nat → FW} {st : Stmt} {x a : Str} {Ng ps : List Str} {k m i n : Nat} {e : Expr} {es : List Expr} {ta : TA} {p pos : Pos} (TX : Txt b X.K X.mg) (ii jj : Nat)
    (hdf : b.fn[ii]? = some ⟨(x, none), x, x, defArgs st, defBody st, defScope st, [], []⟩) (hgl : b.fa[jj]? = some (.glo x)) (Sg : FnScope Ng ps (defScope st))
    (hbind : ∀ (kV doc pm : Value) (an : Option Addr) (cdv ct : Value) (us : List Value), us.length = ps.length → bindArgs (PySem.W.fnOf x x (defArgs st) (defBody st) (defScope st) .none kV doc pm an cdv ct) ⟨us, []⟩ = pure (ps.zip us))
    (hF : ∀ ths ds s k xq, F ths ds s k xq → fs ths (start_ Ng ds) s (kBody k)) (hN : Ng[i]? = some a) (hv : Vis (defScope st) a) (hd : (a == ("__debug__" : Str)) = false) (hcd : (a == ("__classdict__" : Str)) = false) (hm : m + 1 ≤ k) (hn : ps.length = n) (hr : Room (k + 1) X.A) (ha : PA X (e :: es) ta)
    (hb : ∀ (g : Addr) (cdv : Value) (s : Shared) (H : Hp) (rd : TE), Room k (X.A.deeper (envOfC x (defScope st) s.heap.objs.size g cdv)) → (∀ p1 p2, PE (cxOf C8.CX0 X.prog X.w X.K X.mg X.base Ng x (defScope st) g cdv X.A X.stack s H C8.E0).nox (.Call (.Name a p1) [] [] p2) rd) →
      ∃ t, PSs (cxOf C8.CX0 X.prog X.w X.K X.mg X.base Ng x (defScope st) g cdv X.A X.stack s H C8.E0).nox (defBody st) t ∧ ∀ (c : Cxt) (ths : Nat → ThW), c.K = X.K → c.T = T → DW c rd (wCloW (liOfW X T m fes) ths i) → DS c t (fs ths))
    (hg : Gl X x := by rfl) (hdb : (x == ("__debug__" : Str)) = false := by decide) (he : starEach (e :: es) X.env = (false, eval e X.env) :: starEach es X.env := by rfl) (hpl : (backTo pos (starEach es X.env)).any (·.1) = false := by rfl) :
    PE X (.Call (.Name x p) (e :: es) [] pos) (fun σ H Q => ta σ H fun vs H1 => vs.length = n ∧ TTcloW X.K T F fes vs σ H1 Q) := by
  obtain ⟨fd, FD⟩ := TX.fun_ ii hdf
  have FD' : FunD X.K x x (defArgs st) (defBody st) (defScope st) [] [] (He.ga X.K x) fd := FD
  obtain ⟨oc, od, dV, kV, doc, pm, an, cdv, ct, osl, e', lk, hcdv, _, _⟩ := FD'.ex
  subst e'
  subst hn
  refine pe_callL (TT := TTcloW X.K T F fes) hg (TX.glo jj _ hgl) FD'.kp lk hcdv (FD'.bindsN (ps := ps) hbind) Sg hr ha (fun pins s σ H vs Q I hr _ tt => ?_) hdb he hpl
  obtain ⟨c, s0, ths, ds, kk, hK, hT, R, rl, hth, hf, hq⟩ := tt
  have tk : Takes ((cxOf C8.CX0 X.prog X.w X.K X.mg X.base Ng x (defScope st) (He.ga X.K x) cdv X.A X.stack s H C8.E0).tr [] fun _ _ => False) (fun _ _ _ _ => False) := fun u s' ⟨_, _, _, _, _, _, _, _, _, _, _, _, _, _, _, _, z⟩ => z.elim
  obtain ⟨t, h1, h2⟩ := hb (He.ga X.K x) cdv s H (tCloW X T m fes i σ) hr fun p1 p2 => ⟨fun pinsZ sZ σZ HZ QZ IZ h => by
    obtain ⟨n, d, tb, f, a', ⟨y1, y2, y3, y4⟩, _, z1, z2, z3, z4⟩ := h
    rw [y2] at z2
    exact (pe_actF (Eg := C8.E0) (E := C8.E0) (k := m) (xe := fun _ _ => False) (pn := []) (p1 := p1) (p2 := p2) I y1 y3 tk (fun _ _ _ _ z => z) (hr.mono hm) y4 hN hv hd hcd).run pinsZ sZ σZ HZ QZ IZ ⟨f, a', z1, z2, z3, z4⟩⟩
  subst hT
  refine ⟨t, h1, h2 c ths hK rfl (de_cloW (fun n tb h => hth n tb h)) c.G0 (start_ Ng ds) s0 (L2.start Ng vs) H (kBody kk) _ (rel_start R (by rw [hK]; exact rl)) (hF _ _ _ _ _ hf) ⟨fun G' H' env' s2 σ' R' e kk => ?_, fun G' H' s2 v r R' e rv kk => hq G' H' v r s2 R' rv kk, fun _ _ _ _ _ _ _ kk => kk.elim, fun _ _ _ _ _ _ _ kk => kk.elim⟩⟩
  exact hq G' H' .non (.val .non) s2 R'.bare (by simp only [RV, Rep]) kk
theorem li_ofW {X : Cx} {T : List (Addr × Str)} {m n : Nat} {fes : Nat → FW} {f a : Addr} {params : Arguments} {body : Expr} {scope : Scope} {tb : TE} (L : LamX.lamSB X.env.scope scope = true)
    (hbody : ∀ (A : Around) (outer : List Env) (s : Shared) (H : Hp) (f c' : Addr), Room m (A.deeper (LamX.lamEnv X scope s.heap.objs.size f c')) → PE (LamX.lamCx X A outer s H C8.E0 scope f c') body tb)
    (hd : DWs X.K T tb (fes n))
    (hbind2 : ∀ (q : Str) (cl : List (Str × Addr)) (pm cv ctv : Value), bindArgs (PySem.W.kla_fn "<lambda>" q params body scope cl pm cv ctv) ⟨[], []⟩ = pure [] := by intros; rfl) :
    liOfW X T m fes n f a (FunO f (X.env.qual ++ "<lambda>") params body scope (cloFrom X.env.cells scope.names []) a) (CodeO a (X.env.qual ++ "<lambda>")) :=
  ⟨⟨params, body, scope, cloFrom X.env.cells scope.names []⟩, tb, lamOk0 L hbody hbind2, hd, rfl, rfl⟩
def argCWK (ke : KE) (F : (Nat → ThW) → Fn) (fes : Nat → FW) (caps : List Nat) : KA := fun ds e s => noOwn e caps ∧ F (fun n => lamThW (fes n) caps e) ds s (callK ke e) (fun _ _ => False)
theorem argCWK_ap (ke : KE) (F : (Nat → ThW) → Fn) (fes : Nat → FW) (caps : List Nat) (ds : List D) (e : EnvD) (s : S) : argCWK ke F fes caps ds e s = (noOwn e caps ∧ F (fun n => lamThW (fes n) caps e) ds s (callK ke e) (fun _ _ => False)) := rfl
theorem wCallCW_C (ke : KE) (F : (Nat → ThW) → Fn) (fes : Nat → FW) (caps : List Nat) (fa : FA) (env : EnvD) (s : S) : wCallCW F fes caps fa env s ke = fa env s (argCWK ke F fes caps) := rfl
end DL
set_option Elab.async false
set_option linter.all false
set_option maxRecDepth 100000
set_option maxHeartbeats 4000000
namespace DL
open PySem PySem.Spec PyProof.Rows L2 LamX
open Evl (Ex)
def Inside (X X' : Cx) (pins : List (Addr × Obj)) (σ : L2.St) : Prop := ∀ (pins' : List (Addr × Obj)) (σ' : L2.St) (H' : Hp) (s' : Shared), Inv X' pins' σ' H' s' → Inv X pins σ H' s'
theorem lc_lam {X : Cx} {pins : List (Addr × Obj)} {s : Shared} {σ : L2.St} {H : Hp} {Q : VK} {elt tg iter : Expr} {ifs : List Expr} {scope : Scope} {own : List (Str × Nat)} {pos pos' : Pos} {wi : TI} {g : TG} {tt : TT} {te : TE} {use : Option (Value → Sem Unit)}
    (calm : X.calm = true) (nd : X.N.Nodup) (I : Inv X pins σ H s) (hi : PI X tg iter wi) (ok : BlkOk X.N X.env.scope scope own)
    (hg : ∀ (s : Shared) (H : Hp) (C : Addr) (cl : List (Str × Addr)) (fp : List Addr), PG (X.blk s H scope (compEnvC scope cl C X.env) fp) tg g)
    (ht : ∀ (s : Shared) (H : Hp) (C : Addr) (cl : List (Str × Addr)) (fp : List Addr), Inside X (X.blk s H scope (compEnvC scope cl C X.env) fp) pins σ → PTs (X.blk s H scope (compEnvC scope cl C X.env) fp) ifs tt)
    (he : ∀ (s : Shared) (H : Hp) (C : Addr) (cl : List (Str × Addr)) (fp : List Addr), Inside X (X.blk s H scope (compEnvC scope cl C X.env) fp) pins σ → PE (X.blk s H scope (compEnvC scope cl C X.env) fp) elt te)
    (hfold : ∀ x, foldedSetIterable iter X.env x = pure x) (h : tLc wi g tt te (own.map (·.2)) σ H Q) {Qf : Value → Shared → Prop}
    (fin : ∀ D C s' m H', Inv X pins σ H' s' → Q (.ref D) H' → s'.heap.Ns C m → FpOk X pins H' C → compPost (model X.prog X.w) X.A X.xe use Qf (.ref D) C (.ok .next) s') :
    wpAny (model X.prog X.w) X.A (comprehension (.ListComp elt [⟨tg, iter, ifs, 0⟩] scope pos) scope X.env pos' (newList []) false (eval iter X.env) use) Qf X.xe s := by
  have freeHas : ∀ y ∈ scope.names, y.2 = .free → ∃ c, X.env.cells.lookup y.1 = some c := by
    intro y hy e
    exact (ok.free y hy e).elim (fun k => I.ok.has _ (.inl k)) (fun k => I.ok.has _ (.inr k))
  refine wpAny_comprehension_free (use := use) rfl hfold (closure_ok freeHas) ok.kind (fun y hy e => by rw [ok.uniq y hy, e]) (thn (hi.run pins s σ H _ I h) fun _ _ hx => thn hx fun _ t2 ht2 => ?_)
  obtain ⟨itr, fp, tn, J, Ha, rfl, Ia, T, sta, fpa, q⟩ := ht2
  refine wpAny_newObj_type (newEnv_comp ?_) (by show 0 ≤ sizeLine; decide)
  obtain ⟨Dl, hDl⟩ : ∃ Dl, Dl = t2.heap.objs.size := ⟨_, rfl⟩
  rw [← hDl]
  have freshD : Ha Dl = none := Ia.hok.fresh (by rw [hDl]; exact Nat.le_refl _)
  obtain ⟨W, ⟨m0, w0⟩, step⟩ := q Dl freshD
  generalize etb : ({ t2 with heap := t2.heap.push { cls := .type "list", data := .seq ([] : List Value).toArray } } : Shared) = tb
  have Ib : Inv X pins σ (upd Ha Dl (.lst [])) tb := by
    rw [← etb]
    refine Ia.laid (t' := t2.toks) (fun b o e => Heap.get?_push_of_some _ e) (by rw [hDl]; exact Nat.le_refl _) ⟨Nat.zero_le _, [], 0, .nil, ?_⟩
    rw [hDl]
    exact Heap.get?_push_size _ rfl
  have below : ∀ b ∈ fp, b < t2.heap.objs.size := by
    intro b hb'
    obtain ⟨o, e, _⟩ := T.obj _ _ sta b hb'
    exact Heap.lt_size e
  have fpb : ∀ b ∈ fp, FpOk X pins (upd Ha Dl (.lst [])) b ∧ b < tb.heap.objs.size := by
    intro b hb'
    have lt := below b hb'
    refine ⟨⟨?_, (fpa b hb').2⟩, ?_⟩
    · rw [upd_ne (by rw [hDl]; exact Nat.ne_of_lt lt)]
      exact (fpa b hb').1
    · rw [← etb]
      show b < (t2.heap.push _).objs.size
      rw [Heap.size_push]
      exact Nat.lt_succ_of_lt lt
  have stb : tn 0 tb.heap := T.keep _ _ _ sta fun _ _ _ e => by
    rw [← etb]
    exact Heap.get?_push_of_some _ e
  have nofp : ∀ b ∈ fp, upd Ha Dl (.lst []) b = none := fun b hb' => (fpb b hb').1.1
  obtain ⟨cl, hcl⟩ : ∃ cl, cl = cellsFrom (tb.heap.objs.size + 1) scope.names (cloFrom X.env.cells scope.names []) := ⟨_, rfl⟩
  obtain ⟨ce, hce⟩ : ∃ ce, ce = compEnvC scope cl tb.heap.objs.size X.env := ⟨_, rfl⟩
  obtain ⟨tc, htc⟩ : ∃ tc : Shared, tc = { tb with heap := pushCells (tb.heap.push { cls := .type "dict", data := .dict #[] }) scope.names } := ⟨_, rfl⟩
  have Ic : Inv (X.blk tb (upd Ha Dl (.lst [])) scope ce fp) [] (wipe σ (own.map (·.2))) (upd Ha Dl (.lst [])) tc := by
    rw [hce, hcl, htc]
    exact block_start Ib ok nd fpb
  have inside : Inside X (X.blk tb (upd Ha Dl (.lst [])) scope ce fp) pins σ := by
    intro pins' σ' H' s' I'
    exact Ib.call' (ch := fp) I'.os I'.base I'.hok I'.bare fun b hb' => ⟨(fpb b hb').1.2.2.2.1, (fpb b hb').1.2.1, (fpb b hb').1.2.2.2.2.1, (fpb b hb').1.2.2.2.2.2⟩
  have pg : PG (X.blk tb (upd Ha Dl (.lst [])) scope ce fp) tg g := by rw [hce]; exact hg ..
  have pt : PTs (X.blk tb (upd Ha Dl (.lst [])) scope ce fp) ifs tt := by rw [hce] at inside ⊢; exact ht _ _ _ _ _ inside
  have pe : PE (X.blk tb (upd Ha Dl (.lst [])) scope ce fp) elt te := by rw [hce] at inside ⊢; exact he _ _ _ _ _ inside
  have locC : ce.locals = tb.heap.objs.size := by rw [hce]; rfl
  have stc : tn 0 tc.heap := T.keep _ _ _ stb fun b _ o e => by
    rw [htc]
    exact pushCells_keeps _ _ _ _ (Heap.get?_push_of_some _ e)
  have main : codeAny (model X.prog X.w) X.A (.compStart (.ListComp elt [⟨tg, iter, ifs, 0⟩] scope pos) 0 (.ref itr) (.ref Dl) ce) (compPost (model X.prog X.w) X.A X.xe use Qf (.ref Dl) tb.heap.objs.size) tc := by
    generalize upd Ha Dl (.lst []) = Hb at *
    let B := X.blk tb Hb scope ce fp
    let ws := wipe σ (own.map (·.2))
    have still : ∀ {σ' : L2.St} {H' : Hp} {s' : Shared}, Inv B [] σ' H' s' → (∀ b ∈ fp, H' b = none) → ∀ b ∈ fp, FpOk B [] H' b := by
      intro σ' H' s' I' n b hb'
      exact ⟨n b hb', (I'.ok.exf b hb').1, I'.ok.exfs b hb', .inl hb', fun x c e => (I'.ok.exf b hb').2 x c e, fun p hp => by simp at hp; exact absurd hp (by intro z; cases z)⟩
    suffices loop : codeAny (model X.prog X.w) X.A (.compLoop (.ListComp elt [⟨tg, iter, ifs, 0⟩] scope pos) 0 (.ref itr) (.ref Dl) ce) (compPost (model X.prog X.w) X.A X.xe use Qf (.ref Dl) tb.heap.objs.size) tc from codeAny_compStart_list loop (T.self X.A 0 _ _ _ stc loop)
    refine compLoop_any (fun n s' => ∃ i H', Inv B [] ws H' s' ∧ tn i s'.heap ∧ (∀ b ∈ fp, H' b = none) ∧ W i n H') ?_ m0 ⟨0, Hb, Ic, stc, nofp, w0⟩
    rintro n s5 ⟨i, H5, I5, st5, n5, w5⟩
    cases step i n H5 w5 with
    | inl over =>
      obtain ⟨stop, qq⟩ := over
      refine thnF (T.done B rfl rfl rfl calm i [] s5 _ H5 (fun _ _ => False) I5 (still I5 n5) st5 stop) fun r s6 hr => ?_
      obtain ⟨rfl, I6⟩ := hr
      have free6 : H5 tb.heap.objs.size = none := by
        rw [← locC]
        exact I6.free
      obtain ⟨m, ns6, _⟩ := I6.loc
      have ns6' : s6.heap.Ns ce.locals m := ns6
      rw [locC] at ns6'
      exact fin Dl _ s6 m H5 (inside _ _ _ _ I6) qq ns6' (Ib.fpOk (Nat.le_refl _) free6)
    | inr more =>
      obtain ⟨go, Nx, hNx, turn⟩ := more
      refine thnF (T.item B rfl rfl rfl calm i [] s5 _ H5 (fun _ _ => False) I5 (still I5 n5) st5 go) fun r s6 hr => ?_
      obtain ⟨u, rfl, h6⟩ := hr
      refine thnF h6 fun _ s7 h7 => ?_
      obtain ⟨x, H7, I7, r7, y7, st7, n7⟩ := h7
      refine thnF (pg.run _ s7 _ H7 x u _ (I7.pinned (still I7 n7) (T.obj _ _ st7)) r7 (turn x H7 y7)) fun _ s8 h8 => ?_
      obtain ⟨σ8, H8, I8, hw8, q8⟩ := h8
      refine thnF (pt.run _ s8 σ8 H8 _ I8 q8) fun b s9 h9 => ?_
      obtain ⟨H9, I9, q9⟩ := h9
      have again : ∀ {s' : Shared} {H' : Hp}, Inv B ([] ++ pinsAt fp s7.heap) σ8 H' s' → Nx H' → ∃ m, m < n ∧ ∃ i H', Inv B [] ws H' s' ∧ tn i s'.heap ∧ (∀ b ∈ fp, H' b = none) ∧ W i m H' := by
        intro s' H' I' nx
        obtain ⟨m', lt, w'⟩ := hNx H' nx
        have pinned : ∀ b ∈ fp, ∀ o, s7.heap.get? b = some o → s'.heap.get? b = some o ∧ H' b = none := by
          intro b hb' o e
          have z := I'.pin (b, o) (List.mem_append_right _ (List.mem_append_right _ (mem_pinsAt hb' e)))
          exact ⟨z.1, z.2.1⟩
        refine ⟨m', lt, i + 1, H', (I'.unpinned (pins := [])).weak (by show (wipe σ (own.map (·.2))).length = σ8.length; rw [← hw8, wipe_length]) (fun j v e => ?_), T.keep _ _ _ st7 fun b hb' o e => (pinned b hb' o e).1, fun b hb' => ?_, w'⟩
        · have e' : (wipe σ (own.map (·.2)))[j]? = some (some v) := e
          rw [← hw8] at e'
          exact (wipe_some e').1
        · obtain ⟨o, e, _⟩ := T.obj _ _ st7 b hb'
          exact (pinned b hb' o e).2
      by_cases hb' : b = true
      · subst hb'
        simp only [if_true] at q9 ⊢
        refine thnF (pe.run _ s9 σ8 H9 _ I9 q9) fun z s10 h10 => ?_
        obtain ⟨yv, H10, I10, r10, acc, hD10, hz10, nx⟩ := h10
        exact app_ok (X := B) I10 hD10 hz10 r10 fun s11 I11 => again I11 nx
      · rw [Bool.not_eq_true] at hb'
        subst hb'
        simp only [Bool.false_eq_true, if_false] at q9 ⊢
        exact again I9 q9
  rw [hce, hcl, htc] at main
  exact main
theorem pe_lcI {X : Cx} {elt tg iter : Expr} {ifs : List Expr} {scope : Scope} {own : List (Str × Nat)} {pos : Pos} {wi : TI} {g : TG} {tt : L2.St → TT} {te : TE} (hc : X.calm = true) (hN : X.N.Nodup) (hi : PI X tg iter wi) (ok : BlkOk X.N X.env.scope scope own)
    (hg : ∀ (s : Shared) (H : Hp) (C : Addr) (cl : List (Str × Addr)) (fp : List Addr), PG (X.blk s H scope (compEnvC scope cl C X.env) fp) tg g)
    (ht : ∀ (pins : List (Addr × Obj)) (σ : L2.St) (s : Shared) (H : Hp) (C : Addr) (cl : List (Str × Addr)) (fp : List Addr), Inside X (X.blk s H scope (compEnvC scope cl C X.env) fp) pins σ → PTs (X.blk s H scope (compEnvC scope cl C X.env) fp) ifs (tt σ))
    (he : ∀ (s : Shared) (H : Hp) (C : Addr) (cl : List (Str × Addr)) (fp : List Addr), PE (X.blk s H scope (compEnvC scope cl C X.env) fp) elt te) (hs : ∀ x, foldedSetIterable iter X.env x = pure x := by intro _; rfl) :
    PE X (.ListComp elt [⟨tg, iter, ifs, 0⟩] scope pos) (fun σ H Q => tLc wi g (tt σ) te (own.map (·.2)) σ H Q) := by
  refine ⟨fun pins s σ H Q I h => ?_⟩
  rw [eval_ListComp]
  refine lc_lam hc hN I hi ok hg (fun s H C cl fp => ht pins σ s H C cl fp) (fun s H C cl fp _ => he s H C cl fp) hs h fun D C s' m H' I' q hn f => ⟨m, hn, fun h'' sb => ?_⟩
  obtain ⟨f0, f1, f2, f3, f4, f5⟩ := f
  exact ⟨.ref D, H', I'.turned (t' := s'.toks) (fun b o hb e => (sb.2 b hb).trans e) f0 f1 f3 f4 f5, rfl, q⟩
theorem pe_cloI {b : Book} {X : Cx} {s0 : Shared} {H0 : Hp} {sc0 : Scope} {ce : Env} {fp0 : List Addr} {pinsX : List (Addr × Obj)} {σX : L2.St} (inside : Inside X (X.blk s0 H0 sc0 ce fp0) pinsX σX) {T : List (Addr × Str)} {F : (Nat → Th) → Fn} {fs : (Nat → Th) → FS} {fes : Nat → FE} {st : Stmt} {x a : Str} {Ng ps : List Str} {k m i n : Nat} {e : Expr} {es : List Expr} {ta : TA} {p pos : Pos} (TX : Txt b X.K X.mg) (ii jj : Nat)
    (hdf : b.fn[ii]? = some ⟨(x, none), x, x, defArgs st, defBody st, defScope st, [], []⟩) (hgl : b.fa[jj]? = some (.glo x)) (Sg : FnScope Ng ps (defScope st))
    (hbind : ∀ (kV doc pm : Value) (an : Option Addr) (cdv ct : Value) (us : List Value), us.length = ps.length → bindArgs (PySem.W.fnOf x x (defArgs st) (defBody st) (defScope st) .none kV doc pm an cdv ct) ⟨us, []⟩ = pure (ps.zip us))
    (hF : ∀ ths ds s k xq, F ths ds s k xq → fs ths (start_ Ng ds) s (kBody k)) (hN : Ng[i]? = some a) (hv : Vis (defScope st) a) (hd : (a == ("__debug__" : Str)) = false) (hcd : (a == ("__classdict__" : Str)) = false) (hm : m + 1 ≤ k) (hn : ps.length = n) (hr : Room (k + 1) X.A) (ha : PA (X.blk s0 H0 sc0 ce fp0) (e :: es) ta)
    (hb : ∀ (g : Addr) (cdv : Value) (s : Shared) (H : Hp) (rd : TE), Room k (X.A.deeper (envOfC x (defScope st) s.heap.objs.size g cdv)) → (∀ p1 p2, PE (cxOf C8.CX0 X.prog X.w X.K X.mg X.base Ng x (defScope st) g cdv X.A X.stack s H C8.E0).nox (.Call (.Name a p1) [] [] p2) rd) →
      ∃ t, PSs (cxOf C8.CX0 X.prog X.w X.K X.mg X.base Ng x (defScope st) g cdv X.A X.stack s H C8.E0).nox (defBody st) t ∧ ∀ (c : Cxt) (ths : Nat → Th), c.K = X.K → c.T = T → DE c rd (wClo (liOf X T m fes) ths i) → DS c t (fs ths))
    (hg : Gl (X.blk s0 H0 sc0 ce fp0) x := by rfl) (hdb : (x == ("__debug__" : Str)) = false := by decide) (he : starEach (e :: es) (X.blk s0 H0 sc0 ce fp0).env = (false, eval e (X.blk s0 H0 sc0 ce fp0).env) :: starEach es (X.blk s0 H0 sc0 ce fp0).env := by rfl) (hpl : (backTo pos (starEach es (X.blk s0 H0 sc0 ce fp0).env)).any (·.1) = false := by rfl) :
    PE (X.blk s0 H0 sc0 ce fp0) (.Call (.Name x p) (e :: es) [] pos) (fun σ H Q => ta σ H fun vs H1 => vs.length = n ∧ TTclo X.K T F fes vs σX H1 Q) := by
  obtain ⟨fd, FD⟩ := TX.fun_ ii hdf
  have FD' : FunD X.K x x (defArgs st) (defBody st) (defScope st) [] [] (He.ga X.K x) fd := FD
  obtain ⟨oc, od, dV, kV, doc, pm, an, cdv, ct, osl, e', lk, hcdv, _, _⟩ := FD'.ex
  subst e'
  subst hn
  refine pe_callL (TT := fun vs _ => TTclo X.K T F fes vs σX) hg (TX.glo jj _ hgl) FD'.kp lk hcdv (FD'.bindsN (ps := ps) hbind) Sg hr ha (fun pins s σ H vs Q I' hr _ tt => ?_) hdb he hpl
  have I := inside _ _ _ _ I'
  obtain ⟨c, s0, ths, ds, kk, hK, hT, R, rl, hth, hf, hq⟩ := tt
  have tk : Takes ((cxOf C8.CX0 X.prog X.w X.K X.mg X.base Ng x (defScope st) (He.ga X.K x) cdv X.A X.stack s H C8.E0).tr [] fun _ _ => False) (fun _ _ _ _ => False) := fun u s' ⟨_, _, _, _, _, _, _, _, _, _, _, _, _, _, _, _, z⟩ => z.elim
  obtain ⟨t, h1, h2⟩ := hb (He.ga X.K x) cdv s H (tClo X T m fes i σX) hr fun p1 p2 => ⟨fun pinsZ sZ σZ HZ QZ IZ h => by
    obtain ⟨n, d, tb, f, a', ⟨y1, y2, y3, y4⟩, _, z1, z2, z3, z4⟩ := h
    rw [y2] at z2
    exact (pe_actF (Eg := C8.E0) (E := C8.E0) (k := m) (xe := fun _ _ => False) (pn := []) (p1 := p1) (p2 := p2) I y1 y3 tk (fun _ _ _ _ z => z) (hr.mono hm) y4 hN hv hd hcd).run pinsZ sZ σZ HZ QZ IZ ⟨f, a', z1, z2, z3, z4⟩⟩
  subst hT
  refine ⟨t, h1, h2 c ths hK rfl (de_clo (fun n tb h => hth n tb h)) c.G0 (start_ Ng ds) s0 (L2.start Ng vs) H (kBody kk) _ (rel_start R (by rw [hK]; exact rl)) (hF _ _ _ _ _ hf) ⟨fun G' H' env' s2 σ' R' e kk => ?_, fun G' H' s2 v r R' e rv kk => hq G' H' v r s2 R' rv kk, fun _ _ _ _ _ _ _ kk => kk.elim, fun _ _ _ _ _ _ _ kk => kk.elim⟩⟩
  exact hq G' H' .non (.val .non) s2 R'.bare (by simp only [RV, Rep]) kk
def DTw (c : Cxt) (vs : List Nat) (σ : L2.St) (t : TT) (f : FT) : Prop := ∀ (G : Hp) (env : EnvD) (s : S) (σ1 : L2.St) (H : Hp) (k : Bool → EnvD → S → Prop) (Q : Bool → Hp → Prop), L2.wipe σ1 vs = L2.wipe σ vs → Rel c G env s σ1 H → f env s k →
  (∀ G' H' b env' s', Rel c G' env' s' σ1 H' → Ex G G' → k b env' s' → Q b H') → t σ1 H Q
def DEw (c : Cxt) (vs : List Nat) (σ : L2.St) (t : TE) (f : FE) : Prop := ∀ (G : Hp) (env : EnvD) (s : S) (σ1 : L2.St) (H : Hp) (k : Sl → EnvD → S → Prop) (Q : VK), L2.wipe σ1 vs = L2.wipe σ vs → Rel c G env s σ1 H → f env s k →
  (∀ G' H' v r env' s', Rel c G' env' s' σ1 H' → Ex G G' → RV c G' H' env' σ1 v r → k r env' s' → Q v H') → t σ1 H Q
section
variable {c : Cxt}
theorem dtw_yes {vs : List Nat} {σ : L2.St} : DTw c vs σ tYes wYes := fun G env s σ1 H k Q _ R hf q => q G H true env s R (Ex.refl G) hf
theorem dtw_not {vs : List Nat} {σ : L2.St} {t : TT} {f : FT} (h : DTw c vs σ t f) : DTw c vs σ (tNot t) (wNot f) := fun G env s σ1 H k Q hw R hf q => h G env s σ1 H _ _ hw R hf fun G1 H1 b env1 s1 R1 e1 k1 => q G1 H1 (!b) env1 s1 R1 e1 k1
theorem dtw_B {vs : List Nat} {σ : L2.St} {ta : TE} {fa : FE} (h : DEw c vs σ ta fa) : DTw c vs σ (tB ta) (wB fa) := by
  intro G env s σ1 H k Q hw R hf q
  have h' : DE c (fun σ2 H Q => σ2 = σ1 → ta σ2 H Q) fa := fun Ga enva sa σ2 Ha ka Qa Ra hfa qa e => by
    subst e
    exact h Ga enva sa _ Ha ka Qa hw Ra hfa qa
  have := dt_B h' G env s σ1 H k Q R hf q
  have sub : ∀ {Q' : VK}, (fun σ2 H Q => σ2 = σ1 → ta σ2 H Q) σ1 H Q' → ta σ1 H Q' := fun z => z rfl
  exact sub this
theorem de_compI {wi : TI} {fi : FI} {g : TG} {fg : FG} {tt : L2.St → TT} {ft : FT} {te : TE} {fe : FE} {vs : List Nat} (hi : DI c wi fi) (hg : ∀ H0, DG (c.h0 H0) g fg) (ht : ∀ H0 σ, DTw (c.h0 H0) vs σ (tt σ) ft) (he : ∀ H0, DE (c.h0 H0) te fe) (hw : GW g vs) :
    DE c (fun σ H Q => tLc wi g (tt σ) te vs σ H Q) (wComp fi fg ft fe vs) := by
  intro G env s σ H k Q R hf q
  refine hi G env s σ H _ _ R hf fun G1 H1 J ds env1 s1 R1 e1 w k1 => ?_
  obtain ⟨hn, hlen, k1⟩ := k1
  obtain ⟨n, Gd, Y, hnn, wk, hG, hY⟩ := w.ex
  intro Dl hD
  have h0 : c.H0 Dl = none := R1.kn Dl hD
  have ha0 : c.a0 ≠ some Dl := R1.a0ne hD
  have R1n := R1.new (o := .lst []) hD (fun _ z => by cases z)
  have ap0 := R1.newApart hD
  have apw : Apart (wipeD env1 vs) (L2.wipe σ vs) (.ref Dl) := fun i es h1 h2 => by
    obtain ⟨a1, a2⟩ := wipeD_some (by simp) h1
    rw [wipe_keep a2] at h2
    exact ap0 i es a1 h2
  have apo : ∀ {avs G4 env4 s4 σ4 H4}, Rel (c.h0 (upd c.H0 Dl (.lst avs))) G4 env4 s4 σ4 H4 → Apart env4 σ4 (.ref Dl) := fun {avs G4 env4 s4 σ4 H4} R4 i es h1 h2 => by
    obtain ⟨v, e1, q, us, rfl, e3, e4, _⟩ := R4.owns i es h1
    rw [e1] at h2
    cases h2
    have e4' : upd c.H0 Dl (.lst avs) Dl = none := e4
    rw [upd_same] at e4'
    cases e4'
  have HDl : ∀ {avs G4 env4 s4 σ4 H4}, Rel (c.h0 (upd c.H0 Dl (.lst avs))) G4 env4 s4 σ4 H4 → H4 Dl = some (.lst avs) ∧ G4 Dl = none := fun {avs G4 env4 s4 σ4 H4} R4 =>
    ⟨R4.keep Dl _ upd_same ha0 (fun _ z => by cases z), R4.gnew Dl avs (by show upd c.H0 Dl _ Dl = some (.lst avs); rw [upd_same]) (by
      have : c.G0 Dl = none := by
        cases q : c.G0 Dl with
        | none => rfl
        | some o => have := R1.ex _ _ (R1.gx _ _ q); rw [hD] at this; cases this
      exact this)⟩
  refine lc_it wk (fun i H' => ∃ G' acc avs env' s', Rel (c.h0 (upd c.H0 Dl (.lst avs))) G' env' s' (L2.wipe σ vs) H' ∧ Ex G1 G' ∧ RepL c.K G' acc avs ∧ acc.length ≤ i ∧
      compW fg ft fe vs (fun acc env2 s2 => k (.own acc) (backD env1 env2 vs) s2) (ds.drop i) acc env' s') ?_ ?_ ?_ ?_
  · exact ⟨G1, [], [], _, s1, (R1n.wipe vs).hide upd_same (R1.g0 hD) h0 apw, Ex.refl G1, RepL.nil, Nat.le_refl _, by simpa using k1⟩
  · rintro i H' _ ⟨G', acc, avs, env', s', R', e', _⟩
    exact hG ⟨_, Ex.new h0⟩ G' H' _ s' _ R' e'
  · rintro i x H' H3 hin ⟨G', acc, avs, env', s', R', e', hacc, hal, kk⟩ y
    obtain ⟨G3, d, R3, e3, hd, rd⟩ := hY i ⟨_, Ex.new h0⟩ G' H' _ s' _ x H3 hin R' e' y
    have hdrop : ds.drop i = d :: ds.drop (i + 1) := by
      obtain ⟨hl, hx⟩ := List.getElem?_eq_some_iff.mp hd
      rw [List.drop_eq_getElem_cons hl, hx]
    rw [hdrop] at kk
    have hw' : ∀ (Q : L2.St → Hp → Prop), g x (L2.wipe σ vs) H3 (fun σ2 H2 => L2.wipe σ2 vs = L2.wipe σ vs → Q σ2 H2) → g x (L2.wipe σ vs) H3 (fun σ2 H2 => L2.wipe σ2 vs = L2.wipe σ vs ∧ Q σ2 H2) := by
      intro Q q
      have := hw x (L2.wipe σ vs) H3 Q (by rw [wipe_wipe]; exact q)
      rw [wipe_wipe] at this
      exact this
    refine hw' _ ?_
    refine hg _ G3 _ s' _ H3 x (.val d) _ _ R3 rd kk fun G4 H4 env4 s4 σ4 R4 e4 k4 => ?_
    intro hwipe
    refine ht _ σ G4 env4 s4 σ4 H4 _ _ hwipe R4 k4 fun G5 H5 b env5 s5 R5 e5 k5 => ?_
    have fin : ∀ {G6 env6 s6 H6}, Rel (c.h0 (upd c.H0 Dl (.lst avs))) G6 env6 s6 σ4 H6 → Rel (c.h0 (upd c.H0 Dl (.lst avs))) G6 (wipeD env6 vs) s6 (L2.wipe σ vs) H6 := fun {G6 env6 s6 H6} R6 => by
      have := R6.wipe vs
      rw [hwipe] at this
      exact this
    cases b with
    | true =>
      refine he _ G5 env5 s5 σ4 H5 _ _ R5 k5 fun G6 H6 v r env6 s6 R6 e6 rv6 k6 => ?_
      obtain ⟨G7, R7, e7, rp⟩ := R6.toVal rv6
      have R8 := fin R7
      obtain ⟨hl, hg7⟩ := HDl R8
      have eAll : Ex G' G7 := (((e3.trans e4).trans e5).trans e6).trans e7
      have hacc7 : RepL c.K G7 (acc ++ [r.d]) (avs ++ [v]) := RepL.append (RepL.mono eAll acc hacc) (RepL.one rp)
      refine ⟨avs, hl, by rw [hacc.length]; omega, G7, acc ++ [r.d], avs ++ [v], _, s6, ?_, e'.trans eAll, hacc7, by simp; omega, k6⟩
      have ap9 := apo R8
      have R9 := R8.unhide h0
      have R10 : Rel c G7 (wipeD env6 vs) s6 (L2.wipe σ vs) (upd H6 Dl (.lst (avs ++ [v]))) :=
        { R9 with ex := R9.ex.mut hg7
                  st := fun a ha => (by
                    obtain ⟨m1, y, z, m2, m3⟩ := R9.st a ha
                    exact ⟨m1, y, z, m2, by rw [upd_ne (fun z => ha0 (by rw [← z]; exact ha))]; exact m3⟩)
                  keep := fun p o h1 h2 h3 => (by
                    rw [upd_ne (fun z => by rw [z, h0] at h1; cases h1)]
                    exact R9.keep p o h1 h2 h3)
                  kn := fun p hp => (by
                    by_cases hb : p = Dl
                    · rw [hb]; exact h0
                    · rw [upd_ne hb] at hp; exact R9.kn p hp)
                  tab := Tabs.updL R9.tab hl
                  owns := fun i es hi => (by
                    obtain ⟨w, n1, p, us, rfl, n3, n4, n5, n6, n7⟩ := R9.owns i es hi
                    have hb : p ≠ Dl := fun z => ap9 i es hi (by rw [n1, z])
                    exact ⟨_, n1, p, us, rfl, n3, n4, n5, by rw [upd_ne hb]; exact n6, n7⟩) }
      exact R10.hide upd_same hg7 h0 ap9
    | false =>
      exact ⟨G5, acc, avs, _, s5, fin R5, e'.trans ((e3.trans e4).trans e5), RepL.mono ((e3.trans e4).trans e5) acc hacc, by omega, k5⟩
  · rintro H' ⟨G', acc, avs, env', s', R', e', hacc, hal, kk⟩
    rw [hnn, List.drop_length] at kk
    obtain ⟨hl, hgD⟩ := HDl R'
    have ap9 := apo R'
    have R2 := R1.unwipe e' hn (R'.unhide h0)
    refine q G' H' _ (.own acc) _ s' R2 (e1.trans e') ⟨⟨Dl, avs, rfl, hgD, h0, ha0, hl, hacc⟩, fun i es h1 h2 => ?_⟩ kk
    by_cases hv : i ∈ vs
    · exact absurd (at_val (backD_mem hv h1).symm (by simp)) (noOwn_at hn hv)
    · rw [backD_keep hv] at h1
      exact ap9 i es h1 (by rw [wipe_keep hv]; exact h2)
theorem lam_okI {caps : List Nat} {fe : FE} {tb : TE} {G2 H1 : Hp} {env : EnvD} {s0 : S} {σ σ1 : L2.St} (R3 : Rel c G2 env s0 σ1 H1) (hl : σ.length = σ1.length) (hσ : ∀ i ∈ caps, σ1[i]? = σ[i]?) (hv : noOwn env caps) (h : ∀ (H0 G0 : Hp), DE (c.inn H0 G0) tb fe) (c2 : Cxt) (hc2 : ∀ H0 G0, c2.inn H0 G0 = c.inn H0 G0) : ThOk c2 G2 σ tb (lamTh fe caps env) := by
  intro HZ G s k Q e R ht q
  have R' : Rel (c.inn HZ G) G [] s [] HZ := by rw [← hc2]; exact R
  have no : ∀ (i : Nat) (ds : List D), (pick env caps (blank env))[i]? = some (.own ds) → False := fun i ds hi => by
    rcases pick_at hi with ⟨h1, h2⟩ | h1
    · exact noOwn_at hv h1 (at_val h2.symm (by simp))
    · have := blank_at h1; cases this
  have Rm : Rel (c.inn HZ G) G (pick env caps (blank env)) s σ HZ :=
    { R' with len := (by rw [pick_len, blank_len, hl, ← R3.len])
              vals := fun i d hi => (by
                rcases pick_at hi with ⟨h1, h2⟩ | h1
                · obtain ⟨v, a, b⟩ := R3.vals i d (at_val h2.symm (by simp))
                  exact ⟨v, by rw [← hσ i h1]; exact a, Rep.mono e d b⟩
                · have := blank_at h1; cases this)
              owns := fun i ds hi => (no i ds hi).elim
              dist := fun i j ds es v hi _ _ _ => (no i ds hi).elim }
  refine h HZ G G _ s σ HZ _ Q Rm ht fun G' H' v r env' s' R2 e2 rv kk => ?_
  have Rb := R2.bare
  refine q G' H' v r s' (by rw [hc2]; exact Rb) ?_ kk
  rw [hc2]
  cases r with
  | no => exact rv
  | val d => exact rv
  | own ds => exact ⟨rv.1, fun i es hi => by simp at hi⟩
theorem wipe_keepI {vs : List Nat} {σ σ1 : L2.St} (h : L2.wipe σ1 vs = L2.wipe σ vs) {i : Nat} (hi : i ∉ vs) : σ1[i]? = σ[i]? := by
  rw [← wipe_keep (σ := σ1) hi, h, wipe_keep hi]
theorem dew_callI {vs : List Nat} {σ : L2.St} {F : (Nat → Th) → Fn} {fes : Nat → FE} {caps : List Nat} {ta : TA} {fa : FA} {m : Nat} (hl : ∀ ths ds s k xq, F ths ds s k xq → ds.length = m) (hcv : ∀ i ∈ caps, i ∉ vs) (ha : DA c ta fa) :
    DEw c vs σ (fun σ1 H Q => ta σ1 H fun us H1 => us.length = m ∧ TTclo c.K c.T F fes us σ H1 Q) (wCallC F fes caps fa) := by
  intro G env s σ1 H k Q hw R hf qq
  have hlen : σ.length = σ1.length := by rw [← wipe_length σ vs, ← wipe_length σ1 vs, hw]
  refine ha G env s σ1 H _ _ R hf fun G1 H1 us ds env1 s1 R1 e1 rl k1 => ?_
  obtain ⟨hn, k1⟩ := k1
  refine ⟨by rw [rl.length]; exact hl _ _ _ _ _ k1, c.inn H1 G1, s1, _, ds, _, rfl, rfl, R1.inn, rl, fun n tb h => lam_okI R1 hlen (fun i hi => wipe_keepI hw (hcv i hi)) hn (fun H0 G0 => h (c.inn H0 G0) rfl rfl) (c.inn H1 G1) (fun _ _ => rfl), k1, fun G' H' v r s' R' rv kk => ?_⟩
  exact qq G' H' v r env1 s' (R1.out R') (e1.trans R'.gx) (RV.out R1 R' rv) kk
end
end DL
set_option Elab.async false
set_option linter.all false
set_option maxRecDepth 100000
set_option maxHeartbeats 4000000
namespace DL
open PySem PySem.Spec PyProof.Rows L2 LamX
open Evl (Ex)
def rInsert : V → List V → Hp → VK → Prop := fun x vs H Q => ∃ (l : Addr) (xs : List V) (i : Int) (y : V), x = .ref l ∧ vs = [.int i, y] ∧ H l = some (.lst xs) ∧ xs.length < sizeLine ∧ 0 ≤ i ∧ i < 2 ^ 63 ∧
    Q .non (upd H l (.lst (xs.take i.toNat ++ [y] ++ xs.drop i.toNat)))
section
variable {X : Cx} {K : PySem.W.Frag} {e1 e2 o : Expr} {t : TA} {te : TE} {apos cpos : Pos}
variable (K)
theorem pe_ins (ho : PE X o te) (ha : PA X [e1, e2] t) (hK : X.K = K := by rfl) (hbase : attributeBase o "insert" X.env (eval o X.env) = eval o X.env := by rfl)
    (hfew : ((backTo cpos (starEach [e1, e2] X.env)).all (fun x => !x.1) && (backToKw cpos (keywordEach [] X.env)).all (fun x => x.1.isSome) && decide ([e1, e2].length + ([] : List Keyword).length + (if ([] : List Keyword).isEmpty then 0 else 1) < 30)) = true := by rfl)
    (hline : (apos.endLine == cpos.line) = true := by rfl) (hs : starEach [e1, e2] X.env = (false, eval e1 X.env) :: starEach [e2] X.env := by rfl) (hplain : (backTo cpos (starEach [e2] X.env)).any (·.1) = false := by rfl) :
    PE X (.Call (.Attribute o "insert" apos) [e1, e2] [] cpos) (tBM K "list" rInsert te t) := by
  subst hK; exact pe_bm PySem.F.plainAttrs_list PySem.F.slot_list_insert PySem.F.type_list_insert mt_insert ho ha hbase hfew hline hs hplain
end
def wIns (j : Nat) (f : FA) : FS := fun env s k => match at_ env j with
  | .own _ => f env s fun ds env1 s1 => match at_ env1 j, ds with
    | .own xs, [.int i, d] => xs.length < sizeLine ∧ (0 ≤ i ∧ i < 2 ^ 63) ∧ k (.nx (env1.set j (.own (xs.take i.toNat ++ [d] ++ xs.drop i.toNat))) s1)
    | _, _ => False
  | _ => False
theorem ds_ins {c : Cxt} {t : TA} {f : FA} (j : Nat) (h : DA c t f) : DS c (tDrop (tBM c.K "list" rInsert (tVar j) t)) (wIns j f) := by
  intro G env s σ H k E R hf q
  unfold wIns at hf
  cases e : at_ env j with
  | no => rw [e] at hf; exact hf.elim
  | val d => rw [e] at hf; exact hf.elim
  | own ds0 =>
    rw [e] at hf
    obtain ⟨v, h1, p, vs0, rfl, h3, h4, h5, h6, h7⟩ := R.owns j ds0 (at_val e (by simp))
    refine ⟨_, h1, Or.inl ⟨rfl, vs0, Evl.sq_of h6⟩, ?_⟩
    refine h G env s σ H _ _ R hf fun G1 H1 ws es env1 s1 R1 e1 rl k1 => ?_
    cases e3 : at_ env1 j with
    | no => rw [e3] at k1; exact k1.elim
    | val d => rw [e3] at k1; exact k1.elim
    | own ds =>
      rw [e3] at k1
      split at k1
      · rename_i heq
        cases heq
        rename_i i d
        simp only [RepL] at rl
        obtain ⟨x, r, rfl, hx, y, r', rfl, hy, rfl⟩ := rl
        simp only [Rep] at hx
        subst hx
        obtain ⟨v, g1, p', vs, rfl, g3, g4, g5, g6, g7⟩ := R1.owns j _ (at_val e3 (by simp))
        rw [h1] at g1
        cases g1
        obtain ⟨k2, ⟨k3, k4⟩, k5⟩ := k1
        have R3 := R1.write (es := _) (vs := vs.take i.toNat ++ [y] ++ vs.drop i.toNat) (at_val e3 (by simp)) h1 (RepL.append (RepL.append (RepL.take i.toNat g7) (RepL.one hy)) (RepL.drop i.toNat g7))
        exact ⟨p, vs, i, y, rfl, rfl, g6, by rw [g7.length]; exact k2, k3, k4, q.nx G1 _ _ s1 σ R3 e1 k5⟩
      · exact k1.elim
def tPick (K : PySem.W.Frag) (T : List (Addr × Str)) (j : Nat) (F1 F2 : Fn) (E : XK) (t : TA) : TE := fun σ H Q => ∃ n : Int, (n = 0 ∨ n = 1) ∧ σ[j]? = some (some (.int n)) ∧
  ∀ p ws, H p = none → t σ (upd H p (.lst ws)) fun vs H1 => spD K T (He.ga K) (if n = 0 then F1 else F2) vs H1 Q E
theorem wpAny_Call_Sub {M : Model} {A : Around} {E : Value → Shared → Prop} {s : Shared} {env : Env} {a b : Expr} {p pos : Pos} {args : List Expr} {Q : Value → Shared → Prop}
    (h : wpAny M A (eval (.Subscript a b p) env) (fun f s₁ => wpAny M A (callWith pos f [] (backTo pos (starEach args env)) (backToKw pos (keywordEach [] env))) Q E s₁) E s) :
    wpAny M A (eval (.Call (.Subscript a b p) args [] pos) env) Q E s := by
  have e : eval (.Call (.Subscript a b p) args [] pos) env = (do callWith pos (← eval (.Subscript a b p) env) [] (backTo pos (starEach args env)) (backToKw pos (keywordEach [] env))) := rfl
  rw [e]
  exact wpAny_bind h
section
variable {X : Cx} {K : PySem.W.Frag} {T : List (Addr × Str)} {f g x : Str} {ps ps2 : List Str} {k j : Nat} {F1 F2 : Fn} {E : XK} {e : Expr} {es : List Expr} {t : TA} {p pos p1 p2 p3 p4 : Pos} {kk : Nat}
theorem pe_pick (D1 : Def X.prog X.w K X.mg X.base T f ps k F1) (D2 : Def X.prog X.w K X.mg X.base T g ps2 k F2) (hr : Room k X.A) (hx : Passes (L2.CX X.prog X.w) X E) (hw : PE X (.Name x p3) (tVar j)) (ha : PA X (e :: es) t) (hK : X.K = K := by rfl) (hg : Gl X f := by rfl) (hg2 : Gl X g := by rfl) (hdb : (f == ("__debug__" : Str)) = false := by decide) (hdb2 : (g == ("__debug__" : Str)) = false := by decide)
    (hs : starEach [.Name f p1, .Name g p2] X.env = (false, eval (.Name f p1) X.env) :: starEach [.Name g p2] X.env := by rfl) (hs2 : starEach [.Name g p2] X.env = (false, eval (.Name g p2) X.env) :: starEach [] X.env := by rfl)
    (he : starEach (e :: es) X.env = (false, eval e X.env) :: starEach es X.env := by rfl) (hpl : (backTo pos (starEach es X.env)).any (·.1) = false := by rfl) :
    PE X (.Call (.Subscript (.List [.Name f p1, .Name g p2] p4) (.Name x p3) p) (e :: es) [] pos) (tPick K T j F1 F2 E t) := by
  subst hK
  obtain ⟨fa, fd, h1, h2, h3, h4, _⟩ := D1.ex
  obtain ⟨ga, gd, i1, i2, i3, i4, _⟩ := D2.ex
  refine ⟨fun pins s σ H Q I h => ?_⟩
  obtain ⟨n, hn, hs', ht⟩ := h
  refine wpAny_Call_Sub (thn ((pe_ix (ix_K X.K) (pe_lst (pa_cons (pe_glob (v := .ref fa) hg h1 rfl hdb) (pa_cons (pe_glob (v := .ref ga) hg2 i1 rfl hdb2) pa_nil hs2) hs)) hw (fun _ _ => rfl)).run pins s σ H (fun v H1 => v = .ref (if n = 0 then fa else ga) ∧ ∃ q ws, H q = none ∧ H1 = upd H q (.lst ws)) I ?_) fun u s1 ⟨v, H1, I1, r1, ev, q, ws, hq, eH⟩ => ?_)
  · refine ⟨by show 2 ≤ sizeLine; decide, fun q hq => ⟨_, hs', .inl ⟨q, _, n, _, rfl, rfl, Evl.sq_of upd_same, ?_, rfl, q, _, hq, rfl⟩⟩⟩
    rcases hn with rfl | rfl <;> rfl
  · subst ev eH
    cases r1
    rcases hn with rfl | rfl
    · refine PySem.W.callWith_K (h₀ := X.base) I.ok.mod.kin h2 (thn (ha.run pos pins s1 σ _ _ I1 (ht q ws hq)) fun us s2 ⟨vs, H2, I2, r, q2⟩ => ⟨I2.kIn, ?_⟩) he hpl
      exact run_fn h4 hr h3 .nil hx I2 r (by rw [List.append_nil]; exact q2)
    · refine PySem.W.callWith_K (h₀ := X.base) I.ok.mod.kin i2 (thn (ha.run pos pins s1 σ _ _ I1 (ht q ws hq)) fun us s2 ⟨vs, H2, I2, r, q2⟩ => ⟨I2.kIn, ?_⟩) he hpl
      exact run_fn i4 hr i3 .nil hx I2 r (by rw [List.append_nil]; exact q2)
end
def wPick (F1 F2 : Fn) (xq : Str → S → Prop) (j : Nat) (fa : FA) : FE := fun env s k => ∃ n : Int, at_ env j = .val (.int n) ∧ (n = 0 ∨ n = 1) ∧ fa env s fun ds env1 s1 => (if n = 0 then F1 else F2) ds s1 (fun r s2 => k r env1 s2) xq
theorem de_pick {c : Cxt} {F1 F2 : Fn} {E : XK} {xq : Str → S → Prop} {t : TA} {fa : FA} (j : Nat) (hE : EOk c (He.ga c.K) E xq) (h : DA c t fa) : DE c (tPick c.K c.T j F1 F2 E t) (wPick F1 F2 xq j fa) := by
  intro G env s σ H k Q R hf q
  obtain ⟨n, hn, hd, hf⟩ := hf
  obtain ⟨v, g1, g2⟩ := R.vals j _ (at_val hn (by simp))
  simp only [Rep] at g2
  subst g2
  refine ⟨n, hd, g1, fun p ws hp => ?_⟩
  have R0 := R.new (o := .lst ws) hp (fun _ z => by cases z)
  refine h G env s σ _ _ _ R0 hf fun G1 H1 vs ds env1 s1 R1 e1 rl k1 => ?_
  refine ⟨c.inn H1 G1, G1, s1, ds, _, xq, rfl, rfl, R1.inn, rl, k1, fun G' H' v r s' R' rv kk => ?_, fun G' H' cn s' R' hx => ?_⟩
  · exact q G' H' v r env1 s' (R1.out R') (e1.trans R'.gx) (RV.out R1 R' rv) kk
  · exact hE G' H' cn s' (R1.bare.out (G' := G') (H' := H') (s' := s') R') hx
def insK (j : Nat) (ks : Fl → Prop) : KA := fun ds e s => match at_ e j, ds with
  | .own xs, [.int i, d] => xs.length < sizeLine ∧ (0 ≤ i ∧ i < 2 ^ 63) ∧ ks (.nx (e.set j (.own (xs.take i.toNat ++ [d] ++ xs.drop i.toNat))) s)
  | _, _ => False
theorem insK_ap (j : Nat) (ks : Fl → Prop) (ds : List D) (e : EnvD) (s : S) : insK j ks ds e s = (match at_ e j, ds with
  | .own xs, [.int i, d] => xs.length < sizeLine ∧ (0 ≤ i ∧ i < 2 ^ 63) ∧ ks (.nx (e.set j (.own (xs.take i.toNat ++ [d] ++ xs.drop i.toNat))) s)
  | _, _ => False) := rfl
theorem wIns_C (j : Nat) (f : FA) (env : EnvD) (s : S) (ks : Fl → Prop) : wIns j f env s ks = (match at_ env j with
  | .own _ => f env s (insK j ks)
  | _ => False) := rfl
theorem wPick_C (F1 F2 : Fn) (xq : Str → S → Prop) (j : Nat) (fa : FA) (env : EnvD) (s : S) (ke : Sl → EnvD → S → Prop) : wPick F1 F2 xq j fa env s ke = (∃ n : Int, at_ env j = .val (.int n) ∧ (n = 0 ∨ n = 1) ∧ fa env s (argK ke (if n = 0 then F1 else F2) xq)) := rfl
end DL
set_option Elab.async false
set_option linter.all false
set_option maxRecDepth 100000
set_option maxHeartbeats 2000000
namespace DL
open PySem PySem.Spec PyProof.Rows L2
open Evl (Ex)
def rStrInt : List V → Hp → VK → Prop := fun xs H Q => ∃ i, xs = [.int i] ∧ i.natAbs.log2 < 1920 ∧ Q (.str (toString i)) H
def rIntStr : List V → Hp → VK → Prop := fun xs H Q => ∃ a n, xs = [.str a] ∧ PySem.intText? a = some n ∧ a.length ≤ 640 ∧ Q (.int n) H
def rInS : R2 := fun x y H Q => ∃ (ch : Nat) (z : Str), x = .str ⟨#[ch]⟩ ∧ y = .str z ∧ Q (.bl (decide (ch ∈ z.cps.toList))) H
def rStarts : V → List V → Hp → VK → Prop := fun x xs H Q => ∃ a b, x = .str a ∧ xs = [.str b] ∧ Q (.bl (Txt.startswith a b)) H
def rSplit : V → List V → Hp → VK → Prop := fun x xs H Q => ∃ a b, x = .str a ∧ xs = [.str b] ∧ (b.length == 0) = false ∧ a.length + 2 ≤ sizeLine ∧ rNewStrs (Txt.split a b) H Q
def rPart : V → List V → Hp → VK → Prop := fun x xs H Q => ∃ a b, x = .str a ∧ xs = [.str b] ∧ (b.length == 0) = false ∧ a.length ≤ sizeLine ∧
  ∀ p, H p = none → Q (.ref p) (upd H p (.tup [.str (Txt.partition a b).1, .str (Txt.partition a b).2.1, .str (Txt.partition a b).2.2]))
def rJoin (K : PySem.W.Frag) : V → List V → Hp → VK → Prop := fun x xs H Q => ∃ a p, ∃ ys : List Str, x = .str a ∧ xs = [.ref p] ∧ (SqL K H p (ys.map V.str) ∨ SqT K H p (ys.map V.str)) ∧
  (ys.map (·.length)).sum + ys.length * a.length ≤ 16777216 ∧ Q (.str (Txt.join a ys)) H
section
variable {X : Cx} {e o : Expr} {te to : TE} {p pos apos : Pos}
theorem pe_strI (hm : X.mg "str" = none) (ha : PE X e te) (hg : Gl X "str" := by rfl) (hs : starEach [e] X.env = (false, eval e X.env) :: starEach [] X.env := by rfl) : PE X (.Call (.Name "str" p) [e] [] pos) (tCB rStrInt (tCons te tNil)) :=
  pe_callTy call_str_int hg hm PyProof.Rows.boot_str (pa_cons ha pa_nil hs) (he := hs)
theorem pe_intS (hm : X.mg "int" = none) (ha : PE X e te) (hg : Gl X "int" := by rfl) (hs : starEach [e] X.env = (false, eval e X.env) :: starEach [] X.env := by rfl) : PE X (.Call (.Name "int" p) [e] [] pos) (tCB rIntStr (tCons te tNil)) :=
  pe_callTy call_int_str hg hm PyProof.Rows.boot_int (pa_cons ha pa_nil hs) (he := hs)
theorem pe_starts (ho : PE X o to) (he : PE X e te) (hs : starEach [e] X.env = [(false, eval e X.env)] := by rfl) (hbase : attributeBase o "startswith" X.env (eval o X.env) = eval o X.env := by rfl) (hline : (apos.endLine == pos.line) = true := by rfl) :
    PE X (.Call (.Attribute o "startswith" apos) [e] [] pos) (tM1 rStarts to te) :=
  pe_m1 F.slot_str_startswith F.type_str_startswith mt_startswith ho he hs hbase hline
theorem pe_splitS (ho : PE X o to) (he : PE X e te) (hs : starEach [e] X.env = [(false, eval e X.env)] := by rfl) (hbase : attributeBase o "split" X.env (eval o X.env) = eval o X.env := by rfl) (hline : (apos.endLine == pos.line) = true := by rfl) :
    PE X (.Call (.Attribute o "split" apos) [e] [] pos) (tM1 rSplit to te) := pe_split ho he hs hbase hline
theorem pe_partS (ho : PE X o to) (he : PE X e te) (hs : starEach [e] X.env = [(false, eval e X.env)] := by rfl) (hbase : attributeBase o "partition" X.env (eval o X.env) = eval o X.env := by rfl) (hline : (apos.endLine == pos.line) = true := by rfl) :
    PE X (.Call (.Attribute o "partition" apos) [e] [] pos) (tM1 rPart to te) := pe_partition ho he hs hbase hline
theorem pe_joinS (K : PySem.W.Frag) (ho : PE X o to) (he : PE X e te) (hK : X.K = K := by rfl) (hs : starEach [e] X.env = [(false, eval e X.env)] := by rfl) (hbase : attributeBase o "join" X.env (eval o X.env) = eval o X.env := by rfl) (hline : (apos.endLine == pos.line) = true := by rfl) :
    PE X (.Call (.Attribute o "join" apos) [e] [] pos) (tM1 (rJoin K) to te) := by subst hK; exact pe_join ho he hs hbase hline
end
def gStr : F1 := fun d k => match d with
  | .int i => i.natAbs.log2 < 1920 ∧ k (.val (.str (toString i)))
  | _ => False
def gIntS : F1 := fun d k => match d with
  | .str a => ∃ n, PySem.intText? a = some n ∧ a.length ≤ 640 ∧ k (.val (.int n))
  | _ => False
def gInS : F2 := fun d e k => match d, e with
  | .str x, .str z => ∃ ch : Nat, x = ⟨#[ch]⟩ ∧ k (.val (.bl (decide (ch ∈ z.cps.toList))))
  | _, _ => False
def gIxS : F2 := fun d e k => match d, e with
  | .str z, .int i => z.length ≤ sizeLine ∧ ∃ ch, atI z.cps.toList i = some ch ∧ k (.val (.str ⟨#[ch]⟩))
  | _, _ => False
def gStarts : F2 := fun d e k => match d, e with
  | .str a, .str b => k (.val (.bl (Txt.startswith a b)))
  | _, _ => False
def gSplit : F2 := fun d e k => match d, e with
  | .str a, .str b => ((b.length == 0) = false ∧ a.length + 2 ≤ sizeLine) ∧ k (.own ((Txt.split a b).map D.str))
  | _, _ => False
def gPart : F2 := fun d e k => match d, e with
  | .str a, .str b => ((b.length == 0) = false ∧ a.length ≤ sizeLine) ∧ k (.val (.tup [.str (Txt.partition a b).1, .str (Txt.partition a b).2.1, .str (Txt.partition a b).2.2]))
  | _, _ => False
def gJoin : F2 := fun d e k => match d, e with
  | .str a, .lst ds => ∃ ys : List Str, ds = ys.map D.str ∧ (ys.map (·.length)).sum + ys.length * a.length ≤ 16777216 ∧ k (.val (.str (Txt.join a ys)))
  | _, _ => False
theorem repL_strM {K : PySem.W.Frag} {G : Hp} : ∀ (ys : List Str), RepL K G (ys.map D.str) (ys.map V.str)
  | [] => by simp only [List.map_nil, RepL]
  | y :: ys => by
    simp only [List.map_cons, RepL]
    exact ⟨_, _, rfl, by simp only [Rep], repL_strM ys⟩
theorem repL_strN {K : PySem.W.Frag} {G : Hp} : ∀ (ys : List Str) {vs : List V}, RepL K G (ys.map D.str) vs → vs = ys.map V.str
  | [], vs, h => by simpa only [List.map_nil, RepL] using h
  | y :: ys, vs, h => by
    simp only [List.map_cons, RepL] at h
    obtain ⟨v, r, rfl, h1, h2⟩ := h
    simp only [Rep] at h1
    rw [h1, repL_strN ys h2]
    rfl
section
variable {c : Cxt}
theorem d1_strI : D1 c (fun x => rStrInt [x]) gStr := by
  intro G env s σ H x d k Q R p1 h q
  unfold gStr at h
  split at h
  · rename_i i
    exact ⟨i, by rw [pr_int p1 rfl], h.1, q G H _ (.val (.str _)) R (Ex.refl G) (by simp only [RV, Rep]) h.2⟩
  · exact h.elim
theorem d1_intS : D1 c (fun x => rIntStr [x]) gIntS := by
  intro G env s σ H x d k Q R p1 h q
  unfold gIntS at h
  split at h
  · rename_i a
    obtain ⟨n, h1, h2, h3⟩ := h
    exact ⟨a, n, by rw [pr_str p1], h1, h2, q G H _ (.val (.int _)) R (Ex.refl G) (by simp only [RV, Rep]) h3⟩
  · exact h.elim
theorem d2_inS : D2 c rInS gInS := by
  intro G env s σ H x y d e k Q R p1 p2 h q
  unfold gInS at h
  split at h
  · rename_i a z
    obtain ⟨ch, rfl, h⟩ := h
    exact ⟨ch, z, pr_str p1, pr_str p2, q G H _ (.val (.bl _)) R (Ex.refl G) (by simp only [RV, Rep]) h⟩
  · exact h.elim
theorem d2_ixS : D2 c (rIx c.K) gIxS := by
  intro G env s σ H x y d e k Q R p1 p2 h q
  unfold gIxS at h
  split at h
  · rename_i z i
    obtain ⟨h0, ch, h1, h⟩ := h
    exact .inr (.inr ⟨z, i, ch, pr_str p1, pr_int p2 rfl, h0, h1, q G H _ (.val (.str _)) R (Ex.refl G) (by simp only [RV, Rep]) h⟩)
  · exact h.elim
theorem d2_starts : D2 c (fun x y => rStarts x [y]) gStarts := by
  intro G env s σ H x y d e k Q R p1 p2 h q
  unfold gStarts at h
  split at h
  · rename_i a b
    exact ⟨a, b, pr_str p1, by rw [pr_str p2], q G H _ (.val (.bl _)) R (Ex.refl G) (by simp only [RV, Rep]) h⟩
  · exact h.elim
theorem d2_split : D2 c (fun x y => rSplit x [y]) gSplit := by
  intro G env s σ H x y d e k Q R p1 p2 h q
  unfold gSplit at h
  split at h
  · rename_i a b
    obtain ⟨⟨h1, h2⟩, h⟩ := h
    refine ⟨a, b, pr_str p1, by rw [pr_str p2], h1, h2, fun l hl => ?_⟩
    obtain ⟨R5, rv5⟩ := R.newOwn hl (repL_strM (Txt.split a b))
    exact q G _ _ (.own _) R5 (Ex.refl G) rv5 h
  · exact h.elim
theorem d2_part : D2 c (fun x y => rPart x [y]) gPart := by
  intro G env s σ H x y d e k Q R p1 p2 h q
  unfold gPart at h
  split at h
  · rename_i a b
    obtain ⟨⟨h1, h2⟩, h⟩ := h
    refine ⟨a, b, pr_str p1, by rw [pr_str p2], h1, h2, fun l hl => ?_⟩
    obtain ⟨G2, R5, e5, rv5⟩ := R.newTup hl (repL_strM [(Txt.partition a b).1, (Txt.partition a b).2.1, (Txt.partition a b).2.2])
    exact q G2 _ _ (.val (.tup _)) R5 e5 rv5 h
  · exact h.elim
theorem d2_join : D2 c (fun x y => rJoin c.K x [y]) gJoin := by
  intro G env s σ H x y d e k Q R p1 p2 h q
  unfold gJoin at h
  split at h
  · rename_i a ds
    obtain ⟨ys, rfl, h1, h⟩ := h
    obtain ⟨p, vs, rfl, h3, h4⟩ := p2
    have := repL_strN ys h4
    subst this
    exact ⟨a, p, ys, pr_str p1, rfl, .inl (Evl.sq_of h3), h1, q G H _ (.val (.str _)) R (Ex.refl G) (by simp only [RV, Rep]) h⟩
  · exact h.elim
def wM1 (g : F2) (f : FE) (fb : FP) : FE := fun env s k => f env s fun r env1 s1 => match r.d with
  | .str a => fb env1 s1 fun e env2 s2 => g (.str a) e fun r2 => k r2 env2 s2
  | _ => False
theorem de_m1 {r : V → List V → Hp → VK → Prop} {g : F2} {to te : TE} {f : FE} {fb : FP} (hr : D2 c (fun x y => r x [y]) g) (h : DE c to f) (h' : DP c te fb) : DE c (tM1 r to te) (wM1 g f fb) := by
  intro G env s σ H k Q R hf q
  refine h G env s σ H _ _ R hf fun G1 H1 v r env1 s1 R1 e1 rv1 k1 => ?_
  obtain ⟨G2, R2, e2, rp⟩ := R1.toVal rv1
  cases hd : r.d with
  | str a =>
    rw [hd] at k1 rp
    simp only [Rep] at rp
    subst rp
    refine ⟨⟨a, rfl⟩, h' G2 env1 s1 σ H1 _ _ R2 k1 fun G3 H3 y e env3 s3 R3 e3 p3 k3 => ?_⟩
    exact hr G3 env3 s3 σ H3 _ _ (.str a) e _ Q R3 (show Rep c.K G3 (.str a) (.str a) by simp only [Rep]) p3 k3 fun G4 H4 v' r' R4 e4 rv4 k4 => q G4 H4 v' r' env3 s3 R4 (((e1.trans e2).trans e3).trans e4) rv4 k4
  | _ => rw [hd] at k1; exact k1.elim
def wSlS (f : FE) (fl fh : FO) : FE := fun env s k => f env s fun r env1 s1 => fl env1 s1 fun lo env2 s2 => fh env2 s2 fun hi env3 s3 => match r.d with
  | .str z => z.length ≤ sizeLine ∧ k (.val (.str (cutS z lo hi))) env3 s3
  | _ => False
theorem de_slS {te : TE} {f : FE} {tl th : TO} {fl fh : FO} (h : DE c te f) (h1 : DO c tl fl) (h2 : DO c th fh) : DE c (tSl rSlS te tl th) (wSlS f fl fh) := by
  intro G env s σ H k Q R hf q
  refine h G env s σ H _ _ R hf fun G1 H1 v r env1 s1 R1 e1 rv1 k1 => ?_
  obtain ⟨G2, R2, e2, rp⟩ := R1.toVal rv1
  refine h1 G2 env1 s1 σ H1 _ _ R2 k1 fun G3 H3 lo env3 s3 R3 e3 k3 => ?_
  refine h2 G3 env3 s3 σ H3 _ _ R3 k3 fun G4 H4 hi env4 s4 R4 e4 k4 => ?_
  cases hd : r.d with
  | str z =>
    rw [hd] at k4 rp
    simp only [Rep] at rp
    exact ⟨z, rp, k4.1, q G4 _ _ (.val (.str _)) env4 s4 R4 (((e1.trans e2).trans e3).trans e4) (by simp only [RV, Rep]) k4.2⟩
  | _ => rw [hd] at k4; exact k4.elim
end
def tOrS (ta tb : TE) : TE := fun σ H Q => ta σ H fun x H1 => ∃ z : Str, x = .str z ∧ z.length ≤ sizeLine ∧ if z.length = 0 then tb σ H1 Q else Q x H1
theorem pe_orS {X : Cx} {a b : Expr} {rest : List Expr} {pos : Pos} {ta tb : TE} (ha : PE X a ta) (hb : PE X (.BoolOp .Or (b :: rest) pos) tb) : PE X (.BoolOp .Or (a :: b :: rest) pos) (tOrS ta tb) := by
  refine ⟨fun pins s σ H Q I h => ?_⟩
  refine BoolOp_or (thn (ha.run pins s σ H _ I h) fun v s1 ⟨x, H1, I1, r1, q1⟩ => ?_)
  obtain ⟨z, rfl, hz, q1⟩ := q1
  obtain ⟨t, rfl⟩ := r1
  have hs2 : sizeLine = 16777216 := sizeLine_eq
  refine PySem.P.truthy_str (by omega) ?_
  by_cases h0 : z.length = 0
  · rw [if_pos h0] at q1
    have e : (((z.length : Int)) != 0) = false := by simp [h0]
    rw [e]
    exact hb.run pins _ σ H1 Q (I1.tok _) q1
  · rw [if_neg h0] at q1
    have e : (((z.length : Int)) != 0) = true := by simp [h0]
    rw [e]
    exact ⟨.str z, H1, I1.tok _, ⟨t, rfl⟩, q1⟩
def wOrS (f g : FE) : FE := fun env s k => f env s fun r env1 s1 => match r.d with
  | .str z => z.length ≤ sizeLine ∧ if z.length = 0 then g env1 s1 k else k (.val (.str z)) env1 s1
  | _ => False
theorem de_orS {c : Cxt} {ta tb : TE} {fa fb : FE} (h : DE c ta fa) (h' : DE c tb fb) : DE c (tOrS ta tb) (wOrS fa fb) := by
  intro G env s σ H k Q R hf q
  refine h G env s σ H _ _ R hf fun G1 H1 v r env1 s1 R1 e1 rv1 k1 => ?_
  obtain ⟨G2, R2, e2, rp⟩ := R1.toVal rv1
  cases hd : r.d with
  | str z =>
    rw [hd] at k1 rp
    simp only [Rep] at rp
    subst rp
    have k2 : z.length ≤ sizeLine ∧ if z.length = 0 then fb env1 s1 k else k (.val (.str z)) env1 s1 := k1
    refine ⟨z, rfl, k2.1, ?_⟩
    have k3 := k2.2
    split
    · rename_i z0
      rw [if_pos z0] at k3
      exact h' G2 env1 s1 σ H1 k Q R2 k3 fun G3 H3 b2 r2 env2 s2 R3 e3 rv2 k4 => q G3 H3 b2 r2 env2 s2 R3 ((e1.trans e2).trans e3) rv2 k4
    · rename_i z0
      rw [if_neg z0] at k3
      exact q G2 H1 _ (.val (.str z)) env1 s1 R2 (e1.trans e2) (by simp only [RV, Rep]) k3
  | _ => rw [hd] at k1; exact k1.elim
def wPar3 (i j l : Nat) (f : FA) : FS := fun env s k => f env s fun ds env1 s1 => match ds with
  | [d, e, g] => k (.nx (((env1.set i (.val d)).set j (.val e)).set l (.val g)) s1)
  | _ => False
theorem ds_par3 {c : Cxt} {ta : TA} {fa : FA} (i j l : Nat) (h : DA c ta fa) : DS c (tPar3 i j l ta) (wPar3 i j l fa) := by
  intro G env s σ H k E R hf q
  refine h G env s σ H _ _ R hf fun G1 H1 vs ds env1 s1 R1 e1 rl k1 => ?_
  match ds, rl, k1 with
  | [d, e, g], rl, k1 =>
    simp only [RepL] at rl
    obtain ⟨v, r, rfl, h2, w, r', rfl, h3, z, r'', rfl, h4, rfl⟩ := rl
    exact ⟨v, w, z, rfl, q.nx G1 H1 _ s1 _ (((R1.set (r := .val d) h2 i).set (r := .val e) h3 j).set (r := .val g) h4 l) e1 k1⟩
def par3K (i j l : Nat) (ks : Fl → Prop) : KA := fun ds e s => match ds with
  | [d, d', d''] => ks (.nx (((e.set i (.val d)).set j (.val d')).set l (.val d'')) s)
  | _ => False
theorem par3K_ap (i j l : Nat) (ks : Fl → Prop) (d d' d'' : D) (e : EnvD) (s : S) : par3K i j l ks [d, d', d''] e s = ks (.nx (((e.set i (.val d)).set j (.val d')).set l (.val d'')) s) := rfl
theorem wPar3_C (i j l : Nat) (fa : FA) (env : EnvD) (s : S) (ks : Fl → Prop) : wPar3 i j l fa env s ks = fa env s (par3K i j l ks) := rfl
def m1bK (g : F2) (a : Str) (ke : KE) : D → EnvD → S → Prop := fun e env2 s2 => g (.str a) e fun r2 => ke r2 env2 s2
theorem m1bK_ap (g : F2) (a : Str) (ke : KE) (e : D) (env2 : EnvD) (s2 : S) : m1bK g a ke e env2 s2 = g (.str a) e fun r2 => ke r2 env2 s2 := rfl
def m1K (g : F2) (fb : FP) (ke : KE) : KE := fun r env1 s1 => match r.d with
  | .str a => fb env1 s1 (m1bK g a ke)
  | _ => False
theorem m1K_ap (g : F2) (fb : FP) (ke : KE) (r : Sl) (env1 : EnvD) (s1 : S) : m1K g fb ke r env1 s1 = (match r.d with
  | .str a => fb env1 s1 (m1bK g a ke)
  | _ => False) := rfl
theorem wM1_C (g : F2) (f : FE) (fb : FP) (env : EnvD) (s : S) (ke : KE) : wM1 g f fb env s ke = f env s (m1K g fb ke) := rfl
def slS3K (z : Str) (lo : Option Int) (ke : KE) : Option Int → EnvD → S → Prop := fun hi env3 s3 => z.length ≤ sizeLine ∧ ke (.val (.str (cutS z lo hi))) env3 s3
theorem slS3K_ap (z : Str) (lo : Option Int) (ke : KE) (hi : Option Int) (env3 : EnvD) (s3 : S) : slS3K z lo ke hi env3 s3 = (z.length ≤ sizeLine ∧ ke (.val (.str (cutS z lo hi))) env3 s3) := rfl
def orSK (g : FE) (ke : KE) : KE := fun r env1 s1 => match r.d with
  | .str z => z.length ≤ sizeLine ∧ if z.length = 0 then g env1 s1 ke else ke (.val (.str z)) env1 s1
  | _ => False
theorem orSK_ap (g : FE) (ke : KE) (r : Sl) (env1 : EnvD) (s1 : S) : orSK g ke r env1 s1 = (match r.d with
  | .str z => z.length ≤ sizeLine ∧ if z.length = 0 then g env1 s1 ke else ke (.val (.str z)) env1 s1
  | _ => False) := rfl
theorem wOrS_C (f g : FE) (env : EnvD) (s : S) (ke : KE) : wOrS f g env s ke = f env s (orSK g ke) := rfl
end DL
set_option Elab.async false
set_option linter.all false
set_option maxRecDepth 100000
set_option maxHeartbeats 1000000
namespace DL
open PySem L2
open Evl (Ex)
theorem slT_K {X : Cx} (K : PySem.W.Frag) (hK : X.K = K := by rfl) : SlR X (rSlT K) := by subst hK; exact sl_tup
def wSlT (f : FE) (fl fh : FO) : FE := fun env s k => f env s fun r env1 s1 => fl env1 s1 fun lo env2 s2 => fh env2 s2 fun hi env3 s3 => match r.d with
  | .tup ds => ¬ (HT.sIx ds.length 0 lo = 0 ∧ HT.sIx ds.length ds.length hi = ds.length) ∧ k (.val (.tup (cutD ds lo hi))) env3 s3
  | _ => False
section
variable {c : Cxt}
theorem de_slT {te : TE} {f : FE} {tl th : TO} {fl fh : FO} (h : DE c te f) (h1 : DO c tl fl) (h2 : DO c th fh) : DE c (tSl (rSlT c.K) te tl th) (wSlT f fl fh) := by
  intro G env s σ H k Q R hf q
  refine h G env s σ H _ _ R hf fun G1 H1 v r env1 s1 R1 e1 rv1 k1 => ?_
  obtain ⟨G2, R2, e2, rp⟩ := R1.toVal rv1
  refine h1 G2 env1 s1 σ H1 _ _ R2 k1 fun G3 H3 lo env3 s3 R3 e3 k3 => ?_
  refine h2 G3 env3 s3 σ H3 _ _ R3 k3 fun G4 H4 hi env4 s4 R4 e4 k4 => ?_
  cases hd : r.d with
  | tup ds =>
    rw [hd] at k4 rp
    have rp4 := Rep.mono (e3.trans e4) _ rp
    simp only [Rep] at rp4
    obtain ⟨p, vs, rfl, g2, g3⟩ := rp4
    have hl := g3.length
    refine ⟨p, vs, rfl, Evl.ex_t R4.ex g2, by rw [hl]; exact k4.1, fun l hl' => ?_⟩
    obtain ⟨G5, R5, e5, rv5⟩ := R4.newTup hl' (RepL.cut (lo := lo) (hi := hi) g3)
    exact q G5 _ _ (.val (.tup _)) env4 s4 R5 ((((e1.trans e2).trans e3).trans e4).trans e5) rv5 k4.2
  | _ => rw [hd] at k4; exact k4.elim
end
end DL
set_option Elab.async false
set_option linter.all false
set_option maxRecDepth 100000
set_option maxHeartbeats 2000000
namespace DL
open PySem L2 PySem.Spec PyProof.Rows
open Evl (Ex)
def Fu (K : PySem.W.Frag) (H : Hp) : Prop := ∀ a xs ys, SqT K H a xs → SqT K H a ys → xs = ys
def tFu (K : PySem.W.Frag) (t : TS) : TS := fun E σ H => Fu K H → t E σ H
theorem pss_fu {X : Cx} {ss : List Stmt} {t : TS} (K : PySem.W.Frag) (h : PSs X ss t) (hK : X.K = K := by rfl) : PSs X ss (tFu K t) := by
  subst hK
  exact ⟨fun pins s σ H D I q => h.run pins s σ H D I (q fun a xs ys h1 h2 => I.tuple_inj h1 h2)⟩
section
variable {K : PySem.W.Frag} {G : Hp}
mutual
theorem rep_inj (e : Fu K G) : ∀ (d d' : D) {v : V}, flatD d → flatD d' → Rep K G d v → Rep K G d' v → d = d'
  | .non, d', v, _, f', h, h' => by
    simp only [Rep] at h
    subst h
    cases d' <;> simp [flatD, Rep] at f' h' ⊢
  | .bl b, d', v, _, f', h, h' => by
    simp only [Rep] at h
    subst h
    cases d' <;> simp [flatD, Rep] at f' h' ⊢
    exact h'
  | .int b, d', v, _, f', h, h' => by
    simp only [Rep] at h
    subst h
    cases d' <;> simp [flatD, Rep] at f' h' ⊢
    exact h'
  | .str b, d', v, _, f', h, h' => by
    simp only [Rep] at h
    subst h
    cases d' <;> simp [flatD, Rep] at f' h' ⊢
    exact h'
  | .tup ds, d', v, f, f', h, h' => by
    simp only [Rep] at h
    obtain ⟨p, vs, rfl, h2, h3⟩ := h
    cases d' with
    | tup es =>
      simp only [Rep] at h'
      obtain ⟨p', vs', h1', h2', h3'⟩ := h'
      cases h1'
      have := e _ _ _ h2 h2'
      subst this
      simp only [flatD] at f f'
      rw [repL_inj e ds es f f' h3 h3']
    | non => simp [Rep] at h'
    | bl b => simp [Rep] at h'
    | int b => simp [Rep] at h'
    | str b => simp [Rep] at h'
    | _ => simp [flatD] at f'
  | .lst ds, _, _, f, _, _, _ => by simp only [flatD] at f
  | .dic, _, _, f, _, _, _ => by simp only [flatD] at f
  | .scr _, _, _, f, _, _, _ => by simp only [flatD] at f
  | .st _, _, _, f, _, _, _ => by simp only [flatD] at f
  | .exc _, _, _, f, _, _, _ => by simp only [flatD] at f
  | .fn .., _, _, f, _, _, _ => by simp only [flatD] at f
theorem repL_inj (e : Fu K G) : ∀ (ds es : List D) {vs : List V}, flatL ds → flatL es → RepL K G ds vs → RepL K G es vs → ds = es
  | [], es, vs, _, _, h, h' => by
    simp only [RepL] at h
    subst h
    cases es with
    | nil => rfl
    | cons d es => simp only [RepL] at h'; obtain ⟨v, r, z, _⟩ := h'; cases z
  | d :: ds, es, vs, f, f', h, h' => by
    simp only [RepL] at h
    obtain ⟨v, r, rfl, h2, h3⟩ := h
    cases es with
    | nil => simp only [RepL] at h'; cases h'
    | cons d' es =>
      simp only [RepL] at h'
      obtain ⟨v', r', z, h2', h3'⟩ := h'
      cases z
      simp only [flatL] at f f'
      rw [rep_inj e d d' f.1 f'.1 h2 h2', repL_inj e ds es f.2 f'.2 h3 h3']
end
end
theorem Fu.le {K : PySem.W.Frag} {G H : Hp} (h : Fu K H) (e : Ex G H) : Fu K G := fun a xs ys h1 h2 => h a xs ys (Evl.ex_t e h1) (Evl.ex_t e h2)
def dl (G : Hp) (q : Addr) : Hp := fun p => if p = q then none else G p
section
variable {G G' H : Hp} {q p : Addr}
theorem dl_same : dl G q q = none := if_pos rfl
theorem dl_ne (h : p ≠ q) : dl G q p = G p := if_neg h
theorem dl_some {o : HO} (h : dl G q p = some o) : p ≠ q ∧ G p = some o := by
  by_cases hb : p = q
  · rw [hb, dl_same] at h; cases h
  · rw [dl_ne hb] at h; exact ⟨hb, h⟩
theorem dl_le : Ex (dl G q) G := fun _ _ h => (dl_some h).2
theorem dl_mono (e : Ex G G') : Ex (dl G q) (dl G' q) := fun p o h => by
  obtain ⟨h1, h2⟩ := dl_some h
  rw [dl_ne h1]
  exact e _ _ h2
theorem dl_none (h : G p = none) : dl G q p = none := by
  by_cases hb : p = q
  · rw [hb, dl_same]
  · rw [dl_ne hb]; exact h
theorem dl_ex (e : Ex G G') (h : G q = none) : Ex G (dl G' q) := fun p o hp => by
  have hb : p ≠ q := fun z => by rw [z, h] at hp; cases hp
  rw [dl_ne hb]
  exact e _ _ hp
theorem dl_t {K : PySem.W.Frag} {ws : List V} (hq : G q = some (.lst ws)) (p : Addr) (vs : List V) (h : SqT K G p vs) : SqT K (dl G q) p vs := by
  rcases h with h | h
  · refine .inl ?_
    have hb : p ≠ q := fun z => by
      rw [z] at h
      rcases h with h | ⟨o, h⟩
      · rw [hq] at h; cases h
      · rw [hq] at h; cases h
    rcases h with h | ⟨o, h⟩
    · exact .inl (by rw [dl_ne hb]; exact h)
    · exact .inr ⟨o, by rw [dl_ne hb]; exact h⟩
  · exact .inr h
end
def pth (K : PySem.W.Frag) (G : Hp) : V → List Nat → V → Prop
  | v, [], w => v = w
  | v, n :: π, w => ∃ p vs x, v = .ref p ∧ SqT K G p vs ∧ vs[n]? = some x ∧ pth K G x π w
theorem pth_mono {K : PySem.W.Frag} {G G' : Hp} (e : Ex G G') : ∀ (π : List Nat) {v w : V}, pth K G v π w → pth K G' v π w
  | [], _, _, h => h
  | n :: π, _, _, ⟨p, vs, x, h1, h2, h3, h4⟩ => ⟨p, vs, x, h1, Evl.ex_t e h2, h3, pth_mono e π h4⟩
theorem pth_snoc {K : PySem.W.Frag} {G : Hp} : ∀ (π : List Nat) (n : Nat) {v w : V}, pth K G v (π ++ [n]) w → ∃ p vs, pth K G v π (.ref p) ∧ SqT K G p vs ∧ vs[n]? = some w
  | [], n, _, _, ⟨p, vs, x, h1, h2, h3, h4⟩ => ⟨p, vs, h1, h2, by have h4' : x = _ := h4; rw [← h4']; exact h3⟩
  | m :: π, n, _, _, ⟨p, vs, x, h1, h2, h3, h4⟩ => by
    obtain ⟨p', vs', a1, a2, a3⟩ := pth_snoc π n h4
    exact ⟨p', vs', ⟨p, vs, x, h1, h2, h3, a1⟩, a2, a3⟩
def dpath : D → List Nat → Option D
  | d, [] => some d
  | .tup ds, n :: π => match ds[n]? with
    | some d => dpath d π
    | none => none
  | _, _ :: _ => none
theorem dpath_pth {K : PySem.W.Frag} {G : Hp} : ∀ (π : List Nat) {d e : D} {v : V}, Rep K G d v → dpath d π = some e → ∃ w, pth K G v π w ∧ Rep K G e w
  | [], d, e, v, h, q => by
    have : d = e := by simpa [dpath] using q
    subst this
    exact ⟨v, rfl, h⟩
  | n :: π, d, e, v, h, q => by
    cases d with
    | tup ds =>
      simp only [Rep] at h
      obtain ⟨p, vs, rfl, h2, h3⟩ := h
      unfold dpath at q
      cases z : ds[n]? with
      | none => rw [z] at q; cases q
      | some d =>
        rw [z] at q
        obtain ⟨x, h4, h5⟩ := RepL.get h3 z
        obtain ⟨w, h6, h7⟩ := dpath_pth π h5 q
        exact ⟨w, ⟨p, vs, x, rfl, h2, h4, h6⟩, h7⟩
    | _ => simp [dpath] at q
def DPth (c : Cxt) (i : Nat) (π : List Nat) (te : TE) : Prop := ∀ (G : Hp) (σ : L2.St) (H : Hp) (v w : V) (Q : VK), Ex G H → σ[i]? = some (some v) → pth c.K G v π w → Q w H → te σ H Q
theorem dpth_var {c : Cxt} {i : Nat} : DPth c i [] (tVar i) := fun G σ H v w Q e h1 h2 q => ⟨v, h1, by have h2' : v = w := h2; rw [h2']; exact q⟩
theorem atI_of {α : Type} {xs : List α} {n : Nat} {x : α} (h : xs[n]? = some x) : atI xs (n : Int) = some x := by
  rw [DL.atI_nat' (List.getElem?_eq_some_iff.mp h).1]
  exact h
theorem dpth_ix {c : Cxt} {i n : Nat} {π : List Nat} {te : TE} (h : DPth c i π te) : DPth c i (π ++ [n]) (tOp (rIx c.K) te (tC (.int (n : Int)))) := by
  intro G σ H v w Q e h1 h2 q
  obtain ⟨p, vs, a1, a2, a3⟩ := pth_snoc π n h2
  exact h G σ H v (.ref p) _ e h1 a1 (.inr (.inl ⟨p, vs, (n : Int), w, rfl, rfl, Evl.ex_t e a2, atI_of a3, q⟩))
structure Fnd (c : Cxt) (Gb : Hp) (q : Addr) (π : List Nat) (n i : Nat) (tn : List Nat) (G : Hp) (env : EnvD) (s : S) (σ : L2.St) (H : Hp) : Prop where
  R : Rel c G env s σ H
  hi : ∃ v, σ[i]? = some (some v) ∧ pth c.K G v π (.ref q)
  isl : ∃ vs, G q = some (.lst vs) ∧ vs.length = n
  h0 : c.H0 q = none
  g0 : c.G0 q = none
  gd : ∀ j d, env[j]? = some (.val d) → j ≠ i → j ∉ tn → ∃ v, σ[j]? = some (some v) ∧ Rep c.K (dl G q) d v
  base : Ex Gb (dl G q)
abbrev FSd := List Nat → Nat → FS
def DFd (c : Cxt) (i : Nat) (tn : List Nat) (t : TS) (f : FSd) : Prop := ∀ (Gb : Hp) (q : Addr) (π : List Nat) (n : Nat) (G : Hp) (env : EnvD) (s : S) (σ : L2.St) (H : Hp) (k : Fl → Prop) (E : Ends), Fnd c Gb q π n i tn G env s σ H → f π n env s k → DEnd c Gb k E → t E σ H
section
variable {c : Cxt} {Gb : Hp} {q : Addr} {π : List Nat} {n i : Nat} {tn : List Nat} {G : Hp} {env : EnvD} {s : S} {σ : L2.St} {H : Hp}
theorem Fnd.le (F : Fnd c Gb q π n i tn G env s σ H) : Ex Gb G := F.base.trans dl_le
theorem Fnd.grow (F : Fnd c Gb q π n i tn G env s σ H) {G' H' : Hp} {s' : S} (R : Rel c G' env s' σ H') (e : Ex G G') : Fnd c Gb q π n i tn G' env s' σ H' :=
  { R := R, hi := let ⟨v, h1, h2⟩ := F.hi; ⟨v, h1, pth_mono e π h2⟩, isl := let ⟨vs, h1, h2⟩ := F.isl; ⟨vs, e _ _ h1, h2⟩, h0 := F.h0, g0 := F.g0
    gd := fun j d h1 h2 h3 => let ⟨v, a1, a2⟩ := F.gd j d h1 h2 h3; ⟨v, a1, Rep.mono (dl_mono e) d a2⟩, base := F.base.trans (dl_mono e) }
theorem Fnd.set (F : Fnd c Gb q π n i tn G env s σ H) {v : V} {r : Sl} (rv : RV c G H env σ v r) (j : Nat) (hj : j ≠ i) (hr : j ∈ tn ∨ ∃ d, r = .val d ∧ Rep c.K (dl G q) d v) : Fnd c Gb q π n i tn G (env.set j r) s (σ.set j (some v)) H :=
  { R := F.R.set rv j, hi := (let ⟨v, h1, h2⟩ := F.hi; ⟨v, by rw [List.getElem?_set_ne hj]; exact h1, h2⟩), isl := F.isl, h0 := F.h0, g0 := F.g0, base := F.base
    gd := fun l d h1 h2 h3 => by
      by_cases hl : j = l
      · subst hl
        have il : j < env.length := by
          have := (List.getElem?_eq_some_iff.mp h1).1
          rwa [List.length_set] at this
        rw [List.getElem?_set_self il] at h1
        rcases hr with hr | ⟨d', rfl, hr⟩
        · exact absurd hr h3
        · cases h1
          exact ⟨v, by rw [List.getElem?_set_self (by rw [← F.R.len]; exact il)], hr⟩
      · rw [List.getElem?_set_ne hl] at h1
        rw [List.getElem?_set_ne hl]
        exact F.gd l d h1 h2 h3 }
end
def wDIf (fB : FT) (fb : FS) (fr : FSd) : FSd := fun π n env s k => fB env s fun b env2 s2 => if b = true then fb env2 s2 (toldBK k) else env2 = env ∧ fr π n env s2 k
def wDSet (j : Nat) (fe : FE) (fr : FSd) : FSd := fun π n env s k => fe env s fun r env1 s1 => env1 = env ∧ match r with
  | .val d => flatD d ∧ fr π n (env.set j r) s1 k
  | _ => False
def wDTnt (j : Nat) (fe : FE) (fr : FSd) : FSd := fun π n env s k => fe env s fun r env1 s1 => env1 = env ∧ fr π n (env.set j r) s1 k
def wDTup (j : Nat) (fw : FW) (fr : FSd) : FSd := fun π n env s k => fw env s fun ds es env1 s1 => env1 = env ∧ flatL ds ∧ flatL es ∧ fr π n (env.set j (.val (.tup [.lst ds, .lst es]))) s1 k
section
variable {c : Cxt} {i : Nat} {tn : List Nat}
theorem dfd_if {tt : TT} {fB : FT} {tb tr : TS} {fb : FS} {fr : FSd} (hB : DT c tt fB) (hb : DS c tb fb) (hr : DFd c i tn tr fr) : DFd c i tn (tSeq (tIfS tt tb tNext) tr) (wDIf fB fb fr) := by
  intro Gb q π n G env s σ H k E F hf d
  show tIfS tt tb tNext { E with nx := tr E } σ H
  refine hB G env s σ H _ _ F.R hf fun G4 H4 b env4 s4 R4 e4 k4 => ?_
  cases b with
  | true =>
    have k4' : fb env4 s4 (toldBK k) := k4
    exact hb G4 env4 s4 _ H4 _ _ R4 k4' ⟨fun _ _ _ _ _ _ _ z => z.elim, fun G' H' s' v r R' e rv z => d.rt G' H' s' v r R' ((F.le.trans e4).trans e) rv z, fun _ _ _ _ _ _ _ z => z.elim, fun _ _ _ _ _ _ _ z => z.elim⟩
  | false =>
    obtain ⟨rfl, k5⟩ : env4 = env ∧ fr π n env s4 k := k4
    exact hr Gb q π n G4 env4 s4 σ H4 k E (F.grow R4 e4) k5 d
theorem dfd_set {j : Nat} {te : TE} {fe : FE} {tr : TS} {fr : FSd} (hj : j ≠ i) (he : DE c te fe) (hr : DFd c i tn tr fr) : DFd c i tn (tSeq (tAsg te (gName j)) tr) (wDSet j fe fr) := by
  intro Gb q π n G env s σ H k E F hf d
  refine he G env s σ H _ _ F.R hf fun G1 H1 v r env1 s1 R1 e1 rv1 k1 => ?_
  obtain ⟨rfl, k2⟩ := k1
  cases r with
  | no => exact k2.elim
  | own ds => exact k2.elim
  | val dd =>
    have F1 := F.grow R1 e1
    obtain ⟨vs, hq, _⟩ := F1.isl
    exact hr Gb q π n G1 _ s1 _ H1 k E (F1.set rv1 j hj (.inr ⟨dd, rfl, rep_flat (dl_t hq) dd k2.1 rv1⟩)) k2.2 d
theorem dfd_tnt {j : Nat} {te : TE} {fe : FE} {tr : TS} {fr : FSd} (hj : j ≠ i) (ht : j ∈ tn) (he : DE c te fe) (hr : DFd c i tn tr fr) : DFd c i tn (tSeq (tAsg te (gName j)) tr) (wDTnt j fe fr) := by
  intro Gb q π n G env s σ H k E F hf d
  refine he G env s σ H _ _ F.R hf fun G1 H1 v r env1 s1 R1 e1 rv1 k1 => ?_
  obtain ⟨rfl, k2⟩ := k1
  exact hr Gb q π n G1 _ s1 _ H1 k E ((F.grow R1 e1).set rv1 j hj (.inl ht)) k2 d
theorem dfd_tup {j : Nat} {te : TE} {fw : FW} {tr : TS} {fr : FSd} (hj : j ≠ i) (he : DW c te fw) (hr : DFd c i tn tr fr) : DFd c i tn (tSeq (tAsg te (gName j)) tr) (wDTup j fw fr) := by
  intro Gb q π n G env s σ H k E F hf d
  refine he G env s σ H _ _ F.R hf fun G1 H1 v ds es env1 s1 R1 e1 tw k1 => ?_
  obtain ⟨rfl, f1, f2, k2⟩ := k1
  have F1 := F.grow R1 e1
  obtain ⟨p, q1, q2, vs, ws, rfl, hp, hne, ⟨a1, a2, a3, a4, a5, a6⟩, ⟨b1, b2, b3, b4, b5, b6⟩, R2, e2, rp⟩ := tw.known R1
  have F2 := F1.grow R2 e2
  obtain ⟨us, hq, _⟩ := F2.isl
  obtain ⟨us1, hq1, _⟩ := F1.isl
  have n1 : q1 ≠ q := fun z => by rw [z, hq1] at a1; cases a1
  have n2 : q2 ≠ q := fun z => by rw [z, hq1] at b1; cases b1
  refine hr Gb q π n _ _ s1 _ H1 k E (F2.set (r := .val (.tup [.lst ds, .lst es])) rp j hj (.inr ⟨_, rfl, ?_⟩)) k2 d
  simp only [Rep]
  refine ⟨p, _, rfl, dl_t hq _ _ (Evl.ex_t e2 hp), RepL.cons ?_ (RepL.one ?_)⟩
  · simp only [Rep]
    exact ⟨q1, vs, rfl, by rw [dl_ne n1, upd_ne hne, upd_same], repL_flat (fun _ _ z => dl_t hq _ _ (Evl.ex_t e2 z)) ds f1 a5⟩
  · simp only [Rep]
    exact ⟨q2, ws, rfl, by rw [dl_ne n2, upd_same], repL_flat (fun _ _ z => dl_t hq _ _ (Evl.ex_t e2 z)) es f2 b5⟩
end
abbrev FMu := List Nat → Nat → EnvD → S → (S → Prop) → Prop
def DMu (c : Cxt) (i : Nat) (t : TS) (f : FMu) : Prop := ∀ (q : Addr) (π : List Nat) (n : Nat) (G : Hp) (env : EnvD) (s : S) (σ : L2.St) (H : Hp) (k : S → Prop) (E : Ends), Rel c G env s σ H → (∃ v, σ[i]? = some (some v) ∧ pth c.K G v π (.ref q)) → (∃ vs, G q = some (.lst vs) ∧ vs.length = n) →
  f π n env s k → (∀ G' H' s' ws, Rel c G' env s' σ H' → Ex G G' → k s' → E.nx σ (upd H' q (.lst ws))) → t E σ H
def wMClr (π' : List Nat) : FMu := fun π _ _ s k => π = π' ∧ k s
def wMApp (π' : List Nat) (fa : FE) : FMu := fun π n env s k => (π = π' ∧ n < sizeLine) ∧ fa env s fun _ env1 s1 => env1 = env ∧ k s1
def wMIf (fB : FT) (f g : FMu) : FMu := fun π n env s k => fB env s fun b env2 s2 => env2 = env ∧ if b = true then f π n env s2 k else g π n env s2 k
section
variable {c : Cxt} {i : Nat}
theorem dmu_clr {π' : List Nat} {te : TE} (h : DPth c i π' te) : DMu c i (tDrop (tBM0 c.K "list" rClearL te)) (wMClr π') := by
  intro q π n G env s σ H k E R hi hl hf z
  obtain ⟨rfl, hf⟩ := hf
  obtain ⟨v, h1, h2⟩ := hi
  obtain ⟨vs, h3, _⟩ := hl
  have hH := R.ex _ _ h3
  exact h G σ H v (.ref q) _ R.ex h1 h2 ⟨.inl ⟨rfl, vs, Evl.sq_of hH⟩, q, vs, rfl, rfl, hH, z G H s [] R (Ex.refl G) hf⟩
theorem dmu_app {π' : List Nat} {te ta : TE} {fa : FE} (h : DPth c i π' te) (ha : DE c ta fa) : DMu c i (tDrop (tBM c.K "list" rAppend te (tCons ta tNil))) (wMApp π' fa) := by
  intro q π n G env s σ H k E R hi hl hf z
  obtain ⟨⟨rfl, hn⟩, hf⟩ := hf
  obtain ⟨v, h1, h2⟩ := hi
  obtain ⟨vs, h3, h4⟩ := hl
  refine h G σ H v (.ref q) _ R.ex h1 h2 ⟨.inl ⟨rfl, vs, Evl.sq_of (R.ex _ _ h3)⟩, ?_⟩
  refine ha G env s σ H _ _ R hf fun G1 H1 x r env1 s1 R1 e1 rv1 k1 => ?_
  obtain ⟨rfl, k2⟩ := k1
  exact ⟨q, vs, x, rfl, rfl, R1.ex _ _ (e1 _ _ h3), by rw [h4]; exact hn, z G1 H1 s1 _ R1 e1 k2⟩
theorem dmu_if {tt : TT} {fB : FT} {t u : TS} {f g : FMu} (hB : DT c tt fB) (h1 : DMu c i t f) (h2 : DMu c i u g) : DMu c i (tIfS tt t u) (wMIf fB f g) := by
  intro q π n G env s σ H k E R hi hl hf z
  refine hB G env s σ H _ _ R hf fun G4 H4 b env4 s4 R4 e4 k4 => ?_
  obtain ⟨rfl, k5⟩ := k4
  have hi' : ∃ v, σ[i]? = some (some v) ∧ pth c.K G4 v π (.ref q) := let ⟨v, a1, a2⟩ := hi; ⟨v, a1, pth_mono e4 π a2⟩
  have hl' : ∃ vs, G4 q = some (.lst vs) ∧ vs.length = n := let ⟨v, a1, a2⟩ := hl; ⟨v, e4 _ _ a1, a2⟩
  cases b with
  | true => exact h1 q π n G4 env4 s4 σ H4 k E R4 hi' hl' k5 fun G' H' s' ws R' e' kk => z G' H' s' ws R' (e4.trans e') kk
  | false => exact h2 q π n G4 env4 s4 σ H4 k E R4 hi' hl' k5 fun G' H' s' ws R' e' kk => z G' H' s' ws R' (e4.trans e') kk
end
def killD : List Nat → EnvD → EnvD
  | [], env => env
  | j :: js, env => killD js (env.set j .no)
theorem killD_len : ∀ (js : List Nat) (env : EnvD), (killD js env).length = env.length
  | [], _ => rfl
  | j :: js, env => by show (killD js (env.set j .no)).length = _; rw [killD_len js, List.length_set]
theorem killD_get : ∀ (js : List Nat) (env : EnvD) {l : Nat} {x : Sl}, (killD js env)[l]? = some x → x ≠ .no → l ∉ js ∧ env[l]? = some x
  | [], env, l, x, h, _ => ⟨by simp, h⟩
  | j :: js, env, l, x, h, hx => by
    obtain ⟨a, b⟩ := killD_get js (env.set j .no) h hx
    by_cases hl : j = l
    · subst hl
      by_cases il : j < env.length
      · rw [List.getElem?_set_self il] at b
        cases b
        exact absurd rfl hx
      · rw [List.getElem?_eq_none (by rw [List.length_set]; omega)] at b
        cases b
    · rw [List.getElem?_set_ne hl] at b
      exact ⟨fun z => by rcases List.mem_cons.mp z with z | z; exact hl z.symm; exact a z, b⟩
def wDMut (i : Nat) (tn : List Nat) (fm : FMu) (fr : FS) : FSd := fun π n env s k => fm π n env s fun s2 => flatOw (killD (i :: tn) env) ∧ fr (killD (i :: tn) env) s2 k
theorem dfd_mut {c : Cxt} {i : Nat} {tn : List Nat} {tm tr : TS} {fm : FMu} {fr : FS} (hm : DMu c i tm fm) (hr : DS c tr fr) : DFd c i tn (tSeq tm tr) (wDMut i tn fm fr) := by
  intro Gb q π n G env s σ H k E F hf d
  show tm { E with nx := tr E } σ H
  refine hm q π n G env s σ H _ _ F.R F.hi F.isl hf fun G' H' s' ws R' e' kk => ?_
  obtain ⟨hfl, kk⟩ := kk
  have F' := F.grow R' e'
  obtain ⟨vs, hq, _⟩ := F'.isl
  have hqH : H' q = some (.lst vs) := R'.ex _ _ hq
  refine hr (dl G' q) _ s' σ _ k E ?_ kk (d.mono F'.base)
  refine { ex := fun p o hp => ?_, st := fun a ha => ⟨dl_none (R'.st a ha).1, ?_⟩, sn := R'.sn, keep := fun p o h1 h2 h3 => ?_, kn := fun p hp => ?_, h0n := R'.h0n, tab := Tabs.updL R'.tab hqH, gnew := fun p us h1 h2 => dl_none (R'.gnew p us h1 h2), gx := fun p o hp => ?_, gtb := fun p ps hp => R'.gtb p ps (dl_some hp).2,
           len := by rw [killD_len]; exact R'.len, vals := fun j dd hj => ?_, owns := fun j es hj => ?_, dist := fun j l es fs v h1 h2 h3 h4 => R'.dist j l es fs v (killD_get _ _ h1 (by simp)).2 (killD_get _ _ h2 (by simp)).2 h3 h4 }
  · obtain ⟨h1, h2⟩ := dl_some hp
    rw [upd_ne h1]
    exact R'.ex _ _ h2
  · obtain ⟨m1, x, b, m2, m3⟩ := R'.st a ha
    exact ⟨x, b, m2, by rw [upd_ne (fun z => by rw [z, hq] at m1; cases m1)]; exact m3⟩
  · rw [upd_ne (fun z => by rw [z, F.h0] at h1; cases h1)]
    exact R'.keep p o h1 h2 h3
  · by_cases hb : p = q
    · rw [hb]; exact F.h0
    · rw [upd_ne hb] at hp; exact R'.kn p hp
  · rw [dl_ne (fun z => by rw [z, F.g0] at hp; cases hp)]
    exact R'.gx _ _ hp
  · obtain ⟨h1, h2⟩ := killD_get _ _ hj (by simp)
    exact F'.gd j dd h2 (fun z => h1 (by rw [z]; exact List.mem_cons_self)) fun z => h1 (List.mem_cons_of_mem _ z)
  · have hfu := flatOw_at hfl hj
    obtain ⟨h1, h2⟩ := killD_get _ _ hj (by simp)
    obtain ⟨v, m1, r, us, rfl, m3, m4, m5, m6, m7⟩ := R'.owns j es h2
    have hb : r ≠ q := fun z => by rw [z, hq] at m3; cases m3
    exact ⟨_, m1, r, us, rfl, dl_none m3, m4, m5, by rw [upd_ne hb]; exact m6, repL_flat (dl_t hq) es hfu m7⟩
def jn (A B : Hp) : Hp := fun p => match A p with
  | some o => some o
  | none => B p
theorem jn_l {A B : Hp} : Ex A (jn A B) := fun p o h => by unfold jn; rw [h]
theorem jn_inv {A B : Hp} {p : Addr} {o : HO} (h : jn A B p = some o) : A p = some o ∨ B p = some o := by
  unfold jn at h
  cases e : A p with
  | some u => rw [e] at h; exact .inl h
  | none => rw [e] at h; exact .inr h
theorem jn_none {A B : Hp} {p : Addr} (h1 : A p = none) (h2 : B p = none) : jn A B p = none := by
  unfold jn
  rw [h1]
  exact h2
def oneL (G : Hp) (h : Addr) : Hp := fun p => match G p with
  | some (.lst vs) => if p = h then some (.lst vs) else none
  | o => o
theorem oneL_le {G : Hp} {h : Addr} : Ex (oneL G h) G := fun p o e => by
  unfold oneL at e
  split at e
  · rename_i vs z
    by_cases hb : p = h
    · rw [if_pos hb] at e; rw [z]; exact e
    · rw [if_neg hb] at e; cases e
  · exact e
theorem oneL_h {G : Hp} {h : Addr} {vs : List V} (e : G h = some (.lst vs)) : oneL G h h = some (.lst vs) := by
  unfold oneL
  rw [e]
  exact if_pos rfl
theorem oneL_n {G : Hp} {h p : Addr} (hb : p ≠ h) : ∀ vs, oneL G h p ≠ some (.lst vs) := fun vs e => by
  unfold oneL at e
  split at e
  · rw [if_neg hb] at e; cases e
  · rename_i z
    exact z vs e
theorem oneL_t {K : PySem.W.Frag} {G : Hp} {h : Addr} (p : Addr) (vs : List V) (z : SqT K G p vs) : SqT K (oneL G h) p vs := by
  have mv : ∀ o, G p = some o → (∀ ws, o ≠ .lst ws) → oneL G h p = some o := fun o e n => by
    unfold oneL
    rw [e]
    split
    · rename_i ws z
      exact absurd (Option.some.inj z) (n ws)
    · rfl
  rcases z with z | z
  · rcases z with z | ⟨o, z⟩
    · exact .inl (.inl (mv _ z fun _ z => by cases z))
    · exact .inl (.inr ⟨o, mv _ z fun _ z => by cases z⟩)
  · exact .inr z
def wFndK (i : Nat) (f0 : FS) (fd : FSd) (env1 : EnvD) (ds : List D) (k : Fl → Prop) : Sl → S → Prop := fun r s2 =>
  f0 (env1.set i r) s2 k ∨ ∃ d π es hs xs, r = .val d ∧ ds = .lst hs :: xs ∧ dpath d π = some (.lst es) ∧ es ≠ hs ∧ flatL es ∧ i < env1.length ∧ fd π es.length (env1.set i r) s2 k
def difK (fb : FS) (fr : FSd) (π : List Nat) (n : Nat) (env : EnvD) (k : Fl → Prop) : Bool → EnvD → S → Prop := fun b env2 s2 => if b = true then fb env2 s2 (toldBK k) else env2 = env ∧ fr π n env s2 k
theorem difK_t (fb : FS) (fr : FSd) (π : List Nat) (n : Nat) (env : EnvD) (k : Fl → Prop) (e : EnvD) (s : S) : difK fb fr π n env k true e s = fb e s (toldBK k) := rfl
theorem difK_f (fb : FS) (fr : FSd) (π : List Nat) (n : Nat) (env : EnvD) (k : Fl → Prop) (e : EnvD) (s : S) : difK fb fr π n env k false e s = (e = env ∧ fr π n env s k) := by
  unfold difK
  rw [if_neg (by decide)]
theorem wDIf_C (fB : FT) (fb : FS) (fr : FSd) (π : List Nat) (n : Nat) (env : EnvD) (s : S) (k : Fl → Prop) : wDIf fB fb fr π n env s k = fB env s (difK fb fr π n env k) := rfl
theorem toldBK_rt (k : Fl → Prop) (r : Sl) (s : S) : toldBK k (.rt r s) = k (.rt r s) := rfl
def dsetK (j : Nat) (fr : FSd) (π : List Nat) (n : Nat) (env : EnvD) (k : Fl → Prop) : KE := fun r env1 s1 => env1 = env ∧ match r with
  | .val d => flatD d ∧ fr π n (env.set j r) s1 k
  | _ => False
theorem dsetK_ap (j : Nat) (fr : FSd) (π : List Nat) (n : Nat) (env : EnvD) (k : Fl → Prop) (d : D) (e : EnvD) (s : S) : dsetK j fr π n env k (.val d) e s = (e = env ∧ flatD d ∧ fr π n (env.set j (.val d)) s k) := rfl
theorem wDSet_C (j : Nat) (fe : FE) (fr : FSd) (π : List Nat) (n : Nat) (env : EnvD) (s : S) (k : Fl → Prop) : wDSet j fe fr π n env s k = fe env s (dsetK j fr π n env k) := rfl
def dtntK (j : Nat) (fr : FSd) (π : List Nat) (n : Nat) (env : EnvD) (k : Fl → Prop) : KE := fun r env1 s1 => env1 = env ∧ fr π n (env.set j r) s1 k
theorem dtntK_ap (j : Nat) (fr : FSd) (π : List Nat) (n : Nat) (env : EnvD) (k : Fl → Prop) (r : Sl) (e : EnvD) (s : S) : dtntK j fr π n env k r e s = (e = env ∧ fr π n (env.set j r) s k) := rfl
theorem wDTnt_C (j : Nat) (fe : FE) (fr : FSd) (π : List Nat) (n : Nat) (env : EnvD) (s : S) (k : Fl → Prop) : wDTnt j fe fr π n env s k = fe env s (dtntK j fr π n env k) := rfl
def dtupK (j : Nat) (fr : FSd) (π : List Nat) (n : Nat) (env : EnvD) (k : Fl → Prop) : KW := fun ds es env1 s1 => env1 = env ∧ flatL ds ∧ flatL es ∧ fr π n (env.set j (.val (.tup [.lst ds, .lst es]))) s1 k
theorem dtupK_ap (j : Nat) (fr : FSd) (π : List Nat) (n : Nat) (env : EnvD) (k : Fl → Prop) (ds es : List D) (e : EnvD) (s : S) : dtupK j fr π n env k ds es e s = (e = env ∧ flatL ds ∧ flatL es ∧ fr π n (env.set j (.val (.tup [.lst ds, .lst es]))) s k) := rfl
theorem wDTup_C (j : Nat) (fw : FW) (fr : FSd) (π : List Nat) (n : Nat) (env : EnvD) (s : S) (k : Fl → Prop) : wDTup j fw fr π n env s k = fw env s (dtupK j fr π n env k) := rfl
def mappK (env : EnvD) (k : S → Prop) : KE := fun _ env1 s1 => env1 = env ∧ k s1
theorem mappK_ap (env : EnvD) (k : S → Prop) (r : Sl) (e : EnvD) (s : S) : mappK env k r e s = (e = env ∧ k s) := rfl
theorem wMApp_C (π' : List Nat) (fa : FE) (π : List Nat) (n : Nat) (env : EnvD) (s : S) (k : S → Prop) : wMApp π' fa π n env s k = ((π = π' ∧ n < sizeLine) ∧ fa env s (mappK env k)) := rfl
theorem wMClr_C (π' : List Nat) (π : List Nat) (n : Nat) (env : EnvD) (s : S) (k : S → Prop) : wMClr π' π n env s k = (π = π' ∧ k s) := rfl
def mifK (f g : FMu) (π : List Nat) (n : Nat) (env : EnvD) (k : S → Prop) : Bool → EnvD → S → Prop := fun b env2 s2 => env2 = env ∧ if b = true then f π n env s2 k else g π n env s2 k
theorem mifK_t (f g : FMu) (π : List Nat) (n : Nat) (env : EnvD) (k : S → Prop) (e : EnvD) (s : S) : mifK f g π n env k true e s = (e = env ∧ f π n env s k) := by
  unfold mifK
  rw [if_pos rfl]
theorem mifK_f (f g : FMu) (π : List Nat) (n : Nat) (env : EnvD) (k : S → Prop) (e : EnvD) (s : S) : mifK f g π n env k false e s = (e = env ∧ g π n env s k) := by
  unfold mifK
  rw [if_neg (by decide)]
theorem wMIf_C (fB : FT) (f g : FMu) (π : List Nat) (n : Nat) (env : EnvD) (s : S) (k : S → Prop) : wMIf fB f g π n env s k = fB env s (mifK f g π n env k) := rfl
def dmutK (i : Nat) (tn : List Nat) (fr : FS) (env : EnvD) (k : Fl → Prop) : S → Prop := fun s2 => flatOw (killD (i :: tn) env) ∧ fr (killD (i :: tn) env) s2 k
theorem dmutK_ap (i : Nat) (tn : List Nat) (fr : FS) (env : EnvD) (k : Fl → Prop) (s : S) : dmutK i tn fr env k s = (flatOw (killD (i :: tn) env) ∧ fr (killD (i :: tn) env) s k) := rfl
theorem wDMut_C (i : Nat) (tn : List Nat) (fm : FMu) (fr : FS) (π : List Nat) (n : Nat) (env : EnvD) (s : S) (k : Fl → Prop) : wDMut i tn fm fr π n env s k = fm π n env s (dmutK i tn fr env k) := rfl
def wFnd (i : Nat) (F : Fn) (xq : Str → S → Prop) (fa : FA) (f0 : FS) (fd : FSd) : FS := fun env s k => fa env s fun ds env1 s1 =>
  (∃ hs xs, ds = .lst hs :: xs ∧ flatL hs ∧ flatL xs) ∧ F ds s1 (wFndK i f0 fd env1 ds k) xq
def fndK (i : Nat) (F : Fn) (xq : Str → S → Prop) (f0 : FS) (fd : FSd) (k : Fl → Prop) : KA := fun ds env1 s1 => (∃ hs xs, ds = .lst hs :: xs ∧ flatL hs ∧ flatL xs) ∧ F ds s1 (wFndK i f0 fd env1 ds k) xq
theorem fndK_ap (i : Nat) (F : Fn) (xq : Str → S → Prop) (f0 : FS) (fd : FSd) (k : Fl → Prop) (ds : List D) (e : EnvD) (s : S) : fndK i F xq f0 fd k ds e s = ((∃ hs xs, ds = .lst hs :: xs ∧ flatL hs ∧ flatL xs) ∧ F ds s (wFndK i f0 fd e ds k) xq) := rfl
theorem wFnd_C (i : Nat) (F : Fn) (xq : Str → S → Prop) (fa : FA) (f0 : FS) (fd : FSd) (env : EnvD) (s : S) (k : Fl → Prop) : wFnd i F xq fa f0 fd env s k = fa env s (fndK i F xq f0 fd k) := rfl
def wNever : FS := fun _ _ _ => False
theorem ds_never {c : Cxt} {t : TS} : DS c t wNever := fun _ _ _ _ _ _ _ _ h _ => h.elim
theorem ds_fnd {c : Cxt} {cl : Str → Addr} {E : XK} {xq : Str → S → Prop} {F : Fn} {ta : TA} {fa : FA} {i : Nat} {tn : List Nat} {tr : TS} {f0 : FS} {fd : FSd} (hE : EOk c cl E xq) (hA : DA c ta fa) (h0 : DS c tr f0) (hd : DFd c i tn tr fd) :
    DS c (tSeq (tAsg (tCall (spD c.K c.T cl F) [] E ta) (gName i)) (tFu c.K tr)) (wFnd i F xq fa f0 fd) := by
  intro G env s σ H k En R hf q
  show tAsg (tCall (spD c.K c.T cl F) [] E ta) (gName i) { En with nx := tFu c.K tr En } σ H
  refine hA G env s σ H _ _ R hf fun G1 H1 vs ds env1 s1 R1 e1 rl k1 => ?_
  obtain ⟨⟨hs, xs, rfl, fh, fx⟩, k1⟩ := k1
  show spD c.K c.T cl F (vs ++ []) H1 _ E
  rw [List.append_nil]
  simp only [RepL] at rl
  obtain ⟨v, r, rfl, rh, rx⟩ := rl
  obtain ⟨h, hv, rfl, gh, rhv⟩ := rep_lst rh
  have Rs : Rel (c.inn H1 (oneL G1 h)) (oneL G1 h) [] s1 [] H1 :=
    { ex := oneL_le.trans R1.ex, st := fun a ha => ⟨(by cases z : oneL G1 h a with
        | none => rfl
        | some o => have := oneL_le _ _ z; rw [(R1.st a ha).1] at this; cases this), (R1.st a ha).2⟩, sn := R1.sn, keep := fun _ _ h _ _ => (noT_some h).1, kn := fun _ h => noT_none h, h0n := fun p ps z => (noT_some z).2 ps rfl, tab := R1.tab, gnew := fun _ _ _ h => h, gx := Ex.refl _, gtb := fun p ps z => R1.gtb p ps (oneL_le _ _ z), len := rfl,
      vals := fun i d h => by simp at h, owns := fun i d h => by simp at h, dist := fun i j d e v h => by simp at h }
  have rls : RepL c.K (oneL G1 h) (.lst hs :: xs) (.ref h :: r) := by
    refine RepL.cons ?_ (repL_flat oneL_t xs fx rx)
    simp only [Rep]
    exact ⟨h, hv, rfl, oneL_h gh, repL_flat oneL_t hs fh rhv⟩
  have join : ∀ {G' H' s'}, Rel (c.inn H1 (oneL G1 h)) G' [] s' [] H' → Rel (c.inn H1 G1) (jn G' G1) [] s' [] H' := fun {G' H' s'} R' => by
    have kp : ∀ p o, G1 p = some o → H' p = some o := fun p o e => by
      have e2 := noT_of (R1.ex _ _ e) (fun ps z => R1.gtb p ps (by rw [e, z]))
      exact R'.keep p o e2 (fun z => by rw [(R1.st p z).1] at e; cases e) (fun ps z => R1.gtb p ps (by rw [e, z]))
    refine { ex := fun p o e => ?_, st := fun a ha => ⟨jn_none (R'.st a ha).1 (R1.st a ha).1, (R'.st a ha).2⟩, sn := R'.sn, keep := R'.keep, kn := R'.kn, h0n := R'.h0n, tab := R'.tab, gnew := fun p us a b => ?_, gx := fun p o e => ?_, gtb := fun p ps e => ?_, len := rfl,
             vals := fun i d h => by simp at h, owns := fun i d h => by simp at h, dist := fun i j d e v h => by simp at h }
    · rcases jn_inv e with e | e
      · exact R'.ex _ _ e
      · exact kp p o e
    · have b' : G1 p = none := b
      refine jn_none (R'.gnew p us a ?_) b
      show oneL G1 h p = none
      cases z : oneL G1 h p with
      | none => rfl
      | some o => have := oneL_le _ _ z; rw [b'] at this; cases this
    · have e' : G1 p = some o := e
      cases z : G' p with
      | none => unfold jn; rw [z]; exact e'
      | some u =>
        have h1 := R'.ex _ _ z
        rw [kp p o e'] at h1
        cases h1
        exact jn_l _ _ z
    · rcases jn_inv e with e | e
      · exact R'.gtb _ _ e
      · exact R1.gtb _ _ e
  refine ⟨c.inn H1 (oneL G1 h), oneL G1 h, s1, .lst hs :: xs, _, xq, rfl, rfl, Rs, rls, k1, fun G' H' v r' s' R' rv kk => ?_, fun G' H' cn s' R' hx => ?_⟩
  · have Rj := R1.out (join R')
    have eJ : Ex G1 (jn G' G1) := (join R').gx
    have rvj : RV c (jn G' G1) H' env1 σ v r' := by
      refine RV.out R1 (join R') ?_
      cases r' with
      | no => exact rv
      | val d => exact Rep.mono jn_l d rv
      | own es =>
        obtain ⟨⟨a, us, rfl, m3, m4, m5, m6, m7⟩, ap⟩ := rv
        have m4' : noT H1 a = none := m4
        refine ⟨⟨a, us, rfl, jn_none m3 ?_, m4, m5, m6, RepL.mono jn_l es m7⟩, ap⟩
        cases z : G1 a with
        | none => rfl
        | some o =>
          rw [noT_of (R1.ex _ _ z) (fun ps y => R1.gtb a ps (by rw [z, y]))] at m4'
          cases m4'
    show tFu c.K tr En (σ.set i (some v)) H'
    intro fu
    have Rset := Rj.set rvj i
    rcases kk with kk | ⟨d, π, es, hs', xs', rfl, e5, hp, hne, fe, il, kk⟩
    · exact h0 _ _ s' _ H' k En Rset kk (q.mono (e1.trans eJ))
    · cases e5
      have rv' : Rep c.K G' d v := rv
      obtain ⟨w, pw, rw_⟩ := dpath_pth π rv' hp
      obtain ⟨a, ws, rfl, ga, ra⟩ := rep_lst rw_
      have n1 : a ≠ h := fun z => by
        subst z
        have h1 := R'.ex _ _ ga
        have h2 : G' a = some (.lst hv) := R'.gx _ _ (oneL_h gh)
        rw [ga] at h2
        cases h2
        have rh' : RepL c.K G' hs _ := repL_flat (fun p vs y => Evl.ex_t R'.gx (oneL_t p vs y)) hs fh rhv
        exact hne (repL_inj (fu.le R'.ex) es hs fe fh ra rh')
      have nn : noT H1 a = none := by
        cases z : noT H1 a with
        | none => rfl
        | some o =>
          obtain ⟨z1, z2⟩ := noT_some z
          have za : c.a0 ≠ some a := fun y => by have := (R'.st a y).1; rw [ga] at this; cases this
          have h1 := R'.keep a o z za z2
          rw [R'.ex _ _ ga] at h1
          cases h1
          have : oneL G1 h a = none := by
            cases y : oneL G1 h a with
            | none => rfl
            | some u =>
              have h2 := oneL_le.trans R1.ex _ _ y
              rw [z1] at h2
              cases h2
              exact absurd y (oneL_n n1 ws)
          have h3 := R'.gnew a ws z this
          rw [ga] at h3
          cases h3
      have gn : G1 a = none := by
        cases z : G1 a with
        | none => rfl
        | some o =>
          rw [noT_of (R1.ex _ _ z) (fun ps y => R1.gtb a ps (by rw [z, y]))] at nn
          cases nn
      have c0 : c.G0 a = none := by
        cases z : c.G0 a with
        | none => rfl
        | some o => have := R1.gx _ _ z; rw [gn] at this; cases this
      have ilσ : i < σ.length := by rw [← R1.len]; exact il
      have eD : Ex G1 (dl (jn G' G1) a) := dl_ex eJ gn
      refine hd G a π es.length _ _ s' _ H' k En { R := Rset, hi := ⟨v, by rw [List.getElem?_set_self ilσ], pth_mono jn_l π pw⟩, isl := ⟨ws, jn_l _ _ ga, RepL.length ra⟩, h0 := R1.knN nn, g0 := c0, gd := fun j dd h1 h2 h3 => ?_, base := e1.trans eD } kk q
      rw [List.getElem?_set_ne (Ne.symm h2)] at h1 ⊢
      obtain ⟨w, m1, m2⟩ := R1.vals j dd h1
      exact ⟨w, m1, Rep.mono eD dd m2⟩
  · exact hE _ H' cn s' (R1.bare.out (join R')) hx
end DL
set_option Elab.async false
set_option linter.all false
set_option maxRecDepth 100000
set_option maxHeartbeats 2000000
namespace DL
open PySem L2 PySem.Spec PyProof.Rows
open Evl (Ex)
structure IEnd (c : Cxt) (i : Nat) (σ0 : L2.St) (G : Hp) (k : Fl → Prop) (E : Ends) : Prop where
  nx : ∀ G' H' env' s' σ', Rel c G' env' s' σ' H' → Ex G G' → σ'[i]? = σ0[i]? → k (.nx env' s') → E.nx σ' H'
  bk : ∀ G' H' env' s' σ', Rel c G' env' s' σ' H' → Ex G G' → σ'[i]? = σ0[i]? → k (.bk env' s') → E.bk σ' H'
  ct : ∀ G' H' env' s' σ', Rel c G' env' s' σ' H' → Ex G G' → σ'[i]? = σ0[i]? → k (.ct env' s') → E.ct σ' H'
  rt : ∀ r s', k (.rt r s') → False
theorem IEnd.mono {c : Cxt} {i : Nat} {σ0 σ1 : L2.St} {G G' : Hp} {k : Fl → Prop} {E : Ends} (e : Ex G G') (es : σ1[i]? = σ0[i]?) (q : IEnd c i σ0 G k E) : IEnd c i σ1 G' k E :=
  ⟨fun _ _ _ _ _ R x y => q.nx _ _ _ _ _ R (e.trans x) (y.trans es), fun _ _ _ _ _ R x y => q.bk _ _ _ _ _ R (e.trans x) (y.trans es), fun _ _ _ _ _ R x y => q.ct _ _ _ _ _ R (e.trans x) (y.trans es), q.rt⟩
def DSi (c : Cxt) (i : Nat) (t : TS) (f : FS) : Prop := ∀ (G : Hp) (env : EnvD) (s : S) (σ : L2.St) (H : Hp) (k : Fl → Prop) (E : Ends), Rel c G env s σ H → f env s k → IEnd c i σ G k E → t E σ H
section
variable {c : Cxt} {i : Nat} {t u : TS} {f g : FS} {te : TE}
theorem dsi_seq (h : DSi c i t f) (h' : DSi c i u g) : DSi c i (tSeq t u) (wSeq f g) := by
  intro G env s σ H k E R hf q
  exact h G env s σ H _ { E with nx := u E } R hf ⟨fun G' H' env' s' σ' R' e es kk => h' G' env' s' σ' H' k E R' kk (q.mono e es), q.bk, q.ct, q.rt⟩
theorem dsi_drop (h : DS c (tDrop te) f) : DSi c i (tDrop te) f := by
  intro G env s σ H k E R hf q
  have := h G env s σ H k { nx := fun σ' H' => σ'[i]? = σ[i]? → E.nx σ' H', rt := E.rt, bk := fun σ' H' => σ'[i]? = σ[i]? → E.bk σ' H', ct := fun σ' H' => σ'[i]? = σ[i]? → E.ct σ' H' } R hf
    ⟨fun G' H' env' s' σ' R' e kk es => q.nx G' H' env' s' σ' R' e es kk, fun _ _ s' _ r _ _ _ kk => (q.rt r s' kk).elim, fun G' H' env' s' σ' R' e kk es => q.bk G' H' env' s' σ' R' e es kk, fun G' H' env' s' σ' R' e kk es => q.ct G' H' env' s' σ' R' e es kk⟩
  have e : (fun (_ : V) (H1 : Hp) => (σ[i]? = σ[i]? → E.nx σ H1)) = fun _ H1 => E.nx σ H1 := by funext _ H1; simp
  have this : te σ H (fun (_ : V) (H1 : Hp) => (σ[i]? = σ[i]? → E.nx σ H1)) := this
  rw [e] at this
  exact this
theorem dsi_set {j : Nat} (hj : j ≠ i) (h : DS c (tAsg te (gName j)) f) : DSi c i (tAsg te (gName j)) f := by
  intro G env s σ H k E R hf q
  have := h G env s σ H k { nx := fun σ' H' => σ'[i]? = σ[i]? → E.nx σ' H', rt := E.rt, bk := fun σ' H' => σ'[i]? = σ[i]? → E.bk σ' H', ct := fun σ' H' => σ'[i]? = σ[i]? → E.ct σ' H' } R hf
    ⟨fun G' H' env' s' σ' R' e kk es => q.nx G' H' env' s' σ' R' e es kk, fun _ _ s' _ r _ _ _ kk => (q.rt r s' kk).elim, fun G' H' env' s' σ' R' e kk es => q.bk G' H' env' s' σ' R' e es kk, fun G' H' env' s' σ' R' e kk es => q.ct G' H' env' s' σ' R' e es kk⟩
  have e : (fun (x : V) (H1 : Hp) => ((σ.set j (some x))[i]? = σ[i]? → E.nx (σ.set j (some x)) H1)) = fun x H1 => E.nx (σ.set j (some x)) H1 := by funext x H1; rw [List.getElem?_set_ne hj]; simp
  have this : te σ H (fun (x : V) (H1 : Hp) => ((σ.set j (some x))[i]? = σ[i]? → E.nx (σ.set j (some x)) H1)) := this
  rw [e] at this
  exact this
theorem dsi_while {t : TT} {ft : FT} {tb : TS} {fb : FS} (ht : DT c t ft) (hb : DSi c i tb fb) : DSi c i (tWhile t tb) (wWhile ft fb) := by
  intro G env s σ H k E R hf q
  obtain ⟨n0, hf⟩ := hf
  refine ⟨fun n σ' H' => ∃ G' env' s', Rel c G' env' s' σ' H' ∧ Ex G G' ∧ σ'[i]? = σ[i]? ∧ whileW ft fb k n env' s', ⟨n0, G, env, s, R, Ex.refl G, rfl, hf⟩, ?_⟩
  rintro n σ' H' ⟨G', env', s', R', e', es, kk⟩
  cases n with
  | zero => exact kk.elim
  | succ n =>
    refine ht G' env' s' σ' H' _ _ R' kk fun G1 H1 b env1 s1 R1 e1 k1 => ?_
    have eG := e'.trans e1
    cases b with
    | true =>
      refine ⟨fun σ2 H2 => ∃ G2 env2 s2, Rel c G2 env2 s2 σ2 H2 ∧ Ex G G2 ∧ σ2[i]? = σ[i]? ∧ whileW ft fb k n env2 s2, fun σ2 H2 h2 => ⟨n, Nat.lt_succ_self n, h2⟩, ?_⟩
      exact hb G1 env1 s1 σ' H1 _ _ R1 k1 ⟨fun G5 H5 env5 s5 σ5 R5 e5 es5 k5 => ⟨G5, env5, s5, R5, eG.trans e5, es5.trans es, k5⟩,
        fun G5 H5 env5 s5 σ5 R5 e5 es5 k5 => q.nx G5 H5 env5 s5 σ5 R5 (eG.trans e5) (es5.trans es) k5, fun G5 H5 env5 s5 σ5 R5 e5 es5 k5 => ⟨G5, env5, s5, R5, eG.trans e5, es5.trans es, k5⟩, fun r s' kk => q.rt r s' kk⟩
    | false => exact q.nx G1 H1 env1 s1 σ' R1 eG es k1
end
abbrev FSo := EnvD → S → (EnvD → List D → S → Prop) → Prop
def DSo (c : Cxt) (i : Nat) (t : TS) (f : FSo) : Prop := ∀ (G : Hp) (env : EnvD) (s : S) (σ : L2.St) (H : Hp) (k : EnvD → List D → S → Prop) (E : Ends), Rel c G env s σ H → f env s k →
  (∀ G' H' env' s' σ' v ds, Rel c G' env' s' σ' H' → Ex G G' → σ'[i]? = σ[i]? → SlV c G' H' v ds → Apart env' σ' v → k env' ds s' → E.rt v H') → t E σ H
def seqOK (g : FSo) (k : EnvD → List D → S → Prop) : Fl → Prop := fun fl => match fl with
  | .nx e s1 => g e s1 k
  | _ => False
def wSeqO (f : FS) (g : FSo) : FSo := fun env s k => f env s (seqOK g k)
def wRetO (j : Nat) : FSo := fun env s k => match at_ env j with
  | .own ds => k (env.set j .no) ds s
  | _ => False
section
variable {c : Cxt} {i : Nat} {t u : TS} {f : FS} {g : FSo}
theorem dso_seq (h : DSi c i t f) (h' : DSo c i u g) : DSo c i (tSeq t u) (wSeqO f g) := by
  intro G env s σ H k E R hf q
  exact h G env s σ H _ { E with nx := u E } R hf ⟨fun G' H' env' s' σ' R' e es kk => h' G' env' s' σ' H' k E R' kk fun G2 H2 env2 s2 σ2 v ds R2 e2 es2 => q G2 H2 env2 s2 σ2 v ds R2 (e.trans e2) (es2.trans es),
    fun _ _ _ _ _ _ _ _ z => z.elim, fun _ _ _ _ _ _ _ _ z => z.elim, fun _ _ z => z.elim⟩
theorem dso_ret {j : Nat} : DSo c i (tRet (tVar j)) (wRetO j) := by
  intro G env s σ H k E R hf q
  unfold wRetO at hf
  cases e : at_ env j with
  | no => rw [e] at hf; exact hf.elim
  | val d => rw [e] at hf; exact hf.elim
  | own ds =>
    rw [e] at hf
    obtain ⟨v, h1, sl⟩ := R.owns j ds (at_val e (by simp))
    refine ⟨v, h1, q G H _ s σ v ds (R.setNoI j) (Ex.refl G) rfl sl (fun l es' h2 h3 => ?_) hf⟩
    by_cases hb : j = l
    · subst hb
      have hl : j < env.length := (List.getElem?_eq_some_iff.mp (at_val e (by simp))).1
      rw [List.getElem?_set_self hl] at h2
      cases h2
    · rw [List.getElem?_set_ne hb] at h2
      exact hb (R.dist j l ds es' v (at_val e (by simp)) h2 h1 h3)
end
abbrev FnO := List D → S → (List D → List D → S → Prop) → Prop
def spO (K : PySem.W.Frag) (T : List (Addr × Str)) (F : FnO) : Sp := fun vs H Q _ =>
  ∃ (c : Cxt) (G : Hp) (s : S) (hs : List D) (h : Addr) (k : List D → List D → S → Prop), vs = [.ref h] ∧ c.K = K ∧ c.T = T ∧ Rel c G [.own hs] s [some (.ref h)] H ∧ F hs s k ∧
    (∀ G' H' v ds hs' s', Rel c G' [.own hs'] s' [some (.ref h)] H' → Ex G G' → SlV c G' H' v ds → v ≠ .ref h → k hs' ds s' → Q v H')
structure DefO (P : Program) (w : World) (K : PySem.W.Frag) (mg : Str → Option Value) (base : Heap) (T : List (Addr × Str)) (f : Str) (ps : List Str) (k : Nat) (F : FnO) : Prop where
  ex : ∃ (fa : Addr) (fd : FuncData), mg f = some (.ref fa) ∧ PySem.W.keepIn K (.ref fa) = true ∧ Binds K fd ps [] ∧ FnOk P w K mg base (L2.CX P w) k fa fd ps (spO K T F) ∧
    ∃ oc od osl, K.lookup fa = some ⟨oc, od, .func fd, osl⟩
theorem pe_defO {X : Cx} {K : PySem.W.Frag} {T : List (Addr × Str)} {f : Str} {ps : List Str} {k : Nat} {F : FnO} {E : XK} {e : Expr} {es : List Expr} {t : TA} {p pos : Pos} (Dd : DefO X.prog X.w K X.mg X.base T f ps k F) (hr : Room k X.A) (hx : Passes (L2.CX X.prog X.w) X E) (ha : PA X (e :: es) t) (hK : X.K = K := by rfl) (hg : Gl X f := by rfl) (hdb : (f == ("__debug__" : Str)) = false := by decide)
    (he : starEach (e :: es) X.env = (false, eval e X.env) :: starEach es X.env := by rfl) (hpl : (backTo pos (starEach es X.env)).any (·.1) = false := by rfl) : PE X (.Call (.Name f p) (e :: es) [] pos) (tCall (spO K T F) [] E t) := by
  subst hK
  obtain ⟨fa, fd, h1, h2, h3, h4, _⟩ := Dd.ex
  exact pe_call h4 hr hg h1 h2 h3 .nil hx ha hdb he hpl
def startO (N : List Str) (hs : List D) : EnvD := .own hs :: List.replicate (N.length - 1) .no
theorem rel_startO {c : Cxt} {G H : Hp} {s : S} {hs : List D} {v : V} {N : List Str} (R : Rel c G [.own hs] s [some v] H) : Rel c G (startO N hs) s (L2.start N [v]) H := by
  have no : ∀ (i : Nat) (x : Sl), (startO N hs)[i]? = some x → x ≠ .no → i = 0 ∧ x = .own hs := fun i x h hx => by
    cases i with
    | zero => cases h; exact ⟨rfl, rfl⟩
    | succ i =>
      have h' : (List.replicate (N.length - 1) Sl.no)[i]? = some x := h
      rw [List.getElem?_replicate] at h'
      split at h'
      · cases h'; exact absurd rfl hx
      · cases h'
  refine { R with len := ?_, vals := fun i d hi => ?_, owns := fun i es hi => ?_, dist := fun i j es fs v h1 h2 _ _ => ?_ }
  · simp [startO, L2.start]
  · obtain ⟨_, z⟩ := no i _ hi (by simp)
    cases z
  · obtain ⟨rfl, z⟩ := no i _ hi (by simp)
    cases z
    exact R.owns 0 hs rfl
  · obtain ⟨rfl, _⟩ := no i _ h1 (by simp)
    obtain ⟨rfl, _⟩ := no j _ h2 (by simp)
    rfl
theorem Rel.first {c : Cxt} {G H : Hp} {env : EnvD} {s : S} {σ : L2.St} {hs : List D} {v : V} (R : Rel c G env s σ H) (h : env[0]? = some (.own hs)) (hv : σ[0]? = some (some v)) : Rel c G [.own hs] s [some v] H := by
  have no : ∀ (i : Nat) (x : Sl), ([.own hs] : EnvD)[i]? = some x → i = 0 ∧ x = .own hs := fun i x h => by
    cases i with
    | zero => cases h; exact ⟨rfl, rfl⟩
    | succ i => simp at h
  refine { R with len := rfl, vals := fun i d hi => ?_, owns := fun i es hi => ?_, dist := fun i j es fs v h1 h2 _ _ => ?_ }
  · obtain ⟨_, z⟩ := no i _ hi
    cases z
  · obtain ⟨rfl, z⟩ := no i _ hi
    cases z
    obtain ⟨w, h1, h2⟩ := R.owns 0 hs h
    rw [hv] at h1
    cases h1
    exact ⟨v, rfl, h2⟩
  · obtain ⟨rfl, _⟩ := no i _ h1
    obtain ⟨rfl, _⟩ := no j _ h2
    rfl
def fnO (N : List Str) (f : (Str → S → Prop) → FSo) : FnO := fun hs s k => f (fun _ _ => False) (startO N hs) s fun env' ds s' => match at_ env' 0 with
  | .own hs' => k hs' ds s'
  | _ => False
theorem Txt.defO {b : Book} {P : Program} {w : World} {K : PySem.W.Frag} {mg : Str → Option Value} {base : Heap} {T : List (Addr × Str)} (X : Txt b K mg) (i j : Nat) {st : Stmt} {f p0 : Str} {N : List Str} {k : Nat} {fs : (Str → S → Prop) → FSo}
    (hd : b.fn[i]? = some ⟨(f, none), f, f, defArgs st, defBody st, defScope st, [], []⟩) (hg : b.fa[j]? = some (.glo f)) (Sc : FnScope N [p0] (defScope st))
    (hbind : ∀ (kV doc pm : Value) (an : Option Addr) (cdv ct : Value) (us : List Value), us.length = [p0].length → bindArgs (PySem.W.fnOf f f (defArgs st) (defBody st) (defScope st) .none kV doc pm an cdv ct) ⟨us, []⟩ = pure ([p0].zip us))
    (hbody : ∀ (fa : Addr) (cdv : Value) (A : Around) (outer : List Env) (s : Shared) (H : Hp) (E : XK), cdv = .ref (He.cT K (f, none)).1 → Room k (A.deeper (envOfC f (defScope st) s.heap.objs.size fa cdv)) →
      ∃ t, PSs (cxOf (L2.CX P w) P w K mg base N f (defScope st) fa cdv A outer s H E) (defBody st) t ∧ ∀ (c : Cxt) (xq : Str → DL.S → Prop), c.K = K → c.T = T → EOk c (He.ga K) E xq → DSo c 0 t (fs xq)) :
    DefO P w K mg base T f [p0] (k + 1) (fnO N fs) := by
  obtain ⟨fd, FD⟩ := X.fun_ i hd
  refine ⟨He.ga K f, fd, X.glo j f hg, FD.kp, FD.bindsN hbind, ?_, let ⟨oc, od, _, _, _, _, _, _, _, osl, _, lk, _⟩ := FD.ex; ⟨oc, od, osl, lk⟩⟩
  have FD' : FunD K f f (defArgs st) (defBody st) (defScope st) [] [] (He.ga K f) fd := FD
  obtain ⟨oc, od, dV, kV, doc, pm, an, cdv, ct, osl, rfl, lk, hcd, _, _⟩ := FD'.ex
  have hcv : cdv = .ref (He.cT K (f, none)).1 := by
    obtain ⟨c, e⟩ := He.codeIn_ref hcd
    have e2 : He.codeOf K (f, none) = c := He.codeOf_eq (fd := PySem.W.fnOf f f (defArgs st) (defBody st) (defScope st) dV kV doc pm an cdv ct) lk (by rw [← e] <;> rfl)
    show cdv = .ref (He.codeOf K (f, none))
    rw [e2, e]
  refine fn_of lk hcd Sc (fun vs H Q E h => ?_) (fun A outer s H vs Q E hr h => ?_)
  · obtain ⟨c, G, s, hs, h, k, rfl, _⟩ := h
    rfl
  · obtain ⟨t, h1, h2⟩ := hbody _ cdv A outer s H E hcv hr
    obtain ⟨c, G, s', hs, h, k, rfl, hK, hT, R, hf, hq⟩ := h
    refine ⟨t, h1, ?_⟩
    refine h2 c (fun _ _ => False) hK hT (fun _ _ _ _ _ z => z.elim) G (startO N hs) s' (L2.start N [.ref h]) H _ _ (rel_startO R) hf fun G' H' env' s2 σ' v ds R' e es sl ap kk => ?_
    have es' : σ'[0]? = some (some (.ref h)) := es
    cases ea : at_ env' 0 with
    | no => rw [ea] at kk; exact kk.elim
    | val d => rw [ea] at kk; exact kk.elim
    | own hs' =>
      rw [ea] at kk
      have h0 : env'[0]? = some (.own hs') := at_val ea (by simp)
      exact hq G' H' v ds hs' s2 (R'.first h0 es') e sl (fun z => ap 0 hs' h0 (by rw [es', z])) kk
def dz (G A : Hp) : Hp := fun p => match A p with
  | some (.lst _) => none
  | _ => G p
section
variable {G G' A : Hp} {p : Addr}
theorem dz_lst {vs : List V} (h : A p = some (.lst vs)) : dz G A p = none := by unfold dz; rw [h]
theorem dz_keep (h : ∀ vs, A p ≠ some (.lst vs)) : dz G A p = G p := by
  unfold dz
  split
  · rename_i vs e; exact absurd e (h vs)
  · rfl
theorem dz_some {o : HO} (h : dz G A p = some o) : (∀ vs, A p ≠ some (.lst vs)) ∧ G p = some o := by
  unfold dz at h
  split at h
  · cases h
  · rename_i z; exact ⟨fun vs e => z vs e, h⟩
theorem dz_le : Ex (dz G A) G := fun _ _ h => (dz_some h).2
theorem dz_mono (e : Ex G G') : Ex (dz G A) (dz G' A) := fun p o h => by
  obtain ⟨h1, h2⟩ := dz_some h
  rw [dz_keep h1]
  exact e _ _ h2
theorem dz_none (h : G p = none) : dz G A p = none := by
  cases e : dz G A p with
  | none => rfl
  | some o => have := (dz_some e).2; rw [h] at this; cases this
theorem dz_ex (e : Ex G G') (h : ∀ p vs, A p = some (.lst vs) → G p = none) : Ex G (dz G' A) := fun p o hp => by
  rw [dz_keep fun vs z => by rw [h p vs z] at hp; cases hp]
  exact e _ _ hp
theorem dz_t {K : PySem.W.Frag} (e : Ex A G) (p : Addr) (vs : List V) (h : SqT K G p vs) : SqT K (dz G A) p vs := by
  have mv : ∀ o, G p = some o → (∀ ws, o ≠ .lst ws) → dz G A p = some o := fun o h n => by
    rw [dz_keep fun ws z => by have := e _ _ z; rw [h] at this; exact n ws (Option.some.inj this)]
    exact h
  rcases h with h | h
  · refine .inl ?_
    rcases h with h | ⟨o, h⟩
    · exact .inl (mv _ h fun _ z => by cases z)
    · exact .inr ⟨o, mv _ h fun _ z => by cases z⟩
  · exact .inr h
end
def pz (K : PySem.W.Frag) (G : Hp) : V → List Nat → V → Prop
  | v, [], w => v = w
  | v, n :: π, w => ∃ p vs x, v = .ref p ∧ (SqT K G p vs ∨ G p = some (.lst vs)) ∧ vs[n]? = some x ∧ pz K G x π w
theorem pz_mono {K : PySem.W.Frag} {G G' : Hp} (e : Ex G G') : ∀ (π : List Nat) {v w : V}, pz K G v π w → pz K G' v π w
  | [], _, _, h => h
  | n :: π, _, _, ⟨p, vs, x, h1, h2, h3, h4⟩ => ⟨p, vs, x, h1, h2.elim (fun z => .inl (Evl.ex_t e z)) (fun z => .inr (e _ _ z)), h3, pz_mono e π h4⟩
theorem pz_snoc {K : PySem.W.Frag} {G : Hp} : ∀ (π : List Nat) (n : Nat) {v w : V}, pz K G v (π ++ [n]) w → ∃ p vs, pz K G v π (.ref p) ∧ (SqT K G p vs ∨ G p = some (.lst vs)) ∧ vs[n]? = some w
  | [], n, _, _, ⟨p, vs, x, h1, h2, h3, h4⟩ => ⟨p, vs, h1, h2, by have h4' : x = _ := h4; rw [← h4']; exact h3⟩
  | m :: π, n, _, _, ⟨p, vs, x, h1, h2, h3, h4⟩ => by
    obtain ⟨p', vs', a1, a2, a3⟩ := pz_snoc π n h4
    exact ⟨p', vs', ⟨p, vs, x, h1, h2, h3, a1⟩, a2, a3⟩
def dzpath : D → List Nat → Option D
  | d, [] => some d
  | .tup ds, n :: π => match ds[n]? with
    | some d => dzpath d π
    | none => none
  | .lst ds, n :: π => match ds[n]? with
    | some d => dzpath d π
    | none => none
  | _, _ :: _ => none
theorem dzpath_pz {K : PySem.W.Frag} {G : Hp} : ∀ (π : List Nat) {d e : D} {v : V}, Rep K G d v → dzpath d π = some e → ∃ w, pz K G v π w ∧ Rep K G e w
  | [], d, e, v, h, q => by
    have : d = e := by simpa [dzpath] using q
    subst this
    exact ⟨v, rfl, h⟩
  | n :: π, d, e, v, h, q => by
    cases d with
    | tup ds =>
      simp only [Rep] at h
      obtain ⟨p, vs, rfl, h2, h3⟩ := h
      unfold dzpath at q
      cases z : ds[n]? with
      | none => rw [z] at q; cases q
      | some d =>
        rw [z] at q
        obtain ⟨x, h4, h5⟩ := RepL.get h3 z
        obtain ⟨w, h6, h7⟩ := dzpath_pz π h5 q
        exact ⟨w, ⟨p, vs, x, rfl, .inl h2, h4, h6⟩, h7⟩
    | lst ds =>
      simp only [Rep] at h
      obtain ⟨p, vs, rfl, h2, h3⟩ := h
      unfold dzpath at q
      cases z : ds[n]? with
      | none => rw [z] at q; cases q
      | some d =>
        rw [z] at q
        obtain ⟨x, h4, h5⟩ := RepL.get h3 z
        obtain ⟨w, h6, h7⟩ := dzpath_pz π h5 q
        exact ⟨w, ⟨p, vs, x, rfl, .inr h2, h4, h6⟩, h7⟩
    | _ => simp [dzpath] at q
def DPz (c : Cxt) (i : Nat) (π : List Nat) (te : TE) : Prop := ∀ (G : Hp) (σ : L2.St) (H : Hp) (v w : V) (Q : VK), Ex G H → σ[i]? = some (some v) → pz c.K G v π w → Q w H → te σ H Q
theorem dpz_var {c : Cxt} {i : Nat} : DPz c i [] (tVar i) := fun G σ H v w Q e h1 h2 q => ⟨v, h1, by have h2' : v = w := h2; rw [h2']; exact q⟩
theorem dpz_ix {c : Cxt} {i n : Nat} {π : List Nat} {te : TE} (h : DPz c i π te) : DPz c i (π ++ [n]) (tOp (rIx c.K) te (tC (.int (n : Int)))) := by
  intro G σ H v w Q e h1 h2 q
  obtain ⟨p, vs, a1, a2, a3⟩ := pz_snoc π n h2
  rcases a2 with a2 | a2
  · exact h G σ H v (.ref p) _ e h1 a1 (.inr (.inl ⟨p, vs, (n : Int), w, rfl, rfl, Evl.ex_t e a2, atI_of a3, q⟩))
  · exact h G σ H v (.ref p) _ e h1 a1 (.inl ⟨p, vs, (n : Int), w, rfl, rfl, Evl.sq_of (e _ _ a2), atI_of a3, q⟩)
structure FdZ (c : Cxt) (Gb A : Hp) (v0 : V) (d0 : D) (i : Nat) (tn : List Nat) (G : Hp) (env : EnvD) (s : S) (σ : L2.St) (H : Hp) : Prop where
  R : Rel c G env s σ H
  hv : σ[i]? = some (some v0)
  hA : Ex A G
  hr : Rep c.K A d0 v0
  zl : ∀ p vs, A p = some (.lst vs) → c.H0 p = none ∧ c.G0 p = none
  gd : ∀ j d, env[j]? = some (.val d) → j ≠ i → j ∉ tn → ∃ v, σ[j]? = some (some v) ∧ Rep c.K (dz G A) d v
  base : Ex Gb (dz G A)
abbrev FSz := D → FS
def DFz (c : Cxt) (i : Nat) (tn : List Nat) (t : TS) (f : FSz) : Prop := ∀ (Gb A : Hp) (v0 : V) (d0 : D) (G : Hp) (env : EnvD) (s : S) (σ : L2.St) (H : Hp) (k : Fl → Prop) (E : Ends), FdZ c Gb A v0 d0 i tn G env s σ H → f d0 env s k → DEnd c Gb k E → t E σ H
section
variable {c : Cxt} {Gb A : Hp} {v0 : V} {d0 : D} {i : Nat} {tn : List Nat} {G : Hp} {env : EnvD} {s : S} {σ : L2.St} {H : Hp}
theorem FdZ.le (F : FdZ c Gb A v0 d0 i tn G env s σ H) : Ex Gb G := F.base.trans dz_le
theorem FdZ.grow (F : FdZ c Gb A v0 d0 i tn G env s σ H) {G' H' : Hp} {s' : S} (R : Rel c G' env s' σ H') (e : Ex G G') : FdZ c Gb A v0 d0 i tn G' env s' σ H' :=
  { R := R, hv := F.hv, hA := F.hA.trans e, hr := F.hr, zl := F.zl
    gd := fun j d h1 h2 h3 => let ⟨v, a1, a2⟩ := F.gd j d h1 h2 h3; ⟨v, a1, Rep.mono (dz_mono e) d a2⟩, base := F.base.trans (dz_mono e) }
theorem FdZ.set (F : FdZ c Gb A v0 d0 i tn G env s σ H) {v : V} {r : Sl} (rv : RV c G H env σ v r) (j : Nat) (hj : j ≠ i) (hr : j ∈ tn ∨ (∀ d, r ≠ .val d) ∨ ∃ d, r = .val d ∧ Rep c.K (dz G A) d v) : FdZ c Gb A v0 d0 i tn G (env.set j r) s (σ.set j (some v)) H :=
  { R := F.R.set rv j, hv := by rw [List.getElem?_set_ne hj]; exact F.hv, hA := F.hA, hr := F.hr, zl := F.zl, base := F.base
    gd := fun l d h1 h2 h3 => by
      by_cases hl : j = l
      · subst hl
        have il : j < env.length := by
          have := (List.getElem?_eq_some_iff.mp h1).1
          rwa [List.length_set] at this
        rw [List.getElem?_set_self il] at h1
        cases h1
        rcases hr with hr | hr | ⟨d', e, hr⟩
        · exact absurd hr h3
        · exact absurd rfl (hr d)
        · cases e
          exact ⟨v, by rw [List.getElem?_set_self (by rw [← F.R.len]; exact il)], hr⟩
      · rw [List.getElem?_set_ne hl] at h1
        rw [List.getElem?_set_ne hl]
        exact F.gd l d h1 h2 h3 }
end
def difZ (fb : FS) (fr : FSz) (d0 : D) (env : EnvD) (k : Fl → Prop) : Bool → EnvD → S → Prop := fun b env2 s2 => if b = true then fb env2 s2 (toldBK k) else env2 = env ∧ fr d0 env s2 k
theorem difZ_t (fb : FS) (fr : FSz) (d0 : D) (env : EnvD) (k : Fl → Prop) (e : EnvD) (s : S) : difZ fb fr d0 env k true e s = fb e s (toldBK k) := rfl
theorem difZ_f (fb : FS) (fr : FSz) (d0 : D) (env : EnvD) (k : Fl → Prop) (e : EnvD) (s : S) : difZ fb fr d0 env k false e s = (e = env ∧ fr d0 env s k) := by
  unfold difZ
  rw [if_neg (by decide)]
def wZIf (fB : FT) (fb : FS) (fr : FSz) : FSz := fun d0 env s k => fB env s (difZ fb fr d0 env k)
theorem wZIf_C (fB : FT) (fb : FS) (fr : FSz) (d0 : D) (env : EnvD) (s : S) (k : Fl → Prop) : wZIf fB fb fr d0 env s k = fB env s (difZ fb fr d0 env k) := rfl
theorem dfz_if {c : Cxt} {i : Nat} {tn : List Nat} {tt : TT} {fB : FT} {tb tr : TS} {fb : FS} {fr : FSz} (hB : DT c tt fB) (hb : DS c tb fb) (hr : DFz c i tn tr fr) : DFz c i tn (tSeq (tIfS tt tb tNext) tr) (wZIf fB fb fr) := by
  intro Gb A v0 d0 G env s σ H k E F hf d
  show tIfS tt tb tNext { E with nx := tr E } σ H
  refine hB G env s σ H _ _ F.R hf fun G4 H4 b env4 s4 R4 e4 k4 => ?_
  cases b with
  | true =>
    have k4' : fb env4 s4 (toldBK k) := k4
    exact hb G4 env4 s4 _ H4 _ _ R4 k4' ⟨fun _ _ _ _ _ _ _ z => z.elim, fun G' H' s' v r R' e rv z => d.rt G' H' s' v r R' ((F.le.trans e4).trans e) rv z, fun _ _ _ _ _ _ _ z => z.elim, fun _ _ _ _ _ _ _ z => z.elim⟩
  | false =>
    rw [difZ_f] at k4
    obtain ⟨rfl, k5⟩ := k4
    exact hr Gb A v0 d0 G4 env4 s4 σ H4 k E (F.grow R4 e4) k5 d
abbrev FMz := D → EnvD → S → (S → Prop) → Prop
def DMz (c : Cxt) (i : Nat) (t : TS) (f : FMz) : Prop := ∀ (A : Hp) (v0 : V) (d0 : D) (G : Hp) (env : EnvD) (s : S) (σ : L2.St) (H : Hp) (k : S → Prop) (E : Ends), Rel c G env s σ H → σ[i]? = some (some v0) → Ex A G → Rep c.K A d0 v0 →
  f d0 env s k → (∀ G' H' s' q us ws, Rel c G' env s' σ H' → Ex G G' → A q = some (.lst us) → ws.length ≤ us.length + 1 → k s' → E.nx σ (upd H' q (.lst ws))) → t E σ H
def mzK (env : EnvD) (k : S → Prop) : KE := fun _ env1 s1 => env1 = env ∧ k s1
theorem mzK_ap (env : EnvD) (k : S → Prop) (r : Sl) (e : EnvD) (s : S) : mzK env k r e s = (e = env ∧ k s) := rfl
def wZApp (π : List Nat) (fa : FE) : FMz := fun d0 env s k => (∃ es, dzpath d0 π = some (.lst es) ∧ es.length < sizeLine) ∧ fa env s (mzK env k)
theorem wZApp_C (π : List Nat) (fa : FE) (d0 : D) (env : EnvD) (s : S) (k : S → Prop) : wZApp π fa d0 env s k = ((∃ es, dzpath d0 π = some (.lst es) ∧ es.length < sizeLine) ∧ fa env s (mzK env k)) := rfl
theorem dmz_app {c : Cxt} {i : Nat} {π : List Nat} {te ta : TE} {fa : FE} (h : DPz c i π te) (ha : DE c ta fa) : DMz c i (tDrop (tBM c.K "list" rAppend te (tCons ta tNil))) (wZApp π fa) := by
  intro A v0 d0 G env s σ H k E R hv hA hr hf z
  obtain ⟨⟨es, hp, hn⟩, hf⟩ := hf
  obtain ⟨w, h2, h3⟩ := dzpath_pz π hr hp
  obtain ⟨q, us, rfl, h4, h5⟩ := rep_lst h3
  have h6 := R.ex _ _ (hA _ _ h4)
  refine h A σ H v0 (.ref q) _ (hA.trans R.ex) hv h2 ⟨.inl ⟨rfl, us, Evl.sq_of h6⟩, ?_⟩
  refine ha G env s σ H _ _ R hf fun G1 H1 x r env1 s1 R1 e1 rv1 k1 => ?_
  obtain ⟨rfl, k2⟩ := k1
  exact ⟨q, us, x, rfl, rfl, R1.ex _ _ (e1 _ _ (hA _ _ h4)), by rw [h5.length]; exact hn, z G1 H1 s1 q us _ R1 e1 h4 (by simp) k2⟩
theorem FdZ.dead {c : Cxt} {Gb A : Hp} {v0 : V} {d0 : D} {i : Nat} {tn : List Nat} {G : Hp} {env : EnvD} {s : S} {σ : L2.St} {H : Hp} (F : FdZ c Gb A v0 d0 i tn G env s σ H) {q : Addr} {us ws : List V} (hq : A q = some (.lst us)) (hfl : flatOw (killD (i :: tn) env)) :
    Rel c (dz G A) (killD (i :: tn) env) s σ (upd H q (.lst ws)) := by
  have hqG := F.hA _ _ hq
  have hqH := F.R.ex _ _ hqG
  have qn : ∀ {p}, p = q → dz G A p = none := fun e => by rw [e]; exact dz_lst hq
  have h0 := F.zl q us hq
  refine { ex := fun p o hp => ?_, st := fun a ha => ⟨dz_none (F.R.st a ha).1, ?_⟩, sn := F.R.sn, keep := fun p o h1 h2 h3 => ?_, kn := fun p hp => ?_, h0n := F.R.h0n, tab := Tabs.updL F.R.tab hqH, gnew := fun p us h1 h2 => dz_none (F.R.gnew p us h1 h2), gx := fun p o hp => ?_, gtb := fun p ps hp => F.R.gtb p ps (dz_some hp).2,
           len := by rw [killD_len]; exact F.R.len, vals := fun j dd hj => ?_, owns := fun j es hj => ?_, dist := fun j l es fs v h1 h2 h3 h4 => F.R.dist j l es fs v (killD_get _ _ h1 (by simp)).2 (killD_get _ _ h2 (by simp)).2 h3 h4 }
  · rw [upd_ne (fun z => by rw [qn z] at hp; cases hp)]
    exact F.R.ex _ _ (dz_some hp).2
  · obtain ⟨m1, x, b, m2, m3⟩ := F.R.st a ha
    exact ⟨x, b, m2, by rw [upd_ne (fun z => by rw [z, hqG] at m1; cases m1)]; exact m3⟩
  · rw [upd_ne (fun z => by rw [z, h0.1] at h1; cases h1)]
    exact F.R.keep p o h1 h2 h3
  · by_cases hb : p = q
    · rw [hb]; exact h0.1
    · rw [upd_ne hb] at hp; exact F.R.kn p hp
  · rw [dz_keep fun vs z => by rw [(F.zl p vs z).2] at hp; cases hp]
    exact F.R.gx _ _ hp
  · obtain ⟨h1, h2⟩ := killD_get _ _ hj (by simp)
    exact F.gd j dd h2 (fun z => h1 (by rw [z]; exact List.mem_cons_self)) fun z => h1 (List.mem_cons_of_mem _ z)
  · have hfu := flatOw_at hfl hj
    obtain ⟨h1, h2⟩ := killD_get _ _ hj (by simp)
    obtain ⟨v, m1, r, vs, rfl, m3, m4, m5, m6, m7⟩ := F.R.owns j es h2
    have hb : r ≠ q := fun z => by rw [z, hqG] at m3; cases m3
    exact ⟨_, m1, r, vs, rfl, dz_none m3, m4, m5, by rw [upd_ne hb]; exact m6, repL_flat (dz_t F.hA) es hfu m7⟩
def zmutK (i : Nat) (tn : List Nat) (fr : FS) (env : EnvD) (k : Fl → Prop) : S → Prop := fun s2 => flatOw (killD (i :: tn) env) ∧ fr (killD (i :: tn) env) s2 k
theorem zmutK_ap (i : Nat) (tn : List Nat) (fr : FS) (env : EnvD) (k : Fl → Prop) (s : S) : zmutK i tn fr env k s = (flatOw (killD (i :: tn) env) ∧ fr (killD (i :: tn) env) s k) := rfl
def wZMut (i : Nat) (tn : List Nat) (fm : FMz) (fr : FS) : FSz := fun d0 env s k => fm d0 env s (zmutK i tn fr env k)
theorem wZMut_C (i : Nat) (tn : List Nat) (fm : FMz) (fr : FS) (d0 : D) (env : EnvD) (s : S) (k : Fl → Prop) : wZMut i tn fm fr d0 env s k = fm d0 env s (zmutK i tn fr env k) := rfl
theorem dfz_mut {c : Cxt} {i : Nat} {tn : List Nat} {tm tr : TS} {fm : FMz} {fr : FS} (hm : DMz c i tm fm) (hr : DS c tr fr) : DFz c i tn (tSeq tm tr) (wZMut i tn fm fr) := by
  intro Gb A v0 d0 G env s σ H k E F hf d
  show tm { E with nx := tr E } σ H
  refine hm A v0 d0 G env s σ H _ _ F.R F.hv F.hA F.hr hf fun G' H' s' q us ws R' e' hq _ kk => ?_
  obtain ⟨hfl, kk⟩ := kk
  have F' := F.grow R' e'
  exact hr (dz G' A) _ s' σ _ k E (F'.dead hq hfl) kk (d.mono F'.base)
def noLs (G : Hp) : Hp := fun p => match G p with
  | some (.lst _) => none
  | o => o
theorem noLs_le {G : Hp} : Ex (noLs G) G := fun p o e => by
  unfold noLs at e
  split at e
  · cases e
  · exact e
theorem noLs_n {G : Hp} {p : Addr} : ∀ vs, noLs G p ≠ some (.lst vs) := fun vs e => by
  unfold noLs at e
  split at e
  · cases e
  · rename_i z; exact z vs e
theorem noLs_t {K : PySem.W.Frag} {G : Hp} (p : Addr) (vs : List V) (z : SqT K G p vs) : SqT K (noLs G) p vs := by
  have mv : ∀ o, G p = some o → (∀ ws, o ≠ .lst ws) → noLs G p = some o := fun o e n => by
    unfold noLs
    rw [e]
    split
    · rename_i ws z
      exact absurd (Option.some.inj z) (n ws)
    · rfl
  rcases z with z | z
  · rcases z with z | ⟨o, z⟩
    · exact .inl (.inl (mv _ z fun _ z => by cases z))
    · exact .inl (.inr ⟨o, mv _ z fun _ z => by cases z⟩)
  · exact .inr z
def fndO (i : Nat) (fd : FSz) (env : EnvD) (k : Fl → Prop) (hs : List D) : List D → List D → S → Prop := fun hs' ds s2 => hs' = hs ∧ fd (.lst ds) (env.set i (.val (.lst ds))) s2 k
theorem fndO_ap (i : Nat) (fd : FSz) (env : EnvD) (k : Fl → Prop) (hs hs' ds : List D) (s : S) : fndO i fd env k hs hs' ds s = (hs' = hs ∧ fd (.lst ds) (env.set i (.val (.lst ds))) s k) := rfl
def wFndO (i j : Nat) (F : FnO) (fd : FSz) : FS := fun env s k => match at_ env j with
  | .own hs => (flatL hs ∧ i < env.length) ∧ F hs s (fndO i fd env k hs)
  | _ => False
theorem ds_fndO {c : Cxt} {E : XK} {F : FnO} {i j : Nat} {tn : List Nat} {tr : TS} {fd : FSz} (hd : DFz c i tn tr fd) :
    DS c (tSeq (tAsg (tCall (spO c.K c.T F) [] E (tCons (tVar j) tNil)) (gName i)) tr) (wFndO i j F fd) := by
  intro G env s σ H k En R hf q
  unfold wFndO at hf
  cases e : at_ env j with
  | no => rw [e] at hf; exact hf.elim
  | val d => rw [e] at hf; exact hf.elim
  | own hs =>
    rw [e] at hf
    obtain ⟨⟨fh, il⟩, hf⟩ := hf
    have hj := at_val e (by simp)
    obtain ⟨_, h1, h, hv, rfl, g1, g2, g3, g4, g5⟩ := R.owns j hs hj
    refine ⟨_, h1, ?_⟩
    show spO c.K c.T F ([.ref h] ++ []) H _ E
    have g4n := noT_of g4 (fun _ z => by cases z)
    have hn : ∀ {p o}, G p = some o → noT H p = some o := fun {p o} z => noT_of (R.ex _ _ z) fun ps y => R.gtb p ps (by rw [z, y])
    have Rs : Rel { c with H0 := fun p => if p = h then none else noT H p, G0 := noLs G } (noLs G) [.own hs] s [some (.ref h)] H :=
      { ex := noLs_le.trans R.ex, st := fun a ha => ⟨(by cases z : noLs G a with
          | none => rfl
          | some o => have := noLs_le _ _ z; rw [(R.st a ha).1] at this; cases this), (R.st a ha).2⟩, sn := R.sn
        keep := fun p o z _ _ => by
          have z' : (if p = h then none else noT H p) = some o := z
          split at z'
          · cases z'
          · exact (noT_some z').1
        kn := fun p z => by
          show (if p = h then none else noT H p) = none
          split
          · rfl
          · exact noT_none z
        h0n := fun p ps z => by
          have z' : (if p = h then none else noT H p) = some (.tbl ps) := z
          split at z'
          · cases z'
          · exact (noT_some z').2 ps rfl
        tab := R.tab, gnew := fun _ _ _ z => z, gx := Ex.refl _, gtb := fun p ps z => R.gtb p ps (noLs_le _ _ z), len := rfl
        vals := fun i d z => by
          cases i with
          | zero => cases z
          | succ i => simp at z
        owns := fun i d z => by
          cases i with
          | zero =>
            cases z
            exact ⟨_, rfl, h, hv, rfl, (by cases y : noLs G h with
              | none => rfl
              | some o => have := noLs_le _ _ y; rw [g1] at this; cases this), if_pos rfl, g3, g4, repL_flat noLs_t hs fh g5⟩
          | succ i => simp at z
        dist := fun i j d e v z1 z2 _ _ => by
          cases i with
          | zero =>
            cases j with
            | zero => rfl
            | succ j => simp at z2
          | succ i => simp at z1 }
    refine ⟨{ c with H0 := fun p => if p = h then none else noT H p, G0 := noLs G }, noLs G, s, hs, h, _, rfl, rfl, rfl, Rs, hf, fun G' H' v ds hs' s' R' eG sl hne kk => ?_⟩
    rw [fndO_ap] at kk
    obtain ⟨rfl, kk⟩ := kk
    obtain ⟨r, us, rfl, r1, r2, r3, r4, r5⟩ := sl
    have hrh : r ≠ h := fun z => hne (by rw [z])
    have r2' : noT H r = none := by
      have r2' : (if r = h then none else noT H r) = none := r2
      rwa [if_neg hrh] at r2'
    obtain ⟨_, o1, h', hv', o2, o3, o4, o5, o6, o7⟩ := R'.owns 0 hs' rfl
    cases o1
    cases o2
    have newL : ∀ p vs, G' p = some (.lst vs) → noT H p = none := fun p vs z => by
      have ph : p ≠ h := fun y => by rw [y, o3] at z; cases z
      cases y : noT H p with
      | none => rfl
      | some o =>
        obtain ⟨y1, y2⟩ := noT_some y
        have yk : (fun p => if p = h then none else noT H p) p = some o := by show (if p = h then none else noT H p) = _; rw [if_neg ph]; exact y
        have a0 : c.a0 ≠ some p := fun w => by have := (R'.st p w).1; rw [z] at this; cases this
        have h2 := R'.keep p o yk a0 y2
        rw [R'.ex _ _ z] at h2
        cases h2
        have nG : noLs G p = none := by
          cases w : noLs G p with
          | none => rfl
          | some u =>
            have w1 := noLs_le.trans R.ex _ _ w
            rw [y1] at w1
            cases w1
            exact absurd w (noLs_n vs)
        have := R'.gnew p vs yk nG
        rw [z] at this
        cases this
    have eA : Ex G' (upd G' r (.lst us)) := Ex.new r1
    have AL : ∀ p vs, upd G' r (.lst us) p = some (.lst vs) → noT H p = none := fun p vs z => by
      by_cases hb : p = r
      · rw [hb]; exact r2'
      · rw [upd_ne hb] at z; exact newL p vs z
    have AH : Ex (upd G' r (.lst us)) H' := fun p o z => by
      by_cases hb : p = r
      · subst hb; rw [upd_same] at z; cases z; exact r4
      · rw [upd_ne hb] at z; exact R'.ex _ _ z
    have GN : ∀ p, noT H p = none → G p = none := fun p z => by
      cases y : G p with
      | none => rfl
      | some o => rw [hn y] at z; cases z
    have kp : ∀ p o, G p = some o → H' p = some o := fun p o z => by
      have ph : p ≠ h := fun y => by rw [y, g1] at z; cases z
      exact R'.keep p o (by show (if p = h then none else noT H p) = _; rw [if_neg ph]; exact hn z) (fun y => by rw [(R.st p y).1] at z; cases z) (fun ps y => R.gtb p ps (by rw [z, y]))
    have eJ : Ex G (jn (upd G' r (.lst us)) G) := fun p o z => by
      cases y : (upd G' r (.lst us)) p with
      | none => unfold jn; rw [y]; exact z
      | some u =>
        have w1 := AH _ _ y
        rw [kp p o z] at w1
        cases w1
        exact jn_l _ _ y
    have Rj : Rel c (jn (upd G' r (.lst us)) G) env s' σ H' := by
      refine { ex := fun p o z => ?_, st := fun a ha => ⟨jn_none ?_ (R.st a ha).1, (R'.st a ha).2⟩, sn := R'.sn, keep := fun p o z1 z2 z3 => ?_, kn := fun p z => ?_, h0n := R.h0n, tab := R'.tab, gnew := fun p vs z1 z2 => ?_, gx := R.gx.trans eJ, gtb := fun p ps z => ?_, len := R.len,
               vals := fun l d hl => ?_, owns := fun l es hl => ?_, dist := R.dist }
      · rcases jn_inv z with z | z
        · exact AH _ _ z
        · exact kp _ _ z
      · have ar : a ≠ r := fun y => r3 (by rw [← y]; exact ha)
        rw [upd_ne ar]
        exact (R'.st a ha).1
      · have ph : p ≠ h := fun y => by rw [y, g2] at z1; cases z1
        exact R'.keep p o (by show (if p = h then none else noT H p) = _; rw [if_neg ph]; exact noT_of (R.keep p o z1 z2 z3) z3) z2 z3
      · by_cases ph : p = h
        · rw [ph]; exact g2
        · have := R'.kn p z
          have this : (if p = h then none else noT H p) = none := this
          rw [if_neg ph] at this
          exact R.knN this
      · obtain ⟨ws, hw⟩ := R.lstN z1
        have g0 := R.gnew p vs z1 z2
        refine jn_none ?_ g0
        have ph : p ≠ h := fun y => by rw [y, g2] at z1; cases z1
        rw [upd_ne (fun y => by rw [y, r2'] at hw; cases hw)]
        exact R'.gnew p ws (by show (if p = h then none else noT H p) = _; rw [if_neg ph]; exact hw) (by
          show noLs G p = none
          cases w : noLs G p with
          | none => rfl
          | some u => have := noLs_le _ _ w; rw [g0] at this; cases this)
      · rcases jn_inv z with z | z
        · by_cases hb : p = r
          · rw [hb, upd_same] at z; cases z
          · rw [upd_ne hb] at z; exact R'.gtb _ _ z
        · exact R.gtb _ _ z
      · obtain ⟨w, m1, m2⟩ := R.vals l d hl
        exact ⟨w, m1, Rep.mono eJ d m2⟩
      · obtain ⟨w, m1, pl, ws, rfl, m3, m4, m5, m6, m7⟩ := R.owns l es hl
        by_cases hpl : pl = h
        · subst hpl
          have : l = j := R.dist l j es hs' _ hl hj m1 h1
          subst this
          rw [hj] at hl
          cases hl
          refine ⟨_, m1, pl, hv', rfl, jn_none ?_ m3, m4, m5, o6, RepL.mono jn_l _ (RepL.mono eA _ o7)⟩
          rw [upd_ne (Ne.symm hrh)]
          exact o3
        · have m6n := noT_of m6 (fun _ z => by cases z)
          have yk : (fun p => if p = h then none else noT H p) pl = some (.lst ws) := by show (if pl = h then none else noT H pl) = _; rw [if_neg hpl]; exact m6n
          refine ⟨_, m1, pl, ws, rfl, jn_none ?_ m3, m4, m5, R'.keep pl _ yk m5 (fun _ z => by cases z), RepL.mono eJ _ m7⟩
          rw [upd_ne (fun y => by rw [y, r2'] at m6n; cases m6n)]
          exact R'.gnew pl ws yk (by
            show noLs G pl = none
            cases w : noLs G pl with
            | none => rfl
            | some u => have := noLs_le _ _ w; rw [m3] at this; cases this)
    have hrep : Rep c.K (upd G' r (.lst us)) (.lst ds) (.ref r) := by
      simp only [Rep]
      exact ⟨r, us, rfl, upd_same, RepL.mono eA ds r5⟩
    have rvv : RV c (jn (upd G' r (.lst us)) G) H' env σ (.ref r) (.val (.lst ds)) := Rep.mono jn_l _ hrep
    have ilσ : i < σ.length := by rw [← R.len]; exact il
    have eD : Ex G (dz (jn (upd G' r (.lst us)) G) (upd G' r (.lst us))) := dz_ex eJ fun p vs z => GN p (AL p vs z)
    refine hd G (upd G' r (.lst us)) (.ref r) (.lst ds) _ _ s' _ H' k En { R := Rj.set rvv i, hv := by rw [List.getElem?_set_self ilσ], hA := jn_l, hr := hrep, zl := fun p vs z => ⟨R.knN (AL p vs z), ?_⟩, gd := fun l d z1 z2 z3 => ?_, base := eD } kk q
    · cases w : c.G0 p with
      | none => rfl
      | some o => have := R.gx _ _ w; rw [GN p (AL p vs z)] at this; cases this
    · rw [List.getElem?_set_ne (Ne.symm z2)] at z1 ⊢
      obtain ⟨w, m1, m2⟩ := R.vals l d z1
      exact ⟨w, m1, Rep.mono eD d m2⟩
theorem seqOK_nx' {g : FSo} {k : EnvD → List D → S → Prop} {e : EnvD} {s : S} (h : g e s k) : seqOK g k (.nx e s) := h
theorem wSeqO' {f : FS} {g : FSo} {env : EnvD} {s : S} {k : EnvD → List D → S → Prop} (h : f env s (seqOK g k)) : wSeqO f g env s k := h
def DEp (c : Cxt) (A : Hp) (te : TE) (fe : FE) : Prop := ∀ (G : Hp) (env : EnvD) (s : S) (σ : L2.St) (H : Hp) (k : KE) (Q : VK), Rel c G env s σ H → Ex A G → fe env s k →
  (∀ G' H' v d env' s', Rel c G' env' s' σ H' → Ex G G' → Rep c.K (dz G' A) d v → k (.val d) env' s' → Q v H') → te σ H Q
theorem comp_z {c : Cxt} {A : Hp} {wi : TI} {fi : FI} {g : TG} {fg : FG} {tt : TT} {ft : FT} {te : TE} {fe : FE} {vs : List Nat} (hi : DI c wi fi) (hg : ∀ H0, DG (c.h0 H0) g fg) (ht : ∀ H0, DT (c.h0 H0) tt ft) (he : ∀ H0, DEp (c.h0 H0) A te fe) (hw : GW g vs) {G : Hp} {env : EnvD} {s : S} {σ : L2.St} {H : Hp} {k : List D → EnvD → S → Prop} {Q : VK}
    (R : Rel c G env s σ H) (hA : Ex A G) (hf : fi env s fun ds env1 s1 => noOwn env1 vs ∧ ds.length < sizeLine ∧ compW fg ft fe vs (fun acc env2 s2 => k acc (backD env1 env2 vs) s2) ds [] (wipeD env1 vs) s1)
    (q : ∀ G' H' p avs acc env' s', Rel c G' env' s' σ H' → Ex G G' → G' p = none → c.H0 p = none → c.a0 ≠ some p → H' p = some (.lst avs) → RepL c.K (dz G' A) acc avs → Apart env' σ (.ref p) → k acc env' s' → Q (.ref p) H') : tLc wi g tt te vs σ H Q := by
  refine hi G env s σ H _ _ R hf fun G1 H1 J ds env1 s1 R1 e1 w k1 => ?_
  obtain ⟨hn, hlen, k1⟩ := k1
  obtain ⟨n, Gd, Y, hnn, wk, hG, hY⟩ := w.ex
  intro Dl hD
  have h0 : c.H0 Dl = none := R1.kn Dl hD
  have ha0 : c.a0 ≠ some Dl := R1.a0ne hD
  have R1n := R1.new (o := .lst []) hD (fun _ z => by cases z)
  have ap0 := R1.newApart hD
  have apw : Apart (wipeD env1 vs) (L2.wipe σ vs) (.ref Dl) := fun i es h1 h2 => by
    obtain ⟨a1, a2⟩ := wipeD_some (by simp) h1
    rw [wipe_keep a2] at h2
    exact ap0 i es a1 h2
  have apo : ∀ {avs G4 env4 s4 σ4 H4}, Rel (c.h0 (upd c.H0 Dl (.lst avs))) G4 env4 s4 σ4 H4 → Apart env4 σ4 (.ref Dl) := fun {avs G4 env4 s4 σ4 H4} R4 i es h1 h2 => by
    obtain ⟨v, e1, q, us, rfl, e3, e4, _⟩ := R4.owns i es h1
    rw [e1] at h2
    cases h2
    have e4' : upd c.H0 Dl (.lst avs) Dl = none := e4
    rw [upd_same] at e4'
    cases e4'
  have HDl : ∀ {avs G4 env4 s4 σ4 H4}, Rel (c.h0 (upd c.H0 Dl (.lst avs))) G4 env4 s4 σ4 H4 → H4 Dl = some (.lst avs) ∧ G4 Dl = none := fun {avs G4 env4 s4 σ4 H4} R4 =>
    ⟨R4.keep Dl _ upd_same ha0 (fun _ z => by cases z), R4.gnew Dl avs (by show upd c.H0 Dl _ Dl = some (.lst avs); rw [upd_same]) (by
      have : c.G0 Dl = none := by
        cases q : c.G0 Dl with
        | none => rfl
        | some o => have := R1.ex _ _ (R1.gx _ _ q); rw [hD] at this; cases this
      exact this)⟩
  refine lc_it wk (fun i H' => ∃ G' acc avs env' s', Rel (c.h0 (upd c.H0 Dl (.lst avs))) G' env' s' (L2.wipe σ vs) H' ∧ Ex G1 G' ∧ RepL c.K (dz G' A) acc avs ∧ acc.length ≤ i ∧
      compW fg ft fe vs (fun acc env2 s2 => k acc (backD env1 env2 vs) s2) (ds.drop i) acc env' s') ?_ ?_ ?_ ?_
  · exact ⟨G1, [], [], _, s1, (R1n.wipe vs).hide upd_same (R1.g0 hD) h0 apw, Ex.refl G1, RepL.nil, Nat.le_refl _, by simpa using k1⟩
  · rintro i H' _ ⟨G', acc, avs, env', s', R', e', _⟩
    exact hG ⟨_, Ex.new h0⟩ G' H' _ s' _ R' e'
  · rintro i x H' H3 hin ⟨G', acc, avs, env', s', R', e', hacc, hal, kk⟩ y
    obtain ⟨G3, d, R3, e3, hd, rd⟩ := hY i ⟨_, Ex.new h0⟩ G' H' _ s' _ x H3 hin R' e' y
    have hdrop : ds.drop i = d :: ds.drop (i + 1) := by
      obtain ⟨hl, hx⟩ := List.getElem?_eq_some_iff.mp hd
      rw [List.drop_eq_getElem_cons hl, hx]
    rw [hdrop] at kk
    have hw' : ∀ (Q : L2.St → Hp → Prop), g x (L2.wipe σ vs) H3 (fun σ2 H2 => L2.wipe σ2 vs = L2.wipe σ vs → Q σ2 H2) → g x (L2.wipe σ vs) H3 (fun σ2 H2 => L2.wipe σ2 vs = L2.wipe σ vs ∧ Q σ2 H2) := by
      intro Q q
      have := hw x (L2.wipe σ vs) H3 Q (by rw [wipe_wipe]; exact q)
      rw [wipe_wipe] at this
      exact this
    refine hw' _ ?_
    refine hg _ G3 _ s' _ H3 x (.val d) _ _ R3 rd kk fun G4 H4 env4 s4 σ4 R4 e4 k4 => ?_
    intro hwipe
    refine ht _ G4 env4 s4 σ4 H4 _ _ R4 k4 fun G5 H5 b env5 s5 R5 e5 k5 => ?_
    have fin : ∀ {G6 env6 s6 H6}, Rel (c.h0 (upd c.H0 Dl (.lst avs))) G6 env6 s6 σ4 H6 → Rel (c.h0 (upd c.H0 Dl (.lst avs))) G6 (wipeD env6 vs) s6 (L2.wipe σ vs) H6 := fun {G6 env6 s6 H6} R6 => by
      have := R6.wipe vs
      rw [hwipe] at this
      exact this
    cases b with
    | true =>
      refine he _ G5 env5 s5 σ4 H5 _ _ R5 ((hA.trans e1).trans (((e'.trans e3).trans e4).trans e5)) k5 fun G7 H6 v r env6 s6 R7 e7 rp k6 => ?_
      have R8 := fin R7
      obtain ⟨hl, hg7⟩ := HDl R8
      have eAll : Ex G' G7 := ((e3.trans e4).trans e5).trans e7
      have hacc7 : RepL c.K (dz G7 A) (acc ++ [r]) (avs ++ [v]) := RepL.append (RepL.mono (dz_mono eAll) acc hacc) (RepL.one rp)
      refine ⟨avs, hl, by rw [hacc.length]; omega, G7, acc ++ [r], avs ++ [v], _, s6, ?_, e'.trans eAll, hacc7, by simp; omega, k6⟩
      have ap9 := apo R8
      have R9 := R8.unhide h0
      have R10 : Rel c G7 (wipeD env6 vs) s6 (L2.wipe σ vs) (upd H6 Dl (.lst (avs ++ [v]))) :=
        { R9 with ex := R9.ex.mut hg7
                  st := fun a ha => (by
                    obtain ⟨m1, y, z, m2, m3⟩ := R9.st a ha
                    exact ⟨m1, y, z, m2, by rw [upd_ne (fun z => ha0 (by rw [← z]; exact ha))]; exact m3⟩)
                  keep := fun p o h1 h2 h3 => (by
                    rw [upd_ne (fun z => by rw [z, h0] at h1; cases h1)]
                    exact R9.keep p o h1 h2 h3)
                  kn := fun p hp => (by
                    by_cases hb : p = Dl
                    · rw [hb]; exact h0
                    · rw [upd_ne hb] at hp; exact R9.kn p hp)
                  tab := Tabs.updL R9.tab hl
                  owns := fun i es hi => (by
                    obtain ⟨w, n1, p, us, rfl, n3, n4, n5, n6, n7⟩ := R9.owns i es hi
                    have hb : p ≠ Dl := fun z => ap9 i es hi (by rw [n1, z])
                    exact ⟨_, n1, p, us, rfl, n3, n4, n5, by rw [upd_ne hb]; exact n6, n7⟩) }
      exact R10.hide upd_same hg7 h0 ap9
    | false =>
      exact ⟨G5, acc, avs, _, s5, fin R5, e'.trans ((e3.trans e4).trans e5), RepL.mono (dz_mono ((e3.trans e4).trans e5)) acc hacc, by omega, k5⟩
  · rintro H' ⟨G', acc, avs, env', s', R', e', hacc, hal, kk⟩
    rw [hnn, List.drop_length] at kk
    obtain ⟨hl, hgD⟩ := HDl R'
    have ap9 := apo R'
    have R2 := R1.unwipe e' hn (R'.unhide h0)
    refine q G' H' Dl avs acc _ s' R2 (e1.trans e') hgD h0 ha0 hl hacc (fun i es h1 h2 => ?_) kk
    by_cases hv : i ∈ vs
    · exact absurd (at_val (backD_mem hv h1).symm (by simp)) (noOwn_at hn hv)
    · rw [backD_keep hv] at h1
      exact ap9 i es h1 (by rw [wipe_keep hv]; exact h2)
def wCopy (a b : Nat) : FE := fun env s k => match at_ env a, at_ env b with
  | .val (.lst fs), .val d => flatL fs ∧ flatD d ∧ k (.val (.tup [.lst fs, d])) env s
  | _, _ => False
theorem dep_copy {c : Cxt} {A : Hp} {a b : Nat} : DEp c A (tTup (tCons (tCB (rListX c.K) (tCons (tVar a) tNil)) (tCons (tVar b) tNil))) (wCopy a b) := by
  intro G env s σ H k Q R hA hf q
  unfold wCopy at hf
  split at hf
  · rename_i fs d ea eb
    obtain ⟨f1, f2, hf⟩ := hf
    obtain ⟨_, a1, a2⟩ := R.vals a _ (at_val ea (by simp))
    obtain ⟨w, b1, b2⟩ := R.vals b _ (at_val eb (by simp))
    obtain ⟨p, us, rfl, a3, a4⟩ := rep_lst a2
    refine ⟨_, a1, p, us, rfl, .inl (Evl.sq_of (R.ex _ _ a3)), fun l hl => ⟨w, b1, by show 2 ≤ sizeLine; decide, fun p2 hp2 => ?_⟩⟩
    have R1 := R.new (o := .lst us) hl (fun _ z => by cases z)
    have R2 := R1.grow (p := l) (o := .lst us) upd_same (R.kn l hl) (R.g0 hl) (R.a0ne hl) (fun _ z => by cases z) (R.newApart hl)
    have e1 : Ex G (upd G l (.lst us)) := Ex.new (R.g0 hl)
    have R3 := R2.new (o := .tup [.ref l, w]) hp2 (fun _ z => by cases z)
    have g2 := R2.g0 hp2
    have R4 := R3.grow (p := p2) (o := .tup [.ref l, w]) upd_same (R2.kn p2 hp2) g2 (R2.a0ne hp2) (fun _ z => by cases z) (R2.newApart hp2)
    have e2 : Ex (upd G l (.lst us)) (upd (upd G l (.lst us)) p2 (.tup [.ref l, w])) := Ex.new g2
    have hA2 : Ex A (upd (upd G l (.lst us)) p2 (.tup [.ref l, w])) := hA.trans (e1.trans e2)
    have An : ∀ {r}, G r = none → ∀ ws, A r ≠ some (.lst ws) := fun {r} h ws z => by have := hA _ _ z; rw [h] at this; cases this
    have lp : l ≠ p2 := fun z => by rw [z, upd_same] at g2; cases g2
    refine q _ _ _ (.tup [.lst fs, d]) env s R4 (e1.trans e2) ?_ hf
    simp only [Rep]
    refine ⟨p2, [.ref l, w], rfl, .inl (.inl ?_), RepL.cons ?_ (RepL.one (rep_flat (fun r vs z => dz_t hA2 r vs (Evl.ex_t (e1.trans e2) z)) d f2 b2))⟩
    · rw [dz_keep (An (by rw [upd_ne (Ne.symm lp)] at g2; exact g2)), upd_same]
    · simp only [Rep]
      refine ⟨l, us, rfl, ?_, repL_flat (fun r vs z => dz_t hA2 r vs (Evl.ex_t (e1.trans e2) z)) fs f1 a4⟩
      rw [dz_keep (An (R.g0 hl)), upd_ne lp, upd_same]
  · exact hf.elim
def ztK (y : Nat) (fr : FSz) (d0 : D) (env : EnvD) (k : Fl → Prop) : List D → EnvD → S → Prop := fun acc env2 s2 => env2 = env ∧ fr d0 (env.set y (.val (.lst acc))) s2 k
theorem ztK_ap (y : Nat) (fr : FSz) (d0 : D) (env : EnvD) (k : Fl → Prop) (acc : List D) (env2 : EnvD) (s : S) : ztK y fr d0 env k acc env2 s = (env2 = env ∧ fr d0 (env.set y (.val (.lst acc))) s k) := rfl
def zcK (fg : FG) (fe : FE) (vs : List Nat) (k : List D → EnvD → S → Prop) : List D → EnvD → S → Prop := fun ds env1 s1 => noOwn env1 vs ∧ ds.length < sizeLine ∧ compW fg wYes fe vs (fun acc env2 s2 => k acc (backD env1 env2 vs) s2) ds [] (wipeD env1 vs) s1
theorem zcK_ap (fg : FG) (fe : FE) (vs : List Nat) (k : List D → EnvD → S → Prop) (ds : List D) (env1 : EnvD) (s1 : S) : zcK fg fe vs k ds env1 s1 = (noOwn env1 vs ∧ ds.length < sizeLine ∧ compW fg wYes fe vs (fun acc env2 s2 => k acc (backD env1 env2 vs) s2) ds [] (wipeD env1 vs) s1) := rfl
def wZTold (y : Nat) (fi : FI) (fg : FG) (a b : Nat) (vs : List Nat) (fr : FSz) : FSz := fun d0 env s k => fi env s (zcK fg (wCopy a b) vs (ztK y fr d0 env k))
theorem wZTold_C (y : Nat) (fi : FI) (fg : FG) (a b : Nat) (vs : List Nat) (fr : FSz) (d0 : D) (env : EnvD) (s : S) (k : Fl → Prop) : wZTold y fi fg a b vs fr d0 env s k = fi env s (zcK fg (wCopy a b) vs (ztK y fr d0 env k)) := rfl
theorem dfz_told {c : Cxt} {i : Nat} {tn : List Nat} {wi : TI} {fi : FI} {g : TG} {fg : FG} {y a b : Nat} {vs : List Nat} {tr : TS} {fr : FSz} (hy : y ≠ i) (hi : DI c wi fi) (hg : ∀ H0, DG (c.h0 H0) g fg) (hw : GW g vs) (hr : DFz c i tn tr fr) :
    DFz c i tn (tSeq (tAsg (tLc wi g tYes (tTup (tCons (tCB (rListX c.K) (tCons (tVar a) tNil)) (tCons (tVar b) tNil))) vs) (gName y)) tr) (wZTold y fi fg a b vs fr) := by
  intro Gb A v0 d0 G env s σ H k E F hf d
  show tLc wi g tYes (tTup (tCons (tCB (rListX c.K) (tCons (tVar a) tNil)) (tCons (tVar b) tNil))) vs σ H (fun x H1 => tr E (σ.set y (some x)) H1)
  refine comp_z (te := tTup (tCons (tCB (rListX c.K) (tCons (tVar a) tNil)) (tCons (tVar b) tNil))) (fe := wCopy a b) (tt := tYes) (ft := wYes) hi hg (fun H0 => dt_yes) (fun H0 => dep_copy (c := c.h0 H0)) hw (A := A) (k := ztK y fr d0 env k) F.R F.hA hf fun G' H' p avs acc env' s' R' e' hp h0 ha hl rl ap kk => ?_
  rw [ztK_ap] at kk
  obtain ⟨rfl, kk⟩ := kk
  have R2 := R'.grow (p := p) (o := .lst avs) hl h0 hp ha (fun _ z => by cases z) ap
  have e2 : Ex G' (upd G' p (.lst avs)) := Ex.new hp
  have F2 := F.grow R2 (e'.trans e2)
  have rep : Rep c.K (dz (upd G' p (.lst avs)) A) (.lst acc) (.ref p) := by
    simp only [Rep]
    refine ⟨p, avs, rfl, ?_, RepL.mono (dz_mono e2) acc rl⟩
    rw [dz_keep (fun ws z => by have := (F.hA.trans e') _ _ z; rw [hp] at this; cases this), upd_same]
  exact hr Gb A v0 d0 _ _ s' _ H' k E (F2.set (r := .val (.lst acc)) (Rep.mono dz_le _ rep) y hy (.inr (.inr ⟨_, rfl, rep⟩))) kk d
theorem Tabs.same {T : List (Addr × Str)} {H H2 : Hp} (h : LamX.Tabs T H) (e : ∀ p, (∀ vs, H p ≠ some (.lst vs)) → H2 p = H p) : LamX.Tabs T H2 := fun q hq => by
  obtain ⟨ps, h1, h2, h3⟩ := h q hq
  refine ⟨ps, by rw [e _ fun vs z => by rw [h1] at z; cases z]; exact h1, h2, fun pos cv hc => ?_⟩
  obtain ⟨x, e1, e2⟩ := h3 pos cv hc
  refine ⟨x, e1, ?_⟩
  rw [e _ fun vs z => by rw [e2] at z; unfold LamX.CodeO at z; cases z]
  exact e2
theorem FdZ.deadG {c : Cxt} {Gb A : Hp} {v0 : V} {d0 : D} {i : Nat} {tn : List Nat} {G : Hp} {env : EnvD} {s : S} {σ : L2.St} {H H2 : Hp} (F : FdZ c Gb A v0 d0 i tn G env s σ H) (e1 : ∀ p, (∀ vs, A p ≠ some (.lst vs)) → H2 p = H p) (e2 : ∀ p vs, A p = some (.lst vs) → H2 p ≠ none) (hfl : flatOw (killD (i :: tn) env)) :
    Rel c (dz G A) (killD (i :: tn) env) s σ H2 := by
  have isL : ∀ p vs, A p = some (.lst vs) → H p = some (.lst vs) := fun p vs z => F.R.ex _ _ (F.hA _ _ z)
  have gn : ∀ p, G p = none → H2 p = H p := fun p z => e1 p fun vs y => by have := F.hA _ _ y; rw [z] at this; cases this
  refine { ex := fun p o hp => ?_, st := fun a ha => ⟨dz_none (F.R.st a ha).1, ?_⟩, sn := F.R.sn, keep := fun p o h1 h2 h3 => ?_, kn := fun p hp => ?_, h0n := F.R.h0n, tab := Tabs.same F.R.tab fun p z => e1 p fun vs y => z vs (isL p vs y), gnew := fun p us h1 h2 => dz_none (F.R.gnew p us h1 h2), gx := fun p o hp => ?_, gtb := fun p ps hp => F.R.gtb p ps (dz_some hp).2,
           len := by rw [killD_len]; exact F.R.len, vals := fun j dd hj => ?_, owns := fun j es hj => ?_, dist := fun j l es fs v h1 h2 h3 h4 => F.R.dist j l es fs v (killD_get _ _ h1 (by simp)).2 (killD_get _ _ h2 (by simp)).2 h3 h4 }
  · obtain ⟨z1, z2⟩ := dz_some hp
    rw [e1 p z1]
    exact F.R.ex _ _ z2
  · obtain ⟨m1, x, b, m2, m3⟩ := F.R.st a ha
    exact ⟨x, b, m2, by rw [gn a m1]; exact m3⟩
  · rw [e1 p fun vs z => by rw [(F.zl p vs z).1] at h1; cases h1]
    exact F.R.keep p o h1 h2 h3
  · refine F.R.kn p ?_
    rw [← e1 p fun vs z => e2 p vs z hp]
    exact hp
  · rw [dz_keep fun vs z => by rw [(F.zl p vs z).2] at hp; cases hp]
    exact F.R.gx _ _ hp
  · obtain ⟨h1, h2⟩ := killD_get _ _ hj (by simp)
    exact F.gd j dd h2 (fun z => h1 (by rw [z]; exact List.mem_cons_self)) fun z => h1 (List.mem_cons_of_mem _ z)
  · have hfu := flatOw_at hfl hj
    obtain ⟨h1, h2⟩ := killD_get _ _ hj (by simp)
    obtain ⟨v, m1, r, vs, rfl, m3, m4, m5, m6, m7⟩ := F.R.owns j es h2
    exact ⟨_, m1, r, vs, rfl, dz_none m3, m4, m5, by rw [gn r m3]; exact m6, repL_flat (dz_t F.hA) es hfu m7⟩
def zmut2K (i : Nat) (tn : List Nat) (fr : FS) (d0 : D) (env : EnvD) (k : Fl → Prop) : S → Prop := fun s1 => (∃ ds, d0 = .lst ds ∧ ds.length + 1 < sizeLine) ∧ flatOw (killD (i :: tn) env) ∧ fr (killD (i :: tn) env) s1 k
theorem zmut2K_ap (i : Nat) (tn : List Nat) (fr : FS) (d0 : D) (env : EnvD) (k : Fl → Prop) (s : S) : zmut2K i tn fr d0 env k s = ((∃ ds, d0 = .lst ds ∧ ds.length + 1 < sizeLine) ∧ flatOw (killD (i :: tn) env) ∧ fr (killD (i :: tn) env) s k) := rfl
def wZMut2 (i : Nat) (tn : List Nat) (fm : FMz) (fr : FS) : FSz := fun d0 env s k => fm d0 env s (zmut2K i tn fr d0 env k)
theorem wZMut2_C (i : Nat) (tn : List Nat) (fm : FMz) (fr : FS) (d0 : D) (env : EnvD) (s : S) (k : Fl → Prop) : wZMut2 i tn fm fr d0 env s k = fm d0 env s (zmut2K i tn fr d0 env k) := rfl
theorem dfz_mut2 {c : Cxt} {i : Nat} {tn : List Nat} {tm tr : TS} {fm : FMz} {fr : FS} (hm : DMz c i tm fm) (hr : DS c tr fr) :
    DFz c i tn (tSeq tm (tSeq (tDrop (tBM c.K "list" rAppend (tVar i) (tCons (tTup tNil) tNil))) tr)) (wZMut2 i tn fm fr) := by
  intro Gb A v0 d0 G env s σ H k E F hf d
  show tm { E with nx := tSeq (tDrop (tBM c.K "list" rAppend (tVar i) (tCons (tTup tNil) tNil))) tr E } σ H
  refine hm A v0 d0 G env s σ H _ _ F.R F.hv F.hA F.hr hf fun G' H' s' q us ws R' e' hq hws kk => ?_
  rw [zmut2K_ap] at kk
  obtain ⟨⟨ds, rfl, hds⟩, hfl, kk⟩ := kk
  have F' := F.grow R' e'
  obtain ⟨r, xs, rfl, g1, g2⟩ := rep_lst F.hr
  have hqH : H' q = some (.lst us) := R'.ex _ _ (e' _ _ (F.hA _ _ hq))
  have hrH : H' r = some (.lst xs) := R'.ex _ _ (e' _ _ (F.hA _ _ g1))
  have hr2 : ∃ ys, upd H' q (.lst ws) r = some (.lst ys) ∧ ys.length < sizeLine := by
    by_cases hb : r = q
    · subst hb
      rw [hqH] at hrH
      cases hrH
      refine ⟨ws, upd_same, ?_⟩
      rw [g2.length] at hws
      omega
    · exact ⟨xs, by rw [upd_ne hb]; exact hrH, by rw [g2.length]; omega⟩
  obtain ⟨ys, y1, y2⟩ := hr2
  show tSeq _ _ E σ (upd H' q (.lst ws))
  refine ⟨_, F.hv, .inl ⟨rfl, ys, Evl.sq_of y1⟩, by show 0 ≤ sizeLine; omega, fun p hp => ⟨r, ys, .ref p, rfl, rfl, ?_, y2, ?_⟩⟩
  · rw [upd_ne (fun z => by rw [z, hp] at y1; cases y1)]
    exact y1
  · have pq : p ≠ q := fun z => by rw [z, upd_same] at hp; cases hp
    have hp' : H' p = none := by rw [upd_ne pq] at hp; exact hp
    have R2 := R'.new (o := .tup []) hp' (fun _ z => by cases z)
    have F2 := F'.grow R2 (Ex.refl G')
    refine hr (dz G' A) _ s' σ _ k E (F2.deadG (fun a ha => ?_) (fun a vs ha => ?_) hfl) kk (d.mono F'.base)
    · have aq : a ≠ q := fun z => ha us (by rw [z]; exact hq)
      have ar : a ≠ r := fun z => ha xs (by rw [z]; exact g1)
      rw [upd_ne ar]
      by_cases ap : a = p
      · rw [ap, upd_same, upd_same]
      · rw [upd_ne ap, upd_ne aq, upd_ne ap]
    · intro z
      by_cases ar : a = r
      · rw [ar, upd_same] at z; cases z
      · rw [upd_ne ar] at z
        by_cases ap : a = p
        · rw [ap, upd_same] at z; cases z
        · rw [upd_ne ap] at z
          by_cases aq : a = q
          · rw [aq, upd_same] at z; cases z
          · rw [upd_ne aq, R'.ex _ _ (e' _ _ (F.hA _ _ ha))] at z; cases z
def lendEK (F : Fn) (xq : Str → S → Prop) (k : KE) : KE := fun r env1 s1 => match r with
  | .own [.int x, .bl b] => ∀ a, F [.st a] (some ⟨x, b, a⟩) (fun r2 s2 => (∃ x' b', s2 = some ⟨x', b', a⟩) ∧ k r2 env1 s1) (fun cn _ => xq cn s1)
  | _ => False
theorem lendEK_ap (F : Fn) (xq : Str → S → Prop) (k : KE) (x : Int) (b : Bool) (env1 : EnvD) (s1 : S) : lendEK F xq k (.own [.int x, .bl b]) env1 s1 = ∀ a, F [.st a] (some ⟨x, b, a⟩) (fun r2 s2 => (∃ x' b', s2 = some ⟨x', b', a⟩) ∧ k r2 env1 s1) (fun cn _ => xq cn s1) := rfl
def wCallLendE (F : Fn) (xq : Str → S → Prop) (fe : FE) : FE := fun env s k => fe env s (lendEK F xq k)
theorem wCallLendE_C (F : Fn) (xq : Str → S → Prop) (fe : FE) (env : EnvD) (s : S) (k : KE) : wCallLendE F xq fe env s k = fe env s (lendEK F xq k) := rfl
theorem de_callLendE {c : Cxt} {cl : Str → Addr} {E : XK} {xq : Str → S → Prop} {F : Fn} {te : TE} {fe : FE} (hE : EOk c cl E xq) (h : DE c te fe) : DE c (tCall (spD c.K c.T cl F) [] E (tCons te tNil)) (wCallLendE F xq fe) := by
  intro G env s σ H k Q R hf q
  refine h G env s σ H _ _ R hf fun G1 H1 v r env1 s1 R1 e1 rv1 k1 => ?_
  show spD c.K c.T cl F ([v] ++ []) H1 Q E
  rw [List.append_nil]
  unfold lendEK at k1
  split at k1
  · rename_i x b
    obtain ⟨⟨p, ws, rfl, g3, g4, g5, g6, g7⟩, ap⟩ := rv1
    obtain ⟨w1, w2, rfl, r1, r2⟩ := repL2 g7
    have ew1 := rep_int r1
    subst ew1
    simp only [Rep] at r2
    subst r2
    have Ri : Rel { c with a0 := some p, H0 := noT H1, G0 := G1 } G1 [] (some ⟨x, b, p⟩) [] H1 :=
      { ex := R1.ex, st := fun a ha => (by cases ha; exact ⟨g3, x, b, rfl, g6⟩), sn := fun z => (by cases z), keep := fun _ _ h _ _ => (noT_some h).1, kn := fun _ h => noT_none h, h0n := fun p ps z => (noT_some z).2 ps rfl, tab := R1.tab, gnew := fun _ _ _ h => h, gx := Ex.refl G1, gtb := R1.gtb, len := rfl,
        vals := fun i d h => by simp at h, owns := fun i d h => by simp at h, dist := fun i j d e v h => by simp at h }
    have back : ∀ G' H' s', Rel { c with a0 := some p, H0 := noT H1, G0 := G1 } G' [] s' [] H' → Rel c G' env1 s1 σ H' := by
      intro G' H' s' R'
      have eG : Ex G1 G' := R'.gx
      have kp : ∀ a o, H1 a = some o → a ≠ p → (∀ ps, o ≠ .tbl ps) → H' a = some o := fun a o e1 e2 e3 => R'.keep a o (noT_of e1 e3) (fun z => e2 (Option.some.inj z).symm) e3
      refine { ex := R'.ex, st := fun a ha => ?_, sn := R1.sn, keep := fun a o h2 h3 h4 => ?_, kn := fun a h => R1.knN (R'.kn a h), h0n := R1.h0n, tab := R'.tab, gnew := fun a ws h2 h3 => (by obtain ⟨us, hu⟩ := R1.lstN h2; exact R'.gnew a us hu (R1.gnew a ws h2 h3)), gx := R1.gx.trans eG, gtb := R'.gtb, len := R1.len, vals := fun i d hi => ?_, owns := fun i es hi => ?_, dist := R1.dist }
      · obtain ⟨m1, y, z, m2, m3⟩ := R1.st a ha
        have hap : a ≠ p := fun z => g5 (by rw [← z]; exact ha)
        exact ⟨R'.gnew a _ (noT_of m3 (fun _ z => by cases z)) m1, y, z, m2, kp a _ m3 hap (fun _ z => by cases z)⟩
      · have hap : a ≠ p := fun z => by rw [z, g4] at h2; cases h2
        exact kp a o (R1.keep a o h2 h3 h4) hap h4
      · obtain ⟨w, m1, m2⟩ := R1.vals i d hi
        exact ⟨w, m1, Rep.mono eG d m2⟩
      · obtain ⟨w, m1, a, us, rfl, m3, m4, m5, m6, m7⟩ := R1.owns i es hi
        have hap : a ≠ p := fun z => ap i es hi (by rw [m1, z])
        exact ⟨_, m1, a, us, rfl, R'.gnew a _ (noT_of m6 (fun _ z => by cases z)) m3, m4, m5, kp a _ m6 hap (fun _ z => by cases z), RepL.mono eG es m7⟩
    refine ⟨{ c with a0 := some p, H0 := noT H1, G0 := G1 }, G1, some ⟨x, b, p⟩, [.st p], _, _, rfl, rfl, Ri, RepL.one (by simp only [Rep]), k1 p, fun G' H' v r s' R' rv kk => ?_, fun G' H' cn s' R' hx => ?_⟩
    · have R2 := back G' H' s' R'
      refine q G' H' v r _ s1 R2 (e1.trans R'.gx) ?_ kk.2
      cases r with
      | no => exact rv
      | val d => exact rv
      | own es =>
        obtain ⟨⟨a, us, rfl, m3, m4, m5, m6, m7⟩, _⟩ := rv
        have m4' : noT H1 a = none := m4
        exact ⟨⟨a, us, rfl, m3, R1.knN m4', R1.a0neN m4', m6, m7⟩, R1.newApartN m4'⟩
    · exact hE G' H' cn s1 (back G' H' s' R').bare hx
  · exact k1.elim
end DL
set_option Elab.async false
set_option linter.all false
set_option maxRecDepth 100000
set_option maxHeartbeats 4000000
namespace DL
open PySem PySem.Spec PyProof.Rows L2 LamX
open Evl (Ex)
def liF (mg : Str → Option Value) (names : List Str) : LamI := fun n a _ _ _ => ∃ f, names[n]? = some f ∧ mg f = some (.ref a)
def wFunV (LI : LamI) (n : Nat) : FE := fun env s k => ∀ a, (∀ f o u, LI n a f o u) → k (.val (.st a)) env s
theorem de_funV {c : Cxt} {LI : LamI} {n : Nat} {a : Addr} (h : ∀ f o u, LI n a f o u) : DE c (tC (.ref a)) (wFunV LI n) :=
  fun G env s σ H k Q R hf q => q G H _ (.val (.st a)) env s R (Ex.refl G) (by simp only [RV, Rep]) (hf a h)
def tCallV (K : PySem.W.Frag) (T : List (Addr × Str)) (mg : Str → Option Value) (names : List Str) (j : Nat) (Fs : Nat → Fn) (E : XK) (t : TA) : TE := fun σ H Q => ∃ (n : Nat) (f : Str) (a : Addr), names[n]? = some f ∧ mg f = some (.ref a) ∧ σ[j]? = some (some (.ref a)) ∧
  t σ H fun vs H1 => spD K T (He.ga K) (Fs n) vs H1 Q E
section
variable {X : Cx} {K : PySem.W.Frag} {T : List (Addr × Str)} {x : Str} {k j : Nat} {names : List Str} {Fs : Nat → Fn} {E : XK} {e : Expr} {es : List Expr} {t : TA} {p pos : Pos} {mg : Str → Option Value}
theorem pe_callV (D : ∀ n f, names[n]? = some f → ∃ ps, Def X.prog X.w K X.mg X.base T f ps k (Fs n)) (hr : Room k X.A) (hx : Passes (L2.CX X.prog X.w) X E) (hw : PE X (.Name x p) (tVar j)) (ha : PA X (e :: es) t) (hK : X.K = K := by rfl) (hmg : X.mg = mg := by rfl)
    (he : starEach (e :: es) X.env = (false, eval e X.env) :: starEach es X.env := by rfl) (hpl : (backTo pos (starEach es X.env)).any (·.1) = false := by rfl) :
    PE X (.Call (.Name x p) (e :: es) [] pos) (tCallV K T mg names j Fs E t) := by
  subst hK hmg
  refine ⟨fun pins s σ H Q I h => ?_⟩
  obtain ⟨n, f, a, hn, hm, hs, ht⟩ := h
  obtain ⟨ps, D1⟩ := D n f hn
  obtain ⟨fa, fd, h1, h2, h3, h4, _⟩ := D1.ex
  rw [hm] at h1
  cases h1
  refine wpAny_Call_Name_kw (thn (hw.run pins s σ H (fun v H1 => v = .ref a ∧ H1 = H) I ⟨.ref a, hs, rfl, rfl⟩) fun u s1 ⟨v, H1, I1, r1, ev, eH⟩ => ?_)
  subst ev eH
  cases r1
  refine PySem.W.callWith_K (h₀ := X.base) I.ok.mod.kin h2 (thn (ha.run pos pins s1 σ _ _ I1 ht) fun us s2 ⟨vs, H2, I2, r, q2⟩ => ⟨I2.kIn, ?_⟩) he hpl
  exact run_fn h4 hr h3 .nil hx I2 r (by rw [List.append_nil]; exact q2)
end
def wCallV (LI : LamI) (Fs : Nat → Fn) (xq : Str → S → Prop) (j : Nat) (fa : FA) : FE := fun env s k => ∃ (n : Nat) (a : Addr), at_ env j = .val (.st a) ∧ (∀ f o u, LI n a f o u) ∧ fa env s fun ds env1 s1 => Fs n ds s1 (fun r s2 => k r env1 s2) xq
theorem de_callV {c : Cxt} {mg : Str → Option Value} {names : List Str} {Fs : Nat → Fn} {E : XK} {xq : Str → S → Prop} {t : TA} {fa : FA} (j : Nat) (hE : EOk c (He.ga c.K) E xq) (h : DA c t fa) : DE c (tCallV c.K c.T mg names j Fs E t) (wCallV (liF mg names) Fs xq j fa) := by
  intro G env s σ H k Q R hf q
  obtain ⟨n, a, hn, hl, hf⟩ := hf
  obtain ⟨f, l1, l2⟩ := hl 0 (.lst []) (.lst [])
  obtain ⟨v, g1, g2⟩ := R.vals j _ (at_val hn (by simp))
  simp only [Rep] at g2
  subst g2
  refine ⟨n, f, a, l1, l2, g1, ?_⟩
  refine h G env s σ _ _ _ R hf fun G1 H1 vs ds env1 s1 R1 e1 rl k1 => ?_
  refine ⟨c.inn H1 G1, G1, s1, ds, _, xq, rfl, rfl, R1.inn, rl, k1, fun G' H' v r s' R' rv kk => ?_, fun G' H' cn s' R' hx => ?_⟩
  · exact q G' H' v r env1 s' (R1.out R') (e1.trans R'.gx) (RV.out R1 R' rv) kk
  · exact hE G' H' cn s' (R1.bare.out (G' := G') (H' := H') (s' := s') R') hx
theorem wCallV_C (LI : LamI) (Fs : Nat → Fn) (xq : Str → S → Prop) (j : Nat) (fa : FA) (env : EnvD) (s : S) (ke : Sl → EnvD → S → Prop) : wCallV LI Fs xq j fa env s ke = (∃ (n : Nat) (a : Addr), at_ env j = .val (.st a) ∧ (∀ f o u, LI n a f o u) ∧ fa env s (argK ke (Fs n) xq)) := rfl
theorem wFunV_C (LI : LamI) (n : Nat) (env : EnvD) (s : S) (ke : Sl → EnvD → S → Prop) : wFunV LI n env s ke = ∀ a, (∀ f o u, LI n a f o u) → ke (.val (.st a)) env s := rfl
end DL
set_option Elab.async false
set_option linter.all false
set_option maxRecDepth 100000
set_option maxHeartbeats 4000000
namespace DL
open PySem PySem.Spec PyProof.Rows L2 LamX
open Evl (Ex)
def LamOkX (X : Cx) (m : Nat) (d : LamD) (t : XK → TE) : Prop := LamS X.env.scope d.scope ∧ d.cl = cloFrom X.env.cells d.scope.names [] ∧
  (∀ (c' : Addr) (pm ctv : Value), bindArgs (PySem.W.kla_fn "<lambda>" (X.env.qual ++ "<lambda>") d.params d.body d.scope (cloFrom X.env.cells d.scope.names []) pm (.ref c') ctv) ⟨[], []⟩ = pure []) ∧
  (∀ (E : XK) (A : Around) (outer : List Env) (s : Shared) (H : Hp) (f c' : Addr), Room m (A.deeper (lamEnv X d.scope s.heap.objs.size f c')) → PE (lamCx X A outer s H E d.scope f c') d.body (t E))
abbrev FX := (Str → S → Prop) → FE
def DEsX (K : PySem.W.Frag) (T : List (Addr × Str)) (t : XK → TE) (fe : FX) : Prop := ∀ (c : Cxt) (E : XK) (xq : Str → S → Prop), c.K = K → c.T = T → EOk c (He.ga K) E xq → DE c (t E) (fe xq)
def liX (X : Cx) (T : List (Addr × Str)) (m : Nat) (fes : Nat → FX) : LamI := fun n f a o u => ∃ (d : LamD) (t : XK → TE), LamOkX X m d t ∧ DEsX X.K T t (fes n) ∧ o = FunO f (X.env.qual ++ "<lambda>") d.params d.body d.scope d.cl a ∧ u = CodeO a (X.env.qual ++ "<lambda>")
theorem li_ofX {X : Cx} {T : List (Addr × Str)} {m n : Nat} {fes : Nat → FX} {f a : Addr} {params : Arguments} {body : Expr} {scope : Scope} {t : XK → TE} (L : LamX.lamSB X.env.scope scope = true)
    (hbody : ∀ (E : XK) (A : Around) (outer : List Env) (s : Shared) (H : Hp) (f c' : Addr), Room m (A.deeper (LamX.lamEnv X scope s.heap.objs.size f c')) → PE (LamX.lamCx X A outer s H E scope f c') body (t E))
    (hd : DEsX X.K T t (fes n))
    (hbind2 : ∀ (q : Str) (cl : List (Str × Addr)) (pm cv ctv : Value), bindArgs (PySem.W.kla_fn "<lambda>" q params body scope cl pm cv ctv) ⟨[], []⟩ = pure [] := by intros; rfl) :
    liX X T m fes n f a (FunO f (X.env.qual ++ "<lambda>") params body scope (cloFrom X.env.cells scope.names []) a) (CodeO a (X.env.qual ++ "<lambda>")) :=
  ⟨⟨params, body, scope, cloFrom X.env.cells scope.names []⟩, t, ⟨LamX.lamS_by L, rfl, fun _ _ _ => hbind2 _ _ _ _ _, hbody⟩, hd, rfl, rfl⟩
theorem pe_lcE {X : Cx} {elt tg iter : Expr} {ifs : List Expr} {scope : Scope} {own : List (Str × Nat)} {pos : Pos} {wi : TI} {g : TG} {tt : TT} {te : L2.St → TE} (hc : X.calm = true) (hN : X.N.Nodup) (hi : PI X tg iter wi) (ok : BlkOk X.N X.env.scope scope own)
    (hg : ∀ (s : Shared) (H : Hp) (C : Addr) (cl : List (Str × Addr)) (fp : List Addr), PG (X.blk s H scope (compEnvC scope cl C X.env) fp) tg g)
    (ht : ∀ (s : Shared) (H : Hp) (C : Addr) (cl : List (Str × Addr)) (fp : List Addr), PTs (X.blk s H scope (compEnvC scope cl C X.env) fp) ifs tt)
    (he : ∀ (pins : List (Addr × Obj)) (σ : L2.St) (s : Shared) (H : Hp) (C : Addr) (cl : List (Str × Addr)) (fp : List Addr), Inside X (X.blk s H scope (compEnvC scope cl C X.env) fp) pins σ → PE (X.blk s H scope (compEnvC scope cl C X.env) fp) elt (te σ)) (hs : ∀ x, foldedSetIterable iter X.env x = pure x := by intro _; rfl) :
    PE X (.ListComp elt [⟨tg, iter, ifs, 0⟩] scope pos) (fun σ H Q => tLc wi g tt (te σ) (own.map (·.2)) σ H Q) := by
  refine ⟨fun pins s σ H Q I h => ?_⟩
  rw [eval_ListComp]
  refine lc_lam hc hN I hi ok hg (fun s H C cl fp _ => ht s H C cl fp) (fun s H C cl fp => he pins σ s H C cl fp) hs h fun D C s' m H' I' q hn f => ⟨m, hn, fun h'' sb => ?_⟩
  obtain ⟨f0, f1, f2, f3, f4, f5⟩ := f
  exact ⟨.ref D, H', I'.turned (t' := s'.toks) (fun b o hb e => (sb.2 b hb).trans e) f0 f1 f3 f4 f5, rfl, q⟩
theorem ps_setLcE {X : Cx} {i : Nat} {y : Str} {py : Pos} {elt tg iter : Expr} {ifs : List Expr} {scope : Scope} {own : List (Str × Nat)} {pos spos : Pos} {wi : TI} {g : TG} {tt : TT} {te : L2.St → TE} (hc : X.calm = true) (hN : X.N.Nodup) (hy : X.N[i]? = some y) (hyl : X.env.scope.names.lookup y = some .local)
    (hsw : swapsWith (.ListComp elt [⟨tg, iter, ifs, 0⟩] scope pos) (some (.Name y py)) spos.line X.env = pure true) (hi : PI X tg iter wi) (ok : BlkOk X.N X.env.scope scope own)
    (hg : ∀ (s : Shared) (H : Hp) (C : Addr) (cl : List (Str × Addr)) (fp : List Addr), PG (X.blk s H scope (compEnvC scope cl C X.env) fp) tg g) (ht : ∀ (s : Shared) (H : Hp) (C : Addr) (cl : List (Str × Addr)) (fp : List Addr), PTs (X.blk s H scope (compEnvC scope cl C X.env) fp) ifs tt)
    (he : ∀ (pins : List (Addr × Obj)) (σ : L2.St) (s : Shared) (H : Hp) (C : Addr) (cl : List (Str × Addr)) (fp : List Addr), Inside X (X.blk s H scope (compEnvC scope cl C X.env) fp) pins σ → PE (X.blk s H scope (compEnvC scope cl C X.env) fp) elt (te σ)) (hs : ∀ x, foldedSetIterable iter X.env x = pure x := by intro _; rfl) :
    PS X (.Assign [.Name y py] (.ListComp elt [⟨tg, iter, ifs, 0⟩] scope pos) spos) (tAsg (fun σ H Q => tLc wi g tt (te σ) (own.map (·.2)) σ H Q) (gName i)) := by
  refine ⟨fun pins s σ H D I h => ?_⟩
  rw [exec_Assign_Name_used _ _ _ _ hsw]
  refine wpAny_bind (wpAny_standAt (wpAny_bind ?_))
  show wpAny _ X.A (do let _ ← comprehension (.ListComp elt [⟨tg, iter, ifs, 0⟩] scope pos) scope X.env (firstIterPos [⟨tg, iter, ifs, 0⟩] pos) (newList []) false (eval iter X.env) (some (assign (.Name y py) X.env))) _ _ s
  have h : tLc wi g tt (te σ) (own.map (·.2)) σ H (fun x H1 => gName i x σ H1 D.nx) := h
  refine wpAny_bind (thn (lc_lam (Qf := fun _ s' => SP X pins D .next s') hc hN I hi ok hg (fun s H C cl fp _ => ht s H C cl fp) (fun s H C cl fp => he pins σ s H C cl fp) hs h fun L C s' m H' I' q hn f => ?_) fun _ s' hq => wpAny_pure (wpAny_pure hq))
  show wpAny _ _ (assign (.Name y py) X.env (.ref L)) _ _ _
  refine wpAny_assign_Name (store_ok2 (v := V.ref L) I' hN hy (.inl hyl) rfl (fun s2 I2 ⟨a, sb, ha⟩ => ?_) (.inr hyl))
  obtain ⟨f0, f1, f2, f3, f4, f5⟩ := f
  have haC : C ≠ a := by
    rcases ha with z | z
    · rw [z]; exact f1
    · exact fun e => f4 y a z e.symm
  refine ⟨m, hn.sameBut sb haC, fun h3 sb3 => ?_⟩
  exact ⟨_, H', I2.turned (t' := s2.toks) (fun b o hb e => (sb3.2 b hb).trans e) f0 f1 f3 f4 f5, q⟩
section
variable {c : Cxt}
theorem de_compE {wi : TI} {fi : FI} {g : TG} {fg : FG} {tt : TT} {ft : FT} {te : L2.St → TE} {fe : FE} {vs : List Nat} (hi : DI c wi fi) (hg : ∀ H0, DG (c.h0 H0) g fg) (ht : ∀ H0, DT (c.h0 H0) tt ft) (he : ∀ H0 σ, DEw (c.h0 H0) vs σ (te σ) fe) (hw : GW g vs) :
    DE c (fun σ H Q => tLc wi g tt (te σ) vs σ H Q) (wComp fi fg ft fe vs) := by
  intro G env s σ H k Q R hf q
  refine hi G env s σ H _ _ R hf fun G1 H1 J ds env1 s1 R1 e1 w k1 => ?_
  obtain ⟨hn, hlen, k1⟩ := k1
  obtain ⟨n, Gd, Y, hnn, wk, hG, hY⟩ := w.ex
  intro Dl hD
  have h0 : c.H0 Dl = none := R1.kn Dl hD
  have ha0 : c.a0 ≠ some Dl := R1.a0ne hD
  have R1n := R1.new (o := .lst []) hD (fun _ z => by cases z)
  have ap0 := R1.newApart hD
  have apw : Apart (wipeD env1 vs) (L2.wipe σ vs) (.ref Dl) := fun i es h1 h2 => by
    obtain ⟨a1, a2⟩ := wipeD_some (by simp) h1
    rw [wipe_keep a2] at h2
    exact ap0 i es a1 h2
  have apo : ∀ {avs G4 env4 s4 σ4 H4}, Rel (c.h0 (upd c.H0 Dl (.lst avs))) G4 env4 s4 σ4 H4 → Apart env4 σ4 (.ref Dl) := fun {avs G4 env4 s4 σ4 H4} R4 i es h1 h2 => by
    obtain ⟨v, e1, q, us, rfl, e3, e4, _⟩ := R4.owns i es h1
    rw [e1] at h2
    cases h2
    have e4' : upd c.H0 Dl (.lst avs) Dl = none := e4
    rw [upd_same] at e4'
    cases e4'
  have HDl : ∀ {avs G4 env4 s4 σ4 H4}, Rel (c.h0 (upd c.H0 Dl (.lst avs))) G4 env4 s4 σ4 H4 → H4 Dl = some (.lst avs) ∧ G4 Dl = none := fun {avs G4 env4 s4 σ4 H4} R4 =>
    ⟨R4.keep Dl _ upd_same ha0 (fun _ z => by cases z), R4.gnew Dl avs (by show upd c.H0 Dl _ Dl = some (.lst avs); rw [upd_same]) (by
      have : c.G0 Dl = none := by
        cases q : c.G0 Dl with
        | none => rfl
        | some o => have := R1.ex _ _ (R1.gx _ _ q); rw [hD] at this; cases this
      exact this)⟩
  refine lc_it wk (fun i H' => ∃ G' acc avs env' s', Rel (c.h0 (upd c.H0 Dl (.lst avs))) G' env' s' (L2.wipe σ vs) H' ∧ Ex G1 G' ∧ RepL c.K G' acc avs ∧ acc.length ≤ i ∧
      compW fg ft fe vs (fun acc env2 s2 => k (.own acc) (backD env1 env2 vs) s2) (ds.drop i) acc env' s') ?_ ?_ ?_ ?_
  · exact ⟨G1, [], [], _, s1, (R1n.wipe vs).hide upd_same (R1.g0 hD) h0 apw, Ex.refl G1, RepL.nil, Nat.le_refl _, by simpa using k1⟩
  · rintro i H' _ ⟨G', acc, avs, env', s', R', e', _⟩
    exact hG ⟨_, Ex.new h0⟩ G' H' _ s' _ R' e'
  · rintro i x H' H3 hin ⟨G', acc, avs, env', s', R', e', hacc, hal, kk⟩ y
    obtain ⟨G3, d, R3, e3, hd, rd⟩ := hY i ⟨_, Ex.new h0⟩ G' H' _ s' _ x H3 hin R' e' y
    have hdrop : ds.drop i = d :: ds.drop (i + 1) := by
      obtain ⟨hl, hx⟩ := List.getElem?_eq_some_iff.mp hd
      rw [List.drop_eq_getElem_cons hl, hx]
    rw [hdrop] at kk
    have hw' : ∀ (Q : L2.St → Hp → Prop), g x (L2.wipe σ vs) H3 (fun σ2 H2 => L2.wipe σ2 vs = L2.wipe σ vs → Q σ2 H2) → g x (L2.wipe σ vs) H3 (fun σ2 H2 => L2.wipe σ2 vs = L2.wipe σ vs ∧ Q σ2 H2) := by
      intro Q q
      have := hw x (L2.wipe σ vs) H3 Q (by rw [wipe_wipe]; exact q)
      rw [wipe_wipe] at this
      exact this
    refine hw' _ ?_
    refine hg _ G3 _ s' _ H3 x (.val d) _ _ R3 rd kk fun G4 H4 env4 s4 σ4 R4 e4 k4 => ?_
    intro hwipe
    refine ht _ G4 env4 s4 σ4 H4 _ _ R4 k4 fun G5 H5 b env5 s5 R5 e5 k5 => ?_
    have fin : ∀ {G6 env6 s6 H6}, Rel (c.h0 (upd c.H0 Dl (.lst avs))) G6 env6 s6 σ4 H6 → Rel (c.h0 (upd c.H0 Dl (.lst avs))) G6 (wipeD env6 vs) s6 (L2.wipe σ vs) H6 := fun {G6 env6 s6 H6} R6 => by
      have := R6.wipe vs
      rw [hwipe] at this
      exact this
    cases b with
    | true =>
      refine he _ σ G5 env5 s5 σ4 H5 _ _ hwipe R5 k5 fun G6 H6 v r env6 s6 R6 e6 rv6 k6 => ?_
      obtain ⟨G7, R7, e7, rp⟩ := R6.toVal rv6
      have R8 := fin R7
      obtain ⟨hl, hg7⟩ := HDl R8
      have eAll : Ex G' G7 := (((e3.trans e4).trans e5).trans e6).trans e7
      have hacc7 : RepL c.K G7 (acc ++ [r.d]) (avs ++ [v]) := RepL.append (RepL.mono eAll acc hacc) (RepL.one rp)
      refine ⟨avs, hl, by rw [hacc.length]; omega, G7, acc ++ [r.d], avs ++ [v], _, s6, ?_, e'.trans eAll, hacc7, by simp; omega, k6⟩
      have ap9 := apo R8
      have R9 := R8.unhide h0
      have R10 : Rel c G7 (wipeD env6 vs) s6 (L2.wipe σ vs) (upd H6 Dl (.lst (avs ++ [v]))) :=
        { R9 with ex := R9.ex.mut hg7
                  st := fun a ha => (by
                    obtain ⟨m1, y, z, m2, m3⟩ := R9.st a ha
                    exact ⟨m1, y, z, m2, by rw [upd_ne (fun z => ha0 (by rw [← z]; exact ha))]; exact m3⟩)
                  keep := fun p o h1 h2 h3 => (by
                    rw [upd_ne (fun z => by rw [z, h0] at h1; cases h1)]
                    exact R9.keep p o h1 h2 h3)
                  kn := fun p hp => (by
                    by_cases hb : p = Dl
                    · rw [hb]; exact h0
                    · rw [upd_ne hb] at hp; exact R9.kn p hp)
                  tab := Tabs.updL R9.tab hl
                  owns := fun i es hi => (by
                    obtain ⟨w, n1, p, us, rfl, n3, n4, n5, n6, n7⟩ := R9.owns i es hi
                    have hb : p ≠ Dl := fun z => ap9 i es hi (by rw [n1, z])
                    exact ⟨_, n1, p, us, rfl, n3, n4, n5, by rw [upd_ne hb]; exact n6, n7⟩) }
      exact R10.hide upd_same hg7 h0 ap9
    | false =>
      exact ⟨G5, acc, avs, _, s5, fin R5, e'.trans ((e3.trans e4).trans e5), RepL.mono ((e3.trans e4).trans e5) acc hacc, by omega, k5⟩
  · rintro H' ⟨G', acc, avs, env', s', R', e', hacc, hal, kk⟩
    rw [hnn, List.drop_length] at kk
    obtain ⟨hl, hgD⟩ := HDl R'
    have ap9 := apo R'
    have R2 := R1.unwipe e' hn (R'.unhide h0)
    refine q G' H' _ (.own acc) _ s' R2 (e1.trans e') ⟨⟨Dl, avs, rfl, hgD, h0, ha0, hl, hacc⟩, fun i es h1 h2 => ?_⟩ kk
    by_cases hv : i ∈ vs
    · exact absurd (at_val (backD_mem hv h1).symm (by simp)) (noOwn_at hn hv)
    · rw [backD_keep hv] at h1
      exact ap9 i es h1 (by rw [wipe_keep hv]; exact h2)
end
def tActI (X : Cx) (T : List (Addr × Str)) (m : Nat) (fes : Nat → FX) (i : Nat) (E : XK) (σ : L2.St) : TE := fun σZ HZ Q => ∃ (n : Nat) (d : LamD) (t : XK → TE) (f a : Addr), LamOkX X m d t ∧ DEsX X.K T t (fes n) ∧ σZ[i]? = some (some (.ref f)) ∧
  HZ f = some (FunO f (X.env.qual ++ "<lambda>") d.params d.body d.scope d.cl a) ∧ HZ a = some (CodeO a (X.env.qual ++ "<lambda>")) ∧ t E σ HZ Q
theorem pe_actI {X : Cx} {s0 : Shared} {H0 : Hp} {sc0 : Scope} {ce : Env} {fp0 : List Addr} {pinsX : List (Addr × Obj)} {σX : L2.St} (inside : Inside X (X.blk s0 H0 sc0 ce fp0) pinsX σX) {T : List (Addr × Str)} {fes : Nat → FX} {m i : Nat} {E : XK} {a : Str} {p1 p2 : Pos}
    (hx : Passes (L2.CX X.prog X.w) (X.blk s0 H0 sc0 ce fp0) E) (hr : Room (m + 1) X.A) (hw : PE (X.blk s0 H0 sc0 ce fp0) (.Name a p1) (tVar i)) :
    PE (X.blk s0 H0 sc0 ce fp0) (.Call (.Name a p1) [] [] p2) (tActI X T m fes i E σX) := by
  refine ⟨fun pinsZ sZ σZ HZ Q IZ h => ?_⟩
  obtain ⟨n, d, t, f, c', ⟨L, y2, hbind, hbody⟩, _, hs, hF, hc, ht⟩ := h
  rw [y2] at hF
  refine wpAny_Call_Name_kw (thn (hw.run pinsZ sZ σZ HZ (fun v H1 => v = .ref f ∧ H1 = HZ) IZ ⟨.ref f, hs, rfl, rfl⟩) fun u s1 ⟨v, H1, I1, r1, q1⟩ => ?_)
  obtain ⟨ev, eH⟩ := q1
  subst ev
  rw [eH] at I1
  obtain rfl : u = Value.ref f := r1
  obtain ⟨⟨pm, ctv, of1⟩, _, _⟩ := I1.hok f _ hF
  refine PySem.W.callWith_F0 ⟨_, _, _, _, of1⟩ ?_
  have I := inside _ _ _ _ I1
  obtain ⟨⟨oc, vs, tt, hoc, hdc, hvc⟩, _, _⟩ := I1.hok c' _ hc
  have rc : codeAny (model X.prog X.w) X.A (.call (.ref f) ⟨[], []⟩) (CR (L2.CX X.prog X.w) (X.blk s0 H0 sc0 ce fp0).stack X.prog X.w HZ s1 Q E) s1 := by
    refine PySem.W.kla_callFunE hr.depth of1 rfl L.co L.gen rfl ⟨c', oc, vs, tt, rfl, hoc, hdc, hvc⟩ ?_
    rw [hbind]
    refine wpAny_pure (wpAny_newFunctionEnv (fun y hy => (L.own y hy).2) (fun y hy => absurd hy (by simp)) (fun h₁ hns hsb => ⟨I1.nolimit.fresh _ hsb, ?_⟩) L.kind)
    show codeAny _ _ (.expr d.body (lamEnv X d.scope s1.heap.objs.size f c')) _ _
    have kp : ∀ b o, s1.heap.get? b = some o → h₁.get? b = some o := fun b o e => hsb.extBut b o (Nat.ne_of_lt (Heap.lt_size e)) (Heap.get?_push_of_some _ e)
    have J : Inv (lamCx X X.A (X.blk s0 H0 sc0 ce fp0).stack s1 HZ E d.scope f c') [] σX HZ { s1 with heap := h₁, toks := s1.toks + ([] : List (Str × Value)).length } :=
      lam_start2 I L I1.env0 hr.hd Un.refl hns kp
    refine PySem.W.kla_codeExpr (wpAny_mono ((hbody E _ _ s1 HZ f c' (hr.deeper _)).run [] _ _ HZ Q J ht) (fun v s' hq => ?_) fun e s' hq => hq)
    obtain ⟨w', H', J', rv, q⟩ := hq
    exact ⟨w', H', J'.os, J'.bare, J'.base, J'.hok, rv, q⟩
  refine wpAny_call (codeAny_mono rc fun r s' hq => ?_)
  cases r with
  | error e => exact hx pinsZ σZ HZ s1 e s' I1 hq
  | ok fl =>
    cases fl with
    | ret u => exact I1.after hq
    | next => exact False.elim hq
    | brk => exact False.elim hq
    | cont => exact False.elim hq
theorem rel_pick {c : Cxt} {caps : List Nat} {G H : Hp} {env : EnvD} {s : S} {σ σ1 : L2.St} (R3 : Rel c G env s σ1 H) (hl : σ.length = σ1.length) (hσ : ∀ i ∈ caps, σ1[i]? = σ[i]?) (hv : noOwn env caps) : Rel (c.inn H G) G (pick env caps (blank env)) s σ H := by
  have R' := R3.inn
  have no : ∀ (i : Nat) (ds : List D), (pick env caps (blank env))[i]? = some (.own ds) → False := fun i ds hi => by
    rcases pick_at hi with ⟨h1, h2⟩ | h1
    · exact noOwn_at hv h1 (at_val h2.symm (by simp))
    · have := blank_at h1; cases this
  exact
    { R' with len := (by rw [pick_len, blank_len, hl, ← R3.len])
              vals := fun i d hi => (by
                rcases pick_at hi with ⟨h1, h2⟩ | h1
                · obtain ⟨v, a, b⟩ := R3.vals i d (at_val h2.symm (by simp))
                  exact ⟨v, by rw [← hσ i h1]; exact a, b⟩
                · have := blank_at h1; cases this)
              owns := fun i ds hi => (no i ds hi).elim
              dist := fun i j ds es v hi _ _ _ => (no i ds hi).elim }
def wActI (LI : LamI) (fes : Nat → FX) (caps : List Nat) (i : Nat) : FE := fun env s k => noOwn env caps ∧ ∃ n f a o u, at_ env i = .val (.fn f a o u) ∧ LI n f a o u ∧ fes n (fun _ _ => False) (pick env caps (blank env)) s (fun r _ s' => k r env s')
def wRefI (LI : LamI) (fes : Nat → FX) (caps : List Nat) (i : Nat) : FE := fun env s k => noOwn env caps ∧ ∃ n f a o u, at_ env i = .val (.fn f a o u) ∧ LI n f a o u ∧
  fes n (fun x s' => ∃ j, idx9 x = some j ∧ k (.own [.int j]) env s') (pick env caps (blank env)) s (fun _ _ s' => k (.val .non) env s')
def TTrefI (X : Cx) (T : List (Addr × Str)) (m : Nat) (fes : Nat → FX) (vs : List V) (σ : L2.St) (H : Hp) (Q : VK) : Prop := ∃ (n : Nat) (d : LamD) (t : XK → TE) (f a : Addr), vs = [.ref f] ∧ LamOkX X m d t ∧ DEsX X.K T t (fes n) ∧
  H f = some (FunO f (X.env.qual ++ "<lambda>") d.params d.body d.scope d.cl a) ∧ H a = some (CodeO a (X.env.qual ++ "<lambda>")) ∧ TTref X.K T (fun E H' Q' => t E σ H' Q') H Q
section
variable {c : Cxt}
theorem dew_actI {X : Cx} {vs : List Nat} {σ : L2.St} {m i : Nat} {fes : Nat → FX} {caps : List Nat} (hK : c.K = X.K) (hcv : ∀ j ∈ caps, j ∉ vs) : DEw c vs σ (tActI X c.T m fes i C8.E0 σ) (wActI (liX X c.T m fes) fes caps i) := by
  intro G env s σ1 H k Q hw R hf qq
  obtain ⟨hn, n, f, a, o, u, h0, ⟨d, t, hd, htb, rfl, rfl⟩, ht⟩ := hf
  obtain ⟨v, h1, h2⟩ := R.vals i _ (at_val h0 (by simp))
  simp only [Rep] at h2
  obtain ⟨rfl, g1, g2, _⟩ := h2
  have hlen : σ.length = σ1.length := by rw [← wipe_length σ vs, ← wipe_length σ1 vs, hw]
  refine ⟨n, d, t, f, a, hd, htb, h1, R.ex _ _ g1, R.ex _ _ g2, ?_⟩
  have Rm := rel_pick R hlen (fun i hi => wipe_keepI hw (hcv i hi)) hn
  refine htb (c.inn H G) C8.E0 (fun _ _ => False) hK rfl (fun _ _ _ _ _ h => h) G _ s σ H _ Q Rm ht fun G' H' v r env' s' R2 e2 rv kk => ?_
  have Rb := R2.bare
  refine qq G' H' v r env s' (R.out Rb) e2 (RV.out R Rb ?_) kk
  cases r with
  | no => exact rv
  | val d => exact rv
  | own ds => exact ⟨rv.1, fun i es hi => by simp at hi⟩
theorem dew_refI {X : Cx} {vs : List Nat} {σ : L2.St} {m i : Nat} {fes : Nat → FX} {caps : List Nat} (hK : c.K = X.K) (hcv : ∀ j ∈ caps, j ∉ vs) : DEw c vs σ (fun σ1 H Q => tCons (tVar i) tNil σ1 H fun us H1 => us.length = 1 ∧ TTrefI X c.T m fes us σ H1 Q) (wRefI (liX X c.T m fes) fes caps i) := by
  intro G env s σ1 H k Q hw R hf qq
  obtain ⟨hn, n, f, a, o, u, h0, ⟨d, t, hd, htb, rfl, rfl⟩, ht⟩ := hf
  obtain ⟨v, h1, h2⟩ := R.vals i _ (at_val h0 (by simp))
  simp only [Rep] at h2
  obtain ⟨rfl, g1, g2, _⟩ := h2
  have hlen : σ.length = σ1.length := by rw [← wipe_length σ vs, ← wipe_length σ1 vs, hw]
  refine ⟨_, h1, rfl, n, d, t, f, a, rfl, hd, htb, R.ex _ _ g1, R.ex _ _ g2, ?_⟩
  have Rm := rel_pick R hlen (fun i hi => wipe_keepI hw (hcv i hi)) hn
  refine ⟨c.inn H G, G, s, fun r s' => k r env s', hK, rfl, R.inn, fun G' H' v r s' R' rv kk => qq G' H' v r env s' (R.out R') R'.gx (RV.out R R' rv) kk, fun Ech Qn hE hN => ?_⟩
  exact htb (c.inn H G) Ech (fun x s' => ∃ j, idx9 x = some j ∧ k (.own [.int j]) env s') hK rfl (fun G' H' x s' R' ⟨j, hj, kk⟩ => hE G' H' x j s' R' hj kk) G _ s σ H _ Qn Rm ht fun G' H' v r env' s' R' e rv kk => hN G' H' v s' R'.bare kk
end
theorem ref_core {b : Book} {X : Cx} {T : List (Addr × Str)} {st : Stmt} {k m : Nat} {fes : Nat → FX} {cdv : Value} (hva : Vis (defScope st) "_law_call")
    (hG : ∀ cdg, LamX.GivesTo X nRef "_law_refused" (defScope st) (He.ga X.K "_law_refused") cdg (defBody st) "_law_call" (X.env.qual ++ "<lambda>") (TTref X.K T))
    {pins : List (Addr × Obj)} {σ : L2.St} {H : Hp} {s : Shared} (I : Inv X pins σ H s) (hr : Room k (X.A.deeper (envOfC "_law_refused" (defScope st) s.heap.objs.size (He.ga X.K "_law_refused") cdv))) (hm : m + 1 ≤ k) {vs : List V} {Q : VK} (h : TTrefI X T m fes vs σ H Q) :
    ∃ t, PSs (cxOf C8.CX0 X.prog X.w X.K X.mg X.base nRef "_law_refused" (defScope st) (He.ga X.K "_law_refused") cdv X.A X.stack s H C8.E0).nox (defBody st) t ∧ t { nx := fun _ H' => Q .non H', rt := Q } (L2.start nRef vs) H := by
  obtain ⟨n, d, t, f, a, rfl, ⟨y1, y2, y3, y4⟩, _, z1, z2, hT⟩ := h
  rw [y2] at z1
  refine hG cdv f a s H Q (fun E H' Q' => H' f = some (FunO f (X.env.qual ++ "<lambda>") d.params d.body d.scope (cloFrom X.env.cells d.scope.names []) a) ∧ t E σ H' Q') (fun W pn xe E p1 p2 tk hW => ⟨fun pinsZ sZ σZ HZ QZ IZ hh => ?_⟩) z2 ?_
  · obtain ⟨w1, w2, w3, w4⟩ := hh
    exact (pe_actF (E := E) (k := m) (i := 0) (p1 := p1) (p2 := p2) I y1 y3 tk hW (hr.mono hm) (fun A o s H f c' hr' => y4 E A o s H f c' hr') rfl hva).run pinsZ sZ σZ HZ QZ IZ ⟨f, a, w1, w3, w2, w4⟩
  · obtain ⟨c, G, s0, kk, e1, e2, R, hq, htl⟩ := hT
    exact ⟨c, G, s0, kk, e1, e2, R, hq, fun Ech Qn hE hN => ⟨z1, htl Ech Qn hE hN⟩⟩
theorem pe_refI {b : Book} {X : Cx} {s0 : Shared} {H0 : Hp} {sc0 : Scope} {ce : Env} {fp0 : List Addr} {pinsX : List (Addr × Obj)} {σX : L2.St} (inside : Inside X (X.blk s0 H0 sc0 ce fp0) pinsX σX) {T : List (Addr × Str)} {st : Stmt} {k m : Nat} {fes : Nat → FX} {e : Expr} {ta : TA} {p pos : Pos} (TX : Txt b X.K X.mg) (i j : Nat)
    (hd : b.fn[i]? = some ⟨("_law_refused", none), "_law_refused", "_law_refused", defArgs st, defBody st, defScope st, [], []⟩) (hg : b.fa[j]? = some (.glo "_law_refused")) (Sg : FnScope nRef ["_law_call"] (defScope st))
    (hbind : ∀ (kV doc pm : Value) (an : Option Addr) (cdv ct : Value) (us : List Value), us.length = 1 → bindArgs (PySem.W.fnOf "_law_refused" "_law_refused" (defArgs st) (defBody st) (defScope st) .none kV doc pm an cdv ct) ⟨us, []⟩ = pure ((["_law_call"] : List Str).zip us))
    (hva : Vis (defScope st) "_law_call") (hG : ∀ cdg, LamX.GivesTo X nRef "_law_refused" (defScope st) (He.ga X.K "_law_refused") cdg (defBody st) "_law_call" (X.env.qual ++ "<lambda>") (TTref X.K T))
    (hm : m + 1 ≤ k) (hr : Room (k + 1) X.A) (ha : PA (X.blk s0 H0 sc0 ce fp0) [e] ta)
    (hgl : Gl (X.blk s0 H0 sc0 ce fp0) "_law_refused" := by rfl) (he : starEach [e] (X.blk s0 H0 sc0 ce fp0).env = (false, eval e (X.blk s0 H0 sc0 ce fp0).env) :: starEach [] (X.blk s0 H0 sc0 ce fp0).env := by rfl) (hpl : (backTo pos (starEach [] (X.blk s0 H0 sc0 ce fp0).env)).any (·.1) = false := by rfl) :
    PE (X.blk s0 H0 sc0 ce fp0) (.Call (.Name "_law_refused" p) [e] [] pos) (fun σ H Q => ta σ H fun vs H1 => vs.length = 1 ∧ TTrefI X T m fes vs σX H1 Q) := by
  obtain ⟨fd, FD⟩ := TX.fun_ i hd
  have FD' : FunD X.K "_law_refused" "_law_refused" (defArgs st) (defBody st) (defScope st) [] [] (He.ga X.K "_law_refused") fd := FD
  obtain ⟨oc, od, dV, kV, doc, pm, an, cdv, ct, osl, e', lk, hcd, _, _⟩ := FD'.ex
  subst e'
  exact pe_callL (TT := fun vs _ => TTrefI X T m fes vs σX) hgl (TX.glo j _ hg) FD'.kp lk hcd (FD'.bindsN (ps := ["_law_call"]) hbind) Sg hr ha (fun pins s σ H vs Q I' hr _ tt => ref_core (b := b) hva hG (inside _ _ _ _ I') hr hm tt) (by decide) he hpl
theorem wActI_C (LI : LamI) (fes : Nat → FX) (caps : List Nat) (i : Nat) (env : EnvD) (s : S) (ke : Sl → EnvD → S → Prop) : wActI LI fes caps i env s ke = (noOwn env caps ∧ ∃ n f a o u, at_ env i = .val (.fn f a o u) ∧ LI n f a o u ∧ fes n (fun _ _ => False) (pick env caps (blank env)) s (fun r _ s' => ke r env s')) := rfl
theorem wRefI_C (LI : LamI) (fes : Nat → FX) (caps : List Nat) (i : Nat) (env : EnvD) (s : S) (ke : Sl → EnvD → S → Prop) : wRefI LI fes caps i env s ke = (noOwn env caps ∧ ∃ n f a o u, at_ env i = .val (.fn f a o u) ∧ LI n f a o u ∧
  fes n (fun x s' => ∃ j, idx9 x = some j ∧ ke (.own [.int j]) env s') (pick env caps (blank env)) s (fun _ _ s' => ke (.val .non) env s')) := rfl
end DL
namespace DL
open PySem PySem.Spec PyProof.Rows L2 LamX
section
variable {X : Cx} {K : PySem.W.Frag} {e o : Expr} {t : TA} {te : TE} {apos cpos : Pos}
variable (K)
theorem pe_popAt (ho : PE X o te) (ha : PA X [e] t) (hK : X.K = K := by rfl) (hbase : attributeBase o "pop" X.env (eval o X.env) = eval o X.env := by rfl)
    (hfew : ((backTo cpos (starEach [e] X.env)).all (fun x => !x.1) && (backToKw cpos (keywordEach [] X.env)).all (fun x => x.1.isSome) && decide ([e].length + ([] : List Keyword).length + (if ([] : List Keyword).isEmpty then 0 else 1) < 30)) = true := by rfl)
    (hline : (apos.endLine == cpos.line) = true := by rfl) (hs : starEach [e] X.env = (false, eval e X.env) :: starEach [] X.env := by rfl) (hplain : (backTo cpos (starEach [] X.env)).any (·.1) = false := by rfl) :
    PE X (.Call (.Attribute o "pop" apos) [e] [] cpos) (tBM K "list" rPopAt te t) := by
  subst hK; exact pe_bm PySem.F.plainAttrs_list PySem.F.slot_list_pop PySem.F.type_list_pop mt_popAt ho ha hbase hfew hline hs hplain
end
def wPopAt (j : Nat) (f : FA) : FS := fun env s k => match at_ env j with
  | .own _ => f env s fun ds env1 s1 => match at_ env1 j, ds with
    | .own xs, [.int i] => (0 ≤ i ∧ i < 2 ^ 63 ∧ i < xs.length) ∧ k (.nx (env1.set j (.own (xs.eraseIdx i.toNat))) s1)
    | _, _ => False
  | _ => False
theorem RepL.eraseIdx {K : PySem.W.Frag} {G : Hp} {ds : List D} {vs : List V} (n : Nat) (h : RepL K G ds vs) : RepL K G (ds.eraseIdx n) (vs.eraseIdx n) := by
  rw [List.eraseIdx_eq_take_drop_succ, List.eraseIdx_eq_take_drop_succ]
  exact RepL.append (RepL.take n h) (RepL.drop (n + 1) h)
theorem seqIndex_nat {i : Int} {n : Nat} (h0 : 0 ≤ i) (h1 : i < n) : seqIndex? i n = some i.toNat := by
  obtain ⟨m, rfl⟩ := Int.eq_ofNat_of_zero_le h0
  unfold seqIndex?
  have hm : m < n := by omega
  simp only [if_neg (show ¬ ((m : Int) < 0) by omega), Int.toNat_natCast]
  rw [if_pos (by simp [hm])]
theorem ds_popAt {c : Cxt} {t : TA} {f : FA} (j : Nat) (h : DA c t f) : DS c (tDrop (tBM c.K "list" rPopAt (tVar j) t)) (wPopAt j f) := by
  intro G env s σ H k E R hf q
  unfold wPopAt at hf
  cases e : at_ env j with
  | no => rw [e] at hf; exact hf.elim
  | val d => rw [e] at hf; exact hf.elim
  | own ds0 =>
    rw [e] at hf
    obtain ⟨v, h1, p, vs0, rfl, h3, h4, h5, h6, h7⟩ := R.owns j ds0 (at_val e (by simp))
    refine ⟨_, h1, Or.inl ⟨rfl, vs0, Evl.sq_of h6⟩, ?_⟩
    refine h G env s σ H _ _ R hf fun G1 H1 ws es env1 s1 R1 e1 rl k1 => ?_
    cases e3 : at_ env1 j with
    | no => rw [e3] at k1; exact k1.elim
    | val d => rw [e3] at k1; exact k1.elim
    | own ds =>
      rw [e3] at k1
      split at k1
      · rename_i heq
        cases heq
        rename_i i
        simp only [RepL] at rl
        obtain ⟨x, r, rfl, hx, rfl⟩ := rl
        simp only [Rep] at hx
        subst hx
        obtain ⟨v, g1, p', vs, rfl, g3, g4, g5, g6, g7⟩ := R1.owns j _ (at_val e3 (by simp))
        rw [h1] at g1
        cases g1
        obtain ⟨⟨k2, k3, k4⟩, k5⟩ := k1
        have hl := g7.length
        have R3 := R1.write (es := _) (vs := vs.eraseIdx i.toNat) (at_val e3 (by simp)) h1 (RepL.eraseIdx i.toNat g7)
        have hi : i.toNat < vs.length := by omega
        exact ⟨p, vs, i, i.toNat, vs[i.toNat], rfl, rfl, g6, by omega, k3, seqIndex_nat k2 (by omega), List.getElem?_eq_getElem hi, q.nx G1 _ _ s1 σ R3 e1 k5⟩
      · exact k1.elim
def popAtK (j : Nat) (ks : Fl → Prop) : KA := fun ds e s => match at_ e j, ds with
  | .own xs, [.int i] => (0 ≤ i ∧ i < 2 ^ 63 ∧ i < xs.length) ∧ ks (.nx (e.set j (.own (xs.eraseIdx i.toNat))) s)
  | _, _ => False
theorem popAtK_ap (j : Nat) (ks : Fl → Prop) (ds : List D) (e : EnvD) (s : S) : popAtK j ks ds e s = (match at_ e j, ds with
  | .own xs, [.int i] => (0 ≤ i ∧ i < 2 ^ 63 ∧ i < xs.length) ∧ ks (.nx (e.set j (.own (xs.eraseIdx i.toNat))) s)
  | _, _ => False) := rfl
theorem wPopAt_C (j : Nat) (f : FA) (env : EnvD) (s : S) (ks : Fl → Prop) : wPopAt j f env s ks = (match at_ env j with
  | .own _ => f env s (popAtK j ks)
  | _ => False) := rfl
end DL
namespace DL
open PySem PySem.Spec PyProof.Rows L2 LamX
open Evl (Ex)
def rNotInSX : R2 := fun x y H Q => ∃ (ch : Nat) (z : Str), x = .str ⟨#[ch]⟩ ∧ y = .str z ∧ Q (.bl (!decide (ch ∈ z.cps.toList))) H
theorem op_notInSX {X : Cx} : OpR X (compareOp .NotIn) rNotInSX := op_notIn_sign
def gNotInS : F2 := fun d e k => match d, e with
  | .str x, .str z => ∃ ch : Nat, x = ⟨#[ch]⟩ ∧ k (.val (.bl (!decide (ch ∈ z.cps.toList))))
  | _, _ => False
theorem d2_notInS {c : Cxt} : D2 c rNotInSX gNotInS := by
  intro G env s σ H x y d e k Q R p1 p2 h q
  unfold gNotInS at h
  split at h
  · rename_i a z
    obtain ⟨ch, rfl, h⟩ := h
    exact ⟨ch, z, pr_str p1, pr_str p2, q G H _ (.val (.bl _)) R (Ex.refl G) (by simp only [RV, Rep]) h⟩
  · exact h.elim
end DL
set_option Elab.async false
set_option linter.all false
set_option maxRecDepth 100000
set_option maxHeartbeats 4000000
namespace DL
open PySem PySem.Spec PyProof.Rows L2 LamX
open Evl (Ex)
abbrev blkE (X : Cx) (s : Shared) (H : Hp) (scope : Scope) (ce : Env) (fp : List Addr) : Cx := { X.blk s H scope ce fp with xe := notedBy (model X.prog X.w) X.A ce fun e s' => CompFails (model X.prog X.w) X.A X.xe ce e s' }
section
variable {X : Cx} {pins : List (Addr × Obj)} {σ : L2.St} {H : Hp} {s : Shared}
theorem of_callB {B : Heap} {H' : Hp} {s' : Shared} (I : Inv X pins σ H s) (st : B.StaysIn s'.heap) (hok : HOk X.prog X.w H' B) (ub : UB (frs X.stack) H H' s.heap B s'.heap) (os : s'.os = s.os) (ag : AllBare s'.gens) :
    ∃ sI : Shared, Inv X pins σ H' sI ∧ (∀ b o, sI.heap.get? b = some o → b ∉ frs X.stack → B.get? b = some o) ∧ sI.heap.UpToSlots s'.heap ∧ s'.os = sI.os := by
  obtain ⟨G, g1, g2⟩ := restrict s'.heap fun b => (B.get? b).isSome || decide (b ∈ frs X.stack)
  have gB : ∀ b o, B.get? b = some o → G.get? b = some o := fun b o e => by
    rw [g1 b (by simp [e])]
    exact st b o e
  have gF : ∀ b, b ∈ frs X.stack → G.get? b = s'.heap.get? b := fun b hb => g1 b (by simp [hb])
  have og : ∀ b o, G.get? b = some o → s'.heap.get? b = some o ∧ ((B.get? b).isSome = true ∨ b ∈ frs X.stack) := fun b o e => by
    cases q : ((B.get? b).isSome || decide (b ∈ frs X.stack)) with
    | false => rw [g2 b q] at e; cases e
    | true =>
      rw [g1 b q] at e
      exact ⟨e, by simpa [Bool.or_eq_true] using q⟩
  refine ⟨{ s with heap := G, gens := s'.gens, drawn := s'.drawn, toks := s'.toks }, ?_, fun b o e hb => ?_, Heap.UpToSlots.of_keeps fun b o e => (og b o e).1, os⟩
  · refine I.call (ch := []) ⟨fun b o e n hb _ => gB b o (ub.keep b o e n hb), fun b o e n hb _ => ?_, fun b o e n _ => ub.free b o e n, fun b o e _ => ?_, ub.tups, ub.frzs, ub.tbls⟩ (hok.kept gB) ag (fun _ z => nomatch z)
    · obtain ⟨sl, q⟩ := ub.slot b o e hb
      exact ⟨sl, by rw [gF b hb]; exact q⟩
    · by_cases hb : b ∈ frs X.stack
      · obtain ⟨sl, q⟩ := ub.slot b o e hb
        exact ⟨_, by rw [gF b hb]; exact q⟩
      · obtain ⟨o', q⟩ := ub.there b o e hb
        exact ⟨o', gB b o' q⟩
  · obtain ⟨e', h⟩ := og b o e
    rcases h with h | h
    · obtain ⟨o', q⟩ := Option.isSome_iff_exists.mp h
      have z := st b o' q
      rw [e'] at z; cases z
      exact q
    · exact absurd h hb
theorem note_congr {ce env : Env} (h : ce.frame = env.frame) {e : Value} : noteFrame e ce = noteFrame e env := by
  unfold noteFrame PySem.frameOf
  rw [h]
theorem pass_err {W : WX} {E : XK} {s0 : Shared} {H0 : Hp} {sc0 : Scope} {ce : Env} {fp0 : List Addr} (tk : Takes X W) (hW : ∀ cls d σ' H', E cls d H' → W cls d σ' H') (hs : X.stack = X.env :: X.outer) (hces : ce.frame = X.env.frame) (hf : X.env.frame = some X.env.locals)
    (inside : Inside X (blkE X s0 H0 sc0 ce fp0) pins σ) (fpo : ∀ H', H' ce.locals = none → FpOk X pins H' ce.locals) : Passes (L2.CX X.prog X.w) (blkE X s0 H0 sc0 ce fp0) E := by
  intro pinsZ σZ HZ s e s' IZ c
  have I0 := inside _ _ _ _ IZ
  obtain ⟨a, B, H', cls, d, rfl, fl, hok, ub, na, os, ag, hE⟩ := c
  obtain ⟨m, ⟨oC, es, ep, hC, hdC, hkC, hmC⟩, _⟩ := IZ.loc
  have nC : HZ ce.locals = none := IZ.free
  obtain ⟨f0, f1, f2, f3, f4, f5⟩ := fpo HZ nC
  have hC : s.heap.get? ce.locals = some oC := hC
  have nfC : ce.locals ∉ frs X.stack := fun hm => by
    rcases List.mem_cons.mp (I0.stkSub _ hm) with z | z
    · exact f1 z
    · exact f2 z
  have hB : B.get? ce.locals = some oC := ub.keep _ oC hC nC nfC
  have ne1 : a ≠ ce.locals := fun z => by have := fl.2.1; rw [z, hB] at this; cases this
  have nCH : H' ce.locals = none := ub.free _ _ hC nC
  have hfr : X.A.frames = some (X.env :: X.outer) := by rw [I0.ok.frames, hs]
  have fl : HandSPX.FlyingZ B (X.env :: X.outer) a (Zc cls d) s'.heap := by rw [← hs]; exact fl
  show wpAny (model X.prog X.w) X.A (noteFrame (.ref a) ce) (fun _ s'' => CompFails (model X.prog X.w) X.A X.xe ce (.ref a) s'') (fun e s'' => CompFails (model X.prog X.w) X.A X.xe ce e s'') s'
  rw [note_congr hces]
  refine HandSPX.looks_onZ (outer := X.outer) (L := X.env.locals) Zc.steady hfr hf fl fun h1 hh1 up1 => ?_
  have hC1 : h1.get? ce.locals = some oC := hh1.1 _ oC hB
  refine ⟨m, ⟨oC, es, ep, hC1, hdC, hkC, hmC⟩, fun h' m' hn' sb => ?_⟩
  obtain ⟨o2, es2, ep2, h2, hd2, hk2, hm2⟩ := hn'
  have fr2 : o2.isFreed = false := by
    obtain ⟨c2, d2, t2, s2⟩ := o2
    have hd2 : t2 = .dict es2 ep2 := hd2
    subst hd2
    rfl
  have hC' : s'.heap.get? ce.locals = some oC := fl.1 _ oC hB
  generalize ehs : s.heap.update ce.locals (fun _ => o2) = hs2
  generalize ehB : B.update ce.locals (fun _ => o2) = B2
  generalize ehm : s'.heap.update ce.locals (fun _ => o2) = hm
  have gs : hs2.get? ce.locals = some o2 := by rw [← ehs]; exact Heap.get?_update_self (fun _ => o2) hC fr2
  have gsn : ∀ b, b ≠ ce.locals → hs2.get? b = s.heap.get? b := fun b hb => by rw [← ehs]; exact Heap.get?_update_other _ _ (Ne.symm hb)
  have gB : B2.get? ce.locals = some o2 := by rw [← ehB]; exact Heap.get?_update_self (fun _ => o2) hB fr2
  have gBn : ∀ b, b ≠ ce.locals → B2.get? b = B.get? b := fun b hb => by rw [← ehB]; exact Heap.get?_update_other _ _ (Ne.symm hb)
  have gm : hm.get? ce.locals = some o2 := by rw [← ehm]; exact Heap.get?_update_self (fun _ => o2) hC' fr2
  have gmn : ∀ b, b ≠ ce.locals → hm.get? b = s'.heap.get? b := fun b hb => by rw [← ehm]; exact Heap.get?_update_other _ _ (Ne.symm hb)
  have I1 : Inv X pins σ HZ { s with heap := hs2 } := I0.turned (t' := s.toks) (fun b o hb e => by rw [gsn b hb]; exact e) f0 f1 f3 f4 f5
  have st2 : B2.StaysIn hm := fun b o eb => by
    by_cases hb : b = ce.locals
    · rw [hb, gB] at eb
      rw [hb, gm]; exact eb
    · rw [gBn b hb] at eb
      rw [gmn b hb]
      exact fl.1 b o eb
  have hl2 : HandSPX.HeldZ B2 (X.env :: X.outer) a (Zc cls d) X.env.locals h' := by
    obtain ⟨q1, q2, q3, oe, vs, T, oT, ts, r1, r2, r3, r4, r5, r6, r7, r8, r9⟩ := hh1
    have neT : T ≠ ce.locals := fun z => by rw [z, hB] at r5; cases r5
    refine ⟨fun b o eb => ?_, by rw [gBn a ne1]; exact q2, ?_, oe, vs, T, oT, ts, by rw [sb.2 a ne1]; exact r1, r2, r3, r4, by rw [gBn T neT]; exact r5, r6, by rw [sb.2 T neT]; exact r7, r8, r9⟩
    · by_cases hb : b = ce.locals
      · rw [hb, gB] at eb
        rw [hb]
        cases eb
        exact h2
      · rw [gBn b hb] at eb
        rw [sb.2 b hb]
        exact q1 b o eb
    · have : ∀ (l : List Env), (∀ b ∈ frs l, b ≠ ce.locals) → h1.FunFrames B l → h'.FunFrames B2 l := by
        intro l
        induction l with
        | nil => exact fun _ _ => trivial
        | cons env rest ih =>
          rintro hl ⟨k1, ⟨L, o, k2, k3, k4, k5⟩, k6⟩
          have nL : L ≠ ce.locals := hl L (List.mem_filterMap.mpr ⟨env, List.mem_cons_self, k2⟩)
          exact ⟨k1, ⟨L, o, k2, by rw [gBn L nL]; exact k3, by rw [sb.2 L nL]; exact k4, k5⟩, ih (fun b hb => hl b (by
            obtain ⟨e, he, q⟩ := List.mem_filterMap.mp hb
            exact List.mem_filterMap.mpr ⟨e, List.mem_cons_of_mem _ he, q⟩)) k6⟩
      exact this _ (fun b hb z => nfC (by rw [hs, ← z]; exact hb)) q3
  have hok2 : HOk X.prog X.w H' B2 := fun b o q => (hok b o q).stay (fun c u hc r => by
    have nc : c ≠ ce.locals := fun z => by
      rcases hc with hc | hc
      · rw [hc] at z; rw [z, nCH] at q; cases q
      · rw [z, nCH] at hc; cases hc
    rw [gBn c nc]; exact r) (fun _ r => r) fun _ _ r => r
  have ub2 : UB (frs X.stack) HZ H' hs2 B2 hm :=
    { keep := fun b o eb n hb => (by
        by_cases hb2 : b = ce.locals
        · rw [hb2] at eb ⊢
          rw [gs] at eb
          rw [gB]; exact eb
        · rw [gsn b hb2] at eb
          rw [gBn b hb2]; exact ub.keep b o eb n hb)
      slot := fun b o eb hb => (by
        have hb2 : b ≠ ce.locals := fun z => nfC (by rw [← z]; exact hb)
        rw [gsn b hb2] at eb
        obtain ⟨sl, q⟩ := ub.slot b o eb hb
        exact ⟨sl, by rw [gmn b hb2]; exact q⟩)
      free := fun b o eb n => (by
        by_cases hb2 : b = ce.locals
        · rw [hb2]; exact nCH
        · rw [gsn b hb2] at eb
          exact ub.free b o eb n)
      there := fun b o eb hb => (by
        by_cases hb2 : b = ce.locals
        · rw [hb2]; exact ⟨_, gB⟩
        · rw [gsn b hb2] at eb
          rw [gBn b hb2]; exact ub.there b o eb hb)
      tups := ub.tups
      frzs := ub.frzs
      tbls := ub.tbls }
  obtain ⟨sI, J, nb, up, os3⟩ := of_callB (s' := { s' with heap := hm }) I1 st2 hok2 ub2 os ag
  have up2 : hm.UpToSlots h' := fun b o eb hd => by
    by_cases hb : b = ce.locals
    · rw [hb, gm] at eb
      cases eb
      exact ⟨o2.slots, by rw [hb]; exact h2⟩
    · rw [gmn b hb] at eb
      obtain ⟨sl, q⟩ := up1 b o eb hd
      exact ⟨sl, by rw [sb.2 b hb]; exact q⟩
  obtain ⟨k1, k2, k3, oe, vs, T, oT, ts', he, hz, hd, h1', hr⟩ := id hl2
  show wpAny (model X.prog X.w) X.A (passOn "comprehension.variables-let-go" (.ref a) ce : Sem Value) (fun _ _ => False) X.xe { s' with heap := h' }
  unfold PySem.passOn
  refine wpAny_bind (wpAny_field he hd h1' ?_)
  rw [if_neg (show ¬ ((Value.ref T == Value.none) = true) from by simp)]
  have fin : wpAny (model X.prog X.w) X.A (setFlight (.ref a) ce.frame) (fun _ s4 => wpAny (model X.prog X.w) X.A (throw (.ref a) : Sem Value) (fun _ _ => False) X.xe s4) X.xe { s' with heap := h' } := by
    rw [hces, hf]
    refine HandSPX.setFlight_onZ hl2 fun h4 hh4 up4 => wpAny_throw (tk _ _ ?_)
    exact ⟨a, B2, sI, pins, σ, H', cls, d, rfl, J, nb, (up.trans up2).trans up4, .inr (.inr (by rw [hs]; exact hh4)), na, os3, ag, hW _ _ _ _ hE⟩
  first
    | exact wpAny_bind (wpAny_pure (wpAny_bind fin))
    | exact wpAny_bind fin
end
theorem lc_err {X : Cx} {pins : List (Addr × Obj)} {s : Shared} {σ : L2.St} {H : Hp} {Q : VK} {elt tg iter : Expr} {ifs : List Expr} {scope : Scope} {own : List (Str × Nat)} {pos pos' : Pos} {wi : TI} {g : TG} {tt : TT} {te : TE} {use : Option (Value → Sem Unit)} {W0 : WX} {E : XK}
    (tk0 : Takes X W0) (hW0 : ∀ cls d σ' H', E cls d H' → W0 cls d σ' H') (hs0 : X.stack = X.env :: X.outer) (hf0 : X.env.frame = some X.env.locals) (calm : X.calm = true) (nd : X.N.Nodup) (I : Inv X pins σ H s) (hi : PI X tg iter wi) (ok : BlkOk X.N X.env.scope scope own)
    (hg : ∀ (s : Shared) (H : Hp) (C : Addr) (cl : List (Str × Addr)) (fp : List Addr), PG (X.blk s H scope (compEnvC scope cl C X.env) fp) tg g)
    (ht : ∀ (s : Shared) (H : Hp) (C : Addr) (cl : List (Str × Addr)) (fp : List Addr), PTs (X.blk s H scope (compEnvC scope cl C X.env) fp) ifs tt)
    (he : ∀ (s : Shared) (H : Hp) (C : Addr) (cl : List (Str × Addr)) (fp : List Addr), Passes (L2.CX X.prog X.w) (blkE X s H scope (compEnvC scope cl C X.env) fp) E → PE (blkE X s H scope (compEnvC scope cl C X.env) fp) elt te)
    (hfold : ∀ x, foldedSetIterable iter X.env x = pure x) (h : tLc wi g tt te (own.map (·.2)) σ H Q) {Qf : Value → Shared → Prop}
    (fin : ∀ D C s' m H', Inv X pins σ H' s' → Q (.ref D) H' → s'.heap.Ns C m → FpOk X pins H' C → compPost (model X.prog X.w) X.A X.xe use Qf (.ref D) C (.ok .next) s') :
    wpAny (model X.prog X.w) X.A (comprehension (.ListComp elt [⟨tg, iter, ifs, 0⟩] scope pos) scope X.env pos' (newList []) false (eval iter X.env) use) Qf X.xe s := by
  have freeHas : ∀ y ∈ scope.names, y.2 = .free → ∃ c, X.env.cells.lookup y.1 = some c := by
    intro y hy e
    exact (ok.free y hy e).elim (fun k => I.ok.has _ (.inl k)) (fun k => I.ok.has _ (.inr k))
  refine comprehension_at (use := use) rfl hfold (closure_ok freeHas) ok.kind (fun y hy e => by rw [ok.uniq y hy, e]) (thn (hi.run pins s σ H _ I h) fun _ _ hx => thn hx fun _ t2 ht2 => ?_)
  obtain ⟨itr, fp, tn, J, Ha, rfl, Ia, T, sta, fpa, q⟩ := ht2
  refine wpAny_newObj_type (newEnv_comp ?_) (by show 0 ≤ sizeLine; decide)
  obtain ⟨Dl, hDl⟩ : ∃ Dl, Dl = t2.heap.objs.size := ⟨_, rfl⟩
  rw [← hDl]
  have freshD : Ha Dl = none := Ia.hok.fresh (by rw [hDl]; exact Nat.le_refl _)
  obtain ⟨W, ⟨m0, w0⟩, step⟩ := q Dl freshD
  generalize etb : ({ t2 with heap := t2.heap.push { cls := .type "list", data := .seq ([] : List Value).toArray } } : Shared) = tb
  have Ib : Inv X pins σ (upd Ha Dl (.lst [])) tb := by
    rw [← etb]
    refine Ia.laid (t' := t2.toks) (fun b o e => Heap.get?_push_of_some _ e) (by rw [hDl]; exact Nat.le_refl _) ⟨Nat.zero_le _, [], 0, .nil, ?_⟩
    rw [hDl]
    exact Heap.get?_push_size _ rfl
  have below : ∀ b ∈ fp, b < t2.heap.objs.size := by
    intro b hb'
    obtain ⟨o, e, _⟩ := T.obj _ _ sta b hb'
    exact Heap.lt_size e
  have fpb : ∀ b ∈ fp, FpOk X pins (upd Ha Dl (.lst [])) b ∧ b < tb.heap.objs.size := by
    intro b hb'
    have lt := below b hb'
    refine ⟨⟨?_, (fpa b hb').2⟩, ?_⟩
    · rw [upd_ne (by rw [hDl]; exact Nat.ne_of_lt lt)]
      exact (fpa b hb').1
    · rw [← etb]
      show b < (t2.heap.push _).objs.size
      rw [Heap.size_push]
      exact Nat.lt_succ_of_lt lt
  have stb : tn 0 tb.heap := T.keep _ _ _ sta fun _ _ _ e => by
    rw [← etb]
    exact Heap.get?_push_of_some _ e
  have nofp : ∀ b ∈ fp, upd Ha Dl (.lst []) b = none := fun b hb' => (fpb b hb').1.1
  obtain ⟨cl, hcl⟩ : ∃ cl, cl = cellsFrom (tb.heap.objs.size + 1) scope.names (cloFrom X.env.cells scope.names []) := ⟨_, rfl⟩
  obtain ⟨ce, hce⟩ : ∃ ce, ce = compEnvC scope cl tb.heap.objs.size X.env := ⟨_, rfl⟩
  obtain ⟨tc, htc⟩ : ∃ tc : Shared, tc = { tb with heap := pushCells (tb.heap.push { cls := .type "dict", data := .dict #[] }) scope.names } := ⟨_, rfl⟩
  have Ic : Inv (X.blk tb (upd Ha Dl (.lst [])) scope ce fp) [] (wipe σ (own.map (·.2))) (upd Ha Dl (.lst [])) tc := by
    rw [hce, hcl, htc]
    exact block_start Ib ok nd fpb
  have inside : Inside X (X.blk tb (upd Ha Dl (.lst [])) scope ce fp) pins σ := by
    intro pins' σ' H' s' I'
    exact Ib.call' (ch := fp) I'.os I'.base I'.hok I'.bare fun b hb' => ⟨(fpb b hb').1.2.2.2.1, (fpb b hb').1.2.1, (fpb b hb').1.2.2.2.2.1, (fpb b hb').1.2.2.2.2.2⟩
  have pg : PG (X.blk tb (upd Ha Dl (.lst [])) scope ce fp) tg g := by rw [hce]; exact hg ..
  have pt : PTs (X.blk tb (upd Ha Dl (.lst [])) scope ce fp) ifs tt := by rw [hce]; exact ht ..
  have insideE : Inside X (blkE X tb (upd Ha Dl (.lst [])) scope ce fp) pins σ := fun pins' σ' H' s' I' => inside pins' σ' H' s' I'.unwish
  have fpoC : ∀ H', H' ce.locals = none → FpOk X pins H' ce.locals := fun H' hn => by
    refine Ib.fpOk ?_ hn
    rw [hce]
    exact Nat.le_refl _
  have pe : PE (blkE X tb (upd Ha Dl (.lst [])) scope ce fp) elt te := by
    have hp := pass_err (E := E) tk0 hW0 hs0 (by rw [hce]; rfl) hf0 insideE fpoC
    rw [hce] at hp ⊢
    exact he _ _ _ _ _ hp
  obtain ⟨RR, hRR⟩ : ∃ RR, RR = compEnds (model X.prog X.w) X.A X.xe use Qf (.ref Dl) ce := ⟨_, rfl⟩
  have okR : ∀ s', compPost (model X.prog X.w) X.A X.xe use Qf (.ref Dl) tb.heap.objs.size (.ok .next) s' → RR (.ok .next) s' := fun s' h => by
    rw [hRR, hce]
    cases use <;> exact h
  have erR : ∀ e s', CompFails (model X.prog X.w) X.A X.xe ce e s' → RR (.error e) s' := fun e s' h => by
    rw [hRR]
    cases use <;> exact h
  have locC : ce.locals = tb.heap.objs.size := by rw [hce]; rfl
  have stc : tn 0 tc.heap := T.keep _ _ _ stb fun b _ o e => by
    rw [htc]
    exact pushCells_keeps _ _ _ _ (Heap.get?_push_of_some _ e)
  have main : codeAny (model X.prog X.w) X.A (.compStart (.ListComp elt [⟨tg, iter, ifs, 0⟩] scope pos) 0 (.ref itr) (.ref Dl) ce) RR tc := by
    generalize upd Ha Dl (.lst []) = Hb at *
    let B := X.blk tb Hb scope ce fp
    let ws := wipe σ (own.map (·.2))
    have still : ∀ {σ' : L2.St} {H' : Hp} {s' : Shared}, Inv B [] σ' H' s' → (∀ b ∈ fp, H' b = none) → ∀ b ∈ fp, FpOk B [] H' b := by
      intro σ' H' s' I' n b hb'
      exact ⟨n b hb', (I'.ok.exf b hb').1, I'.ok.exfs b hb', .inl hb', fun x c e => (I'.ok.exf b hb').2 x c e, fun p hp => by simp at hp; exact absurd hp (by intro z; cases z)⟩
    suffices loop : codeAny (model X.prog X.w) X.A (.compLoop (.ListComp elt [⟨tg, iter, ifs, 0⟩] scope pos) 0 (.ref itr) (.ref Dl) ce) RR tc from codeAny_compStart_list loop (T.self X.A 0 _ _ _ stc loop)
    refine compLoop_any (fun n s' => ∃ i H', Inv B [] ws H' s' ∧ tn i s'.heap ∧ (∀ b ∈ fp, H' b = none) ∧ W i n H') ?_ m0 ⟨0, Hb, Ic, stc, nofp, w0⟩
    rintro n s5 ⟨i, H5, I5, st5, n5, w5⟩
    cases step i n H5 w5 with
    | inl over =>
      obtain ⟨stop, qq⟩ := over
      refine thnF (T.done B rfl rfl rfl calm i [] s5 _ H5 (fun _ _ => False) I5 (still I5 n5) st5 stop) fun r s6 hr => ?_
      obtain ⟨rfl, I6⟩ := hr
      have free6 : H5 tb.heap.objs.size = none := by
        rw [← locC]
        exact I6.free
      obtain ⟨m, ns6, _⟩ := I6.loc
      have ns6' : s6.heap.Ns ce.locals m := ns6
      rw [locC] at ns6'
      exact okR _ (fin Dl _ s6 m H5 (inside _ _ _ _ I6) qq ns6' (Ib.fpOk (Nat.le_refl _) free6))
    | inr more =>
      obtain ⟨go, Nx, hNx, turn⟩ := more
      refine thnF (T.item B rfl rfl rfl calm i [] s5 _ H5 (fun _ _ => False) I5 (still I5 n5) st5 go) fun r s6 hr => ?_
      obtain ⟨u, rfl, h6⟩ := hr
      refine thnF h6 fun _ s7 h7 => ?_
      obtain ⟨x, H7, I7, r7, y7, st7, n7⟩ := h7
      refine thnF (pg.run _ s7 _ H7 x u _ (I7.pinned (still I7 n7) (T.obj _ _ st7)) r7 (turn x H7 y7)) fun _ s8 h8 => ?_
      obtain ⟨σ8, H8, I8, hw8, q8⟩ := h8
      refine thnF (pt.run _ s8 σ8 H8 _ I8 q8) fun b s9 h9 => ?_
      obtain ⟨H9, I9, q9⟩ := h9
      have again : ∀ {s' : Shared} {H' : Hp}, Inv B ([] ++ pinsAt fp s7.heap) σ8 H' s' → Nx H' → ∃ m, m < n ∧ ∃ i H', Inv B [] ws H' s' ∧ tn i s'.heap ∧ (∀ b ∈ fp, H' b = none) ∧ W i m H' := by
        intro s' H' I' nx
        obtain ⟨m', lt, w'⟩ := hNx H' nx
        have pinned : ∀ b ∈ fp, ∀ o, s7.heap.get? b = some o → s'.heap.get? b = some o ∧ H' b = none := by
          intro b hb' o e
          have z := I'.pin (b, o) (List.mem_append_right _ (List.mem_append_right _ (mem_pinsAt hb' e)))
          exact ⟨z.1, z.2.1⟩
        refine ⟨m', lt, i + 1, H', (I'.unpinned (pins := [])).weak (by show (wipe σ (own.map (·.2))).length = σ8.length; rw [← hw8, wipe_length]) (fun j v e => ?_), T.keep _ _ _ st7 fun b hb' o e => (pinned b hb' o e).1, fun b hb' => ?_, w'⟩
        · have e' : (wipe σ (own.map (·.2)))[j]? = some (some v) := e
          rw [← hw8] at e'
          exact (wipe_some e').1
        · obtain ⟨o, e, _⟩ := T.obj _ _ st7 b hb'
          exact (pinned b hb' o e).2
      by_cases hb' : b = true
      · subst hb'
        simp only [if_true] at q9 ⊢
        refine wpAny_mono (pe.run _ s9 σ8 H9 _ (I9.wish _) q9) (fun z s10 h10 => ?_) fun e s' h => wpAny_mono h (fun _ s'' h2 => erR _ _ h2) fun e s'' h2 => erR _ _ h2
        obtain ⟨yv, H10, I10, r10, acc, hD10, hz10, nx⟩ := h10
        have I10 := I10.unwish
        exact app_ok (X := B) I10 hD10 hz10 r10 fun s11 I11 => again I11 nx
      · rw [Bool.not_eq_true] at hb'
        subst hb'
        simp only [Bool.false_eq_true, if_false] at q9 ⊢
        exact again I9 q9
  rw [hRR, hce, hcl, htc] at main
  exact main
theorem pe_lcR {X : Cx} {elt tg iter : Expr} {ifs : List Expr} {scope : Scope} {own : List (Str × Nat)} {pos : Pos} {wi : TI} {g : TG} {tt : TT} {te : TE} {W0 : WX} {E : XK} (tk0 : Takes X W0) (hW0 : ∀ cls d σ' H', E cls d H' → W0 cls d σ' H') (hs0 : X.stack = X.env :: X.outer) (hf0 : X.env.frame = some X.env.locals) (hc : X.calm = true) (hN : X.N.Nodup) (hi : PI X tg iter wi) (ok : BlkOk X.N X.env.scope scope own)
    (hg : ∀ (s : Shared) (H : Hp) (C : Addr) (cl : List (Str × Addr)) (fp : List Addr), PG (X.blk s H scope (compEnvC scope cl C X.env) fp) tg g)
    (ht : ∀ (s : Shared) (H : Hp) (C : Addr) (cl : List (Str × Addr)) (fp : List Addr), PTs (X.blk s H scope (compEnvC scope cl C X.env) fp) ifs tt)
    (he : ∀ (s : Shared) (H : Hp) (C : Addr) (cl : List (Str × Addr)) (fp : List Addr), Passes (L2.CX X.prog X.w) (blkE X s H scope (compEnvC scope cl C X.env) fp) E → PE (blkE X s H scope (compEnvC scope cl C X.env) fp) elt te) (hs : ∀ x, foldedSetIterable iter X.env x = pure x := by intro _; rfl) :
    PE X (.ListComp elt [⟨tg, iter, ifs, 0⟩] scope pos) (tLc wi g tt te (own.map (·.2))) := by
  refine ⟨fun pins s σ H Q I h => ?_⟩
  rw [eval_ListComp]
  refine lc_err tk0 hW0 hs0 hf0 hc hN I hi ok hg ht he hs h fun D C s' m H' I' q hn f => ⟨m, hn, fun h'' sb => ?_⟩
  obtain ⟨f0, f1, f2, f3, f4, f5⟩ := f
  exact ⟨.ref D, H', I'.turned (t' := s'.toks) (fun b o hb e => (sb.2 b hb).trans e) f0 f1 f3 f4 f5, rfl, q⟩
theorem ps_setLcR {X : Cx} {i : Nat} {y : Str} {py : Pos} {elt tg iter : Expr} {ifs : List Expr} {scope : Scope} {own : List (Str × Nat)} {pos spos : Pos} {wi : TI} {g : TG} {tt : TT} {te : TE} {W0 : WX} {E : XK} (tk0 : Takes X W0) (hW0 : ∀ cls d σ' H', E cls d H' → W0 cls d σ' H') (hs0 : X.stack = X.env :: X.outer) (hf0 : X.env.frame = some X.env.locals) (hc : X.calm = true) (hN : X.N.Nodup) (hy : X.N[i]? = some y) (hyl : X.env.scope.names.lookup y = some .local)
    (hsw : swapsWith (.ListComp elt [⟨tg, iter, ifs, 0⟩] scope pos) (some (.Name y py)) spos.line X.env = pure true) (hi : PI X tg iter wi) (ok : BlkOk X.N X.env.scope scope own)
    (hg : ∀ (s : Shared) (H : Hp) (C : Addr) (cl : List (Str × Addr)) (fp : List Addr), PG (X.blk s H scope (compEnvC scope cl C X.env) fp) tg g) (ht : ∀ (s : Shared) (H : Hp) (C : Addr) (cl : List (Str × Addr)) (fp : List Addr), PTs (X.blk s H scope (compEnvC scope cl C X.env) fp) ifs tt)
    (he : ∀ (s : Shared) (H : Hp) (C : Addr) (cl : List (Str × Addr)) (fp : List Addr), Passes (L2.CX X.prog X.w) (blkE X s H scope (compEnvC scope cl C X.env) fp) E → PE (blkE X s H scope (compEnvC scope cl C X.env) fp) elt te) (hs : ∀ x, foldedSetIterable iter X.env x = pure x := by intro _; rfl) :
    PS X (.Assign [.Name y py] (.ListComp elt [⟨tg, iter, ifs, 0⟩] scope pos) spos) (tAsg (tLc wi g tt te (own.map (·.2))) (gName i)) := by
  refine ⟨fun pins s σ H D I h => ?_⟩
  rw [exec_Assign_Name_used _ _ _ _ hsw]
  refine wpAny_bind (wpAny_standAt (wpAny_bind ?_))
  show wpAny _ X.A (do let _ ← comprehension (.ListComp elt [⟨tg, iter, ifs, 0⟩] scope pos) scope X.env (firstIterPos [⟨tg, iter, ifs, 0⟩] pos) (newList []) false (eval iter X.env) (some (assign (.Name y py) X.env))) _ _ s
  have h : tLc wi g tt te (own.map (·.2)) σ H (fun x H1 => gName i x σ H1 D.nx) := h
  refine wpAny_bind (thn (lc_err (Qf := fun _ s' => SP X pins D .next s') tk0 hW0 hs0 hf0 hc hN I hi ok hg ht he hs h fun L C s' m H' I' q hn f => ?_) fun _ s' hq => wpAny_pure (wpAny_pure hq))
  show wpAny _ _ (assign (.Name y py) X.env (.ref L)) _ _ _
  refine wpAny_assign_Name (store_ok2 (v := V.ref L) I' hN hy (.inl hyl) rfl (fun s2 I2 ⟨a, sb, ha⟩ => ?_) (.inr hyl))
  obtain ⟨f0, f1, f2, f3, f4, f5⟩ := f
  have haC : C ≠ a := by
    rcases ha with z | z
    · rw [z]; exact f1
    · exact fun e => f4 y a z e.symm
  refine ⟨m, hn.sameBut sb haC, fun h3 sb3 => ?_⟩
  exact ⟨_, H', I2.turned (t' := s2.toks) (fun b o hb e => (sb3.2 b hb).trans e) f0 f1 f3 f4 f5, q⟩
theorem eok_hide {c : Cxt} {E : XK} {xq : Str → S → Prop} {Dl : Addr} {avs : List V} (h0 : c.H0 Dl = none) (hE : EOk c (He.ga c.K) E xq) : EOk (c.h0 (upd c.H0 Dl (.lst avs))) (He.ga c.K) E xq := fun G H cn s R hx => hE G H cn s (R.unhide h0) hx
section
variable {c : Cxt}
theorem de_compR {wi : TI} {fi : FI} {g : TG} {fg : FG} {tt : TT} {ft : FT} {te : TE} {fe : FE} {vs : List Nat} {E : XK} {xq : Str → S → Prop} (hE : EOk c (He.ga c.K) E xq) (hi : DI c wi fi) (hg : ∀ H0, DG (c.h0 H0) g fg) (ht : ∀ H0, DT (c.h0 H0) tt ft) (he : ∀ H0, EOk (c.h0 H0) (He.ga c.K) E xq → DE (c.h0 H0) te fe) (hw : GW g vs) :
    DE c (tLc wi g tt te vs) (wComp fi fg ft fe vs) := by
  intro G env s σ H k Q R hf q
  refine hi G env s σ H _ _ R hf fun G1 H1 J ds env1 s1 R1 e1 w k1 => ?_
  obtain ⟨hn, hlen, k1⟩ := k1
  obtain ⟨n, Gd, Y, hnn, wk, hG, hY⟩ := w.ex
  intro Dl hD
  have h0 : c.H0 Dl = none := R1.kn Dl hD
  have ha0 : c.a0 ≠ some Dl := R1.a0ne hD
  have R1n := R1.new (o := .lst []) hD (fun _ z => by cases z)
  have ap0 := R1.newApart hD
  have apw : Apart (wipeD env1 vs) (L2.wipe σ vs) (.ref Dl) := fun i es h1 h2 => by
    obtain ⟨a1, a2⟩ := wipeD_some (by simp) h1
    rw [wipe_keep a2] at h2
    exact ap0 i es a1 h2
  have apo : ∀ {avs G4 env4 s4 σ4 H4}, Rel (c.h0 (upd c.H0 Dl (.lst avs))) G4 env4 s4 σ4 H4 → Apart env4 σ4 (.ref Dl) := fun {avs G4 env4 s4 σ4 H4} R4 i es h1 h2 => by
    obtain ⟨v, e1, q, us, rfl, e3, e4, _⟩ := R4.owns i es h1
    rw [e1] at h2
    cases h2
    have e4' : upd c.H0 Dl (.lst avs) Dl = none := e4
    rw [upd_same] at e4'
    cases e4'
  have HDl : ∀ {avs G4 env4 s4 σ4 H4}, Rel (c.h0 (upd c.H0 Dl (.lst avs))) G4 env4 s4 σ4 H4 → H4 Dl = some (.lst avs) ∧ G4 Dl = none := fun {avs G4 env4 s4 σ4 H4} R4 =>
    ⟨R4.keep Dl _ upd_same ha0 (fun _ z => by cases z), R4.gnew Dl avs (by show upd c.H0 Dl _ Dl = some (.lst avs); rw [upd_same]) (by
      have : c.G0 Dl = none := by
        cases q : c.G0 Dl with
        | none => rfl
        | some o => have := R1.ex _ _ (R1.gx _ _ q); rw [hD] at this; cases this
      exact this)⟩
  refine lc_it wk (fun i H' => ∃ G' acc avs env' s', Rel (c.h0 (upd c.H0 Dl (.lst avs))) G' env' s' (L2.wipe σ vs) H' ∧ Ex G1 G' ∧ RepL c.K G' acc avs ∧ acc.length ≤ i ∧
      compW fg ft fe vs (fun acc env2 s2 => k (.own acc) (backD env1 env2 vs) s2) (ds.drop i) acc env' s') ?_ ?_ ?_ ?_
  · exact ⟨G1, [], [], _, s1, (R1n.wipe vs).hide upd_same (R1.g0 hD) h0 apw, Ex.refl G1, RepL.nil, Nat.le_refl _, by simpa using k1⟩
  · rintro i H' _ ⟨G', acc, avs, env', s', R', e', _⟩
    exact hG ⟨_, Ex.new h0⟩ G' H' _ s' _ R' e'
  · rintro i x H' H3 hin ⟨G', acc, avs, env', s', R', e', hacc, hal, kk⟩ y
    obtain ⟨G3, d, R3, e3, hd, rd⟩ := hY i ⟨_, Ex.new h0⟩ G' H' _ s' _ x H3 hin R' e' y
    have hdrop : ds.drop i = d :: ds.drop (i + 1) := by
      obtain ⟨hl, hx⟩ := List.getElem?_eq_some_iff.mp hd
      rw [List.drop_eq_getElem_cons hl, hx]
    rw [hdrop] at kk
    have hw' : ∀ (Q : L2.St → Hp → Prop), g x (L2.wipe σ vs) H3 (fun σ2 H2 => L2.wipe σ2 vs = L2.wipe σ vs → Q σ2 H2) → g x (L2.wipe σ vs) H3 (fun σ2 H2 => L2.wipe σ2 vs = L2.wipe σ vs ∧ Q σ2 H2) := by
      intro Q q
      have := hw x (L2.wipe σ vs) H3 Q (by rw [wipe_wipe]; exact q)
      rw [wipe_wipe] at this
      exact this
    refine hw' _ ?_
    refine hg _ G3 _ s' _ H3 x (.val d) _ _ R3 rd kk fun G4 H4 env4 s4 σ4 R4 e4 k4 => ?_
    intro hwipe
    refine ht _ G4 env4 s4 σ4 H4 _ _ R4 k4 fun G5 H5 b env5 s5 R5 e5 k5 => ?_
    have fin : ∀ {G6 env6 s6 H6}, Rel (c.h0 (upd c.H0 Dl (.lst avs))) G6 env6 s6 σ4 H6 → Rel (c.h0 (upd c.H0 Dl (.lst avs))) G6 (wipeD env6 vs) s6 (L2.wipe σ vs) H6 := fun {G6 env6 s6 H6} R6 => by
      have := R6.wipe vs
      rw [hwipe] at this
      exact this
    cases b with
    | true =>
      refine he _ (eok_hide h0 hE) G5 env5 s5 σ4 H5 _ _ R5 k5 fun G6 H6 v r env6 s6 R6 e6 rv6 k6 => ?_
      obtain ⟨G7, R7, e7, rp⟩ := R6.toVal rv6
      have R8 := fin R7
      obtain ⟨hl, hg7⟩ := HDl R8
      have eAll : Ex G' G7 := (((e3.trans e4).trans e5).trans e6).trans e7
      have hacc7 : RepL c.K G7 (acc ++ [r.d]) (avs ++ [v]) := RepL.append (RepL.mono eAll acc hacc) (RepL.one rp)
      refine ⟨avs, hl, by rw [hacc.length]; omega, G7, acc ++ [r.d], avs ++ [v], _, s6, ?_, e'.trans eAll, hacc7, by simp; omega, k6⟩
      have ap9 := apo R8
      have R9 := R8.unhide h0
      have R10 : Rel c G7 (wipeD env6 vs) s6 (L2.wipe σ vs) (upd H6 Dl (.lst (avs ++ [v]))) :=
        { R9 with ex := R9.ex.mut hg7
                  st := fun a ha => (by
                    obtain ⟨m1, y, z, m2, m3⟩ := R9.st a ha
                    exact ⟨m1, y, z, m2, by rw [upd_ne (fun z => ha0 (by rw [← z]; exact ha))]; exact m3⟩)
                  keep := fun p o h1 h2 h3 => (by
                    rw [upd_ne (fun z => by rw [z, h0] at h1; cases h1)]
                    exact R9.keep p o h1 h2 h3)
                  kn := fun p hp => (by
                    by_cases hb : p = Dl
                    · rw [hb]; exact h0
                    · rw [upd_ne hb] at hp; exact R9.kn p hp)
                  tab := Tabs.updL R9.tab hl
                  owns := fun i es hi => (by
                    obtain ⟨w, n1, p, us, rfl, n3, n4, n5, n6, n7⟩ := R9.owns i es hi
                    have hb : p ≠ Dl := fun z => ap9 i es hi (by rw [n1, z])
                    exact ⟨_, n1, p, us, rfl, n3, n4, n5, by rw [upd_ne hb]; exact n6, n7⟩) }
      exact R10.hide upd_same hg7 h0 ap9
    | false =>
      exact ⟨G5, acc, avs, _, s5, fin R5, e'.trans ((e3.trans e4).trans e5), RepL.mono ((e3.trans e4).trans e5) acc hacc, by omega, k5⟩
  · rintro H' ⟨G', acc, avs, env', s', R', e', hacc, hal, kk⟩
    rw [hnn, List.drop_length] at kk
    obtain ⟨hl, hgD⟩ := HDl R'
    have ap9 := apo R'
    have R2 := R1.unwipe e' hn (R'.unhide h0)
    refine q G' H' _ (.own acc) _ s' R2 (e1.trans e') ⟨⟨Dl, avs, rfl, hgD, h0, ha0, hl, hacc⟩, fun i es h1 h2 => ?_⟩ kk
    by_cases hv : i ∈ vs
    · exact absurd (at_val (backD_mem hv h1).symm (by simp)) (noOwn_at hn hv)
    · rw [backD_keep hv] at h1
      exact ap9 i es h1 (by rw [wipe_keep hv]; exact h2)
end
end DL
set_option Elab.async false
set_option linter.all false
set_option maxRecDepth 100000
set_option maxHeartbeats 4000000
namespace Mi
open PySem L2 DL
def xq0 : Str → S → Prop := fun _ _ => False
def BF_is_whole (xq : Str → S → Prop) : FS :=
  (wRet (wAndV (wIsi "int" (wPV 0)) (wNotV (wIsi "bool" (wPV 0)))))
def F_is_whole : Fn := fun ds s k xq => ds.length = 1 ∧ BF_is_whole xq (start_ ["thing"] ds) s (kBody k)
def BF_divisor (xq : Str → S → Prop) : FS :=
  (wSeq (wWhile (wB (wOpv gNe 1 (wP (wC (.int 0)))))
  (wPar 0 1 (wCons (wV 1) (wCons (wOpv gMod 0 (wPV 1)) wNil))))
  (wRet (wCB1 gAbs (wPV 0))))
def F_divisor : Fn := fun ds s k xq => ds.length = 2 ∧ BF_divisor xq (start_ ["one", "other"] ds) s (kBody k)
def BF_is_fraction (xq : Str → S → Prop) : FS :=
  (wSeq (wIfS (wOr (wNot (wB (wIsi "tuple" (wPV 0)))) (wOr (wB (wOp gNe (wCB1 gLen (wPV 0)) (wP (wC (.int 2))))) (wOr (wNot (wB (wCall F_is_whole xq (wCons (wIxv 0 (wP (wC (.int 0)))) wNil)))) (wNot (wB (wCall F_is_whole xq (wCons (wIxv 0 (wP (wC (.int 1)))) wNil)))))))
  (wRet (wC (.bl false)))
  wNext)
  (wRet (wAndV (wOp gGt (wIxv 0 (wP (wC (.int 1)))) (wP (wC (.int 0)))) (wOp gEq (wCall F_divisor xq (wCons (wIxv 0 (wP (wC (.int 0)))) (wCons (wIxv 0 (wP (wC (.int 1)))) wNil))) (wP (wC (.int 1)))))))
def F_is_fraction : Fn := fun ds s k xq => ds.length = 1 ∧ BF_is_fraction xq (start_ ["thing"] ds) s (kBody k)
def BF_is_less (xq : Str → S → Prop) : FS :=
  (wRet (wOp gLt (wOp gMul (wIxv 0 (wP (wC (.int 0)))) (wP (wIxv 1 (wP (wC (.int 1)))))) (wP (wOp gMul (wIxv 1 (wP (wC (.int 0)))) (wP (wIxv 0 (wP (wC (.int 1)))))))))
def F_is_less : Fn := fun ds s k xq => ds.length = 2 ∧ BF_is_less xq (start_ ["one", "other"] ds) s (kBody k)
def BF_sign_of (xq : Str → S → Prop) : FS :=
  (wRet (wOp gMin (wCB1 gInt (wP (wOp gGt (wIxv 0 (wP (wC (.int 0)))) (wP (wC (.int 0)))))) (wP (wCB1 gInt (wP (wOp gLt (wIxv 0 (wP (wC (.int 0)))) (wP (wC (.int 0)))))))))
def F_sign_of : Fn := fun ds s k xq => ds.length = 1 ∧ BF_sign_of xq (start_ ["one"] ds) s (kBody k)
def BF_is_spot (xq : Str → S → Prop) : FS :=
  (wSeq (wIfS (wOr (wNot (wB (wIsi "tuple" (wPV 0)))) (wOr (wB (wOp gNe (wCB1 gLen (wPV 0)) (wP (wC (.int 2))))) (wOr (wNot (wB (wCall F_is_fraction xq (wCons (wIxv 0 (wP (wC (.int 0)))) wNil)))) (wNot (wB (wCall F_is_fraction xq (wCons (wIxv 0 (wP (wC (.int 1)))) wNil)))))))
  (wRet (wC (.bl false)))
  wNext)
  (wRet (wOp gGt (wCall F_sign_of xq (wCons (wIxv 0 (wP (wC (.int 1)))) wNil)) (wP (wC (.int 0))))))
def F_is_spot : Fn := fun ds s k xq => ds.length = 1 ∧ BF_is_spot xq (start_ ["thing"] ds) s (kBody k)
def BF_is_crowd (xq : Str → S → Prop) : FS :=
  (wSeq (wIfS (wOr (wNot (wB (wIsi "list" (wPV 0)))) (wNot (wB (wCB1 gAll (wP (wComp (wIt (wV 0)) (wName 1) wYes (wCallB F_is_spot xq0 (wBVar 1 wBNil)) [1]))))))
  (wRet (wC (.bl false)))
  wNext)
  (wRet (wCB1 gAll (wP (wComp (wZip (wCons (wV 0) (wCons (wSlv 0 (wPart (wP (wC (.int 1)))) wNoPart) wNil))) (wTupT 2 (wGCons (wName 1) (wGCons (wName 2) wGNil))) wYes (wCall F_is_less xq0 (wCons (wIxv 1 (wP (wC (.int 0)))) (wCons (wIxv 2 (wP (wC (.int 0)))) wNil))) [1, 2])))))
def F_is_crowd : Fn := fun ds s k xq => ds.length = 1 ∧ BF_is_crowd xq (start_ ["thing", "one", "other"] ds) s (kBody k)
def BF_is_polynomial (xq : Str → S → Prop) : FS :=
  (wSeq (wIfS (wOr (wNot (wB (wIsi "list" (wPV 0)))) (wNot (wB (wCB1 gAll (wP (wComp (wIt (wV 0)) (wName 1) wYes (wCallB F_is_fraction xq0 (wBVar 1 wBNil)) [1]))))))
  (wRet (wC (.bl false)))
  wNext)
  (wRet (wOrV (wOpv gEqE 0 (wP (wLst wNil))) (wOp gNe (wIxv 0 (wP (wUn gNeg (wP (wC (.int 1)))))) (wP (wC (.tup [.int 0, .int 1])))))))
def F_is_polynomial : Fn := fun ds s k xq => ds.length = 1 ∧ BF_is_polynomial xq (start_ ["thing", "one"] ds) s (kBody k)
def BF_need_text (xq : Str → S → Prop) : FS :=
  (wIfS (wNot (wB (wIsi "str" (wPV 0))))
  (wRaise xq "NoText")
  wNext)
def F_need_text : Fn := fun ds s k xq => ds.length = 1 ∧ BF_need_text xq (start_ ["text"] ds) s (kBody k)
def BF_whole_in (xq : Str → S → Prop) : FS :=
  (wSeq (wAsg (wV 0) (wName 1))
  (wSeq (wIfS (wAnd (wB (wM1 gStarts (wV 0) (wP (wC (.str "-"))))) (wB (wOpv gNe 0 (wP (wC (.str "-0"))))))
  (wAsg (wSlS (wV 0) (wPart (wP (wC (.int 1)))) wNoPart) (wName 1))
  wNext)
  (wSeq (wIfS (wOr (wB (wOpv gEq 1 (wP (wC (.str ""))))) (wNot (wB (wCB1 gAll (wP (wComp (wItS (wV 1)) (wName 2) wYes (wOpv gInS 2 (wP (wC (.str "0123456789")))) [2]))))))
  (wRaise xq "NoText")
  wNext)
  (wSeq (wIfS (wAnd (wB (wOp gEq (wOp gIxS (wV 1) (wP (wC (.int 0)))) (wP (wC (.str "0"))))) (wB (wOp gGt (wCB1 gLen (wPV 1)) (wP (wC (.int 1))))))
  (wRaise xq "NoText")
  wNext)
  (wRet (wCB1 gIntS (wPV 0)))))))
def F_whole_in : Fn := fun ds s k xq => ds.length = 1 ∧ BF_whole_in xq (start_ ["word", "figures", "sign"] ds) s (kBody k)
def BF_fraction_in (xq : Str → S → Prop) : FS :=
  (wSeq (wAsg (wM1 gPart (wV 0) (wP (wC (.str "/")))) (wTupT 3 (wGCons (wName 1) (wGCons (wName 2) (wGCons (wName 3) wGNil)))))
  (wSeq (wAsg (wTup (wCons (wCallB F_whole_in xq (wBVar 1 wBNil)) (wCons (wC (.int 1)) wNil))) (wName 4))
  (wSeq (wIfS (wB (wOpv gNe 2 (wP (wC (.str "")))))
  (wSeq (wAsg (wTup (wCons (wIxv 4 (wP (wC (.int 0)))) (wCons (wCallB F_whole_in xq (wBVar 3 wBNil)) wNil))) (wName 4))
  (wIfS (wOr (wB (wOp gLt (wIxv 4 (wP (wC (.int 1)))) (wP (wC (.int 2))))) (wNot (wB (wCallB F_is_fraction xq (wBVar 4 wBNil)))))
  (wRaise xq "NoText")
  wNext))
  wNext)
  (wRetV 4))))
def F_fraction_in : Fn := fun ds s k xq => ds.length = 1 ∧ BF_fraction_in xq (start_ ["word", "top", "mark", "bottom", "found"] ds) s (kBody k)
def BF_read_fraction (xq : Str → S → Prop) : FS :=
  (wSeq (wDrop (wCallB F_need_text xq (wBVar 0 wBNil)))
  (wRet (wCall F_fraction_in xq (wCons (wV 0) wNil))))
def F_read_fraction : Fn := fun ds s k xq => ds.length = 1 ∧ BF_read_fraction xq (start_ ["text"] ds) s (kBody k)
def BF_read_sums (xq : Str → S → Prop) : FS :=
  (wSeq (wDrop (wCallB F_need_text xq (wBVar 0 wBNil)))
  (wRet (wComp (wIt (wM1 gSplit (wV 0) (wP (wC (.str " "))))) (wName 1) wYes (wCall F_fraction_in xq (wCons (wV 1) wNil)) [1])))
def F_read_sums : Fn := fun ds s k xq => ds.length = 1 ∧ BF_read_sums xq (start_ ["text", "word"] ds) s (kBody k)
def BF_read_polynomial (xq : Str → S → Prop) : FS :=
  (wSeq (wDrop (wCallB F_need_text xq (wBVar 0 wBNil)))
  (wSeq (wIfS (wB (wOpv gEq 0 (wP (wC (.str "nought")))))
  (wRet (wLst wNil))
  wNext)
  (wSeq (wAsg (wCall F_read_sums xq (wCons (wV 0) wNil)) (wName 1))
  (wSeq (wIfS (wNot (wB (wCallB F_is_polynomial xq (wBVar 1 wBNil))))
  (wRaise xq "NoText")
  wNext)
  (wRetV 1)))))
def F_read_polynomial : Fn := fun ds s k xq => ds.length = 1 ∧ BF_read_polynomial xq (start_ ["text", "found"] ds) s (kBody k)
def BF_spot_in (xq : Str → S → Prop) : FS :=
  (wSeq (wAsg (wM1 gPart (wV 0) (wP (wC (.str ":")))) (wTupT 3 (wGCons (wName 1) (wGCons (wName 2) (wGCons (wName 3) wGNil)))))
  (wSeq (wIfS (wB (wOpv gEq 2 (wP (wC (.str "")))))
  (wRaise xq "NoText")
  wNext)
  (wRet (wTup (wCons (wCall F_fraction_in xq (wCons (wV 1) wNil)) (wCons (wCall F_fraction_in xq (wCons (wV 3) wNil)) wNil))))))
def F_spot_in : Fn := fun ds s k xq => ds.length = 1 ∧ BF_spot_in xq (start_ ["word", "spot", "mark", "weight"] ds) s (kBody k)
def BF_read_crowd (xq : Str → S → Prop) : FS :=
  (wSeq (wDrop (wCallB F_need_text xq (wBVar 0 wBNil)))
  (wSeq (wIfS (wB (wOpv gEq 0 (wP (wC (.str "none")))))
  (wRet (wLst wNil))
  wNext)
  (wSeq (wAsg (wComp (wIt (wM1 gSplit (wV 0) (wP (wC (.str " "))))) (wName 2) wYes (wCall F_spot_in xq (wCons (wV 2) wNil)) [2]) (wName 1))
  (wSeq (wIfS (wNot (wB (wCallB F_is_crowd xq (wBVar 1 wBNil))))
  (wRaise xq "NoText")
  wNext)
  (wRetV 1)))))
def F_read_crowd : Fn := fun ds s k xq => ds.length = 1 ∧ BF_read_crowd xq (start_ ["text", "found", "word"] ds) s (kBody k)
def BF__law_cell_at (xq : Str → S → Prop) : FS :=
  (wSeq (wIfS (wB (wOpv gLt 1 (wP (wCB1 gLen (wPV 0)))))
  (wRet (wIxv 0 (wPV 1)))
  wNext)
  (wRet (wC (.int 0))))
def F__law_cell_at : Fn := fun ds s k xq => ds.length = 2 ∧ BF__law_cell_at xq (start_ ["_law_script", "_law_k"] ds) s (kBody k)
def BF__law_state (xq : Str → S → Prop) : FS :=
  (wSeq (wAsg (wCall F__law_cell_at xq (wCons (wV 0) (wCons (wV 1) wNil))) (wName 2))
  (wSeq (wIfS (wB (wOpv gGe 2 (wP (wOp gPow (wC (.int 10)) (wP (wC (.int 18)))))))
  (wRet (wLst (wCons (wOpv gMin 2 (wP (wOp gPow (wC (.int 10)) (wP (wC (.int 18)))))) (wCons (wC (.bl true)) wNil))))
  wNext)
  (wRet (wLst (wCons (wOpv gMod 2 (wP (wC (.int 2147483647)))) (wCons (wC (.bl false)) wNil))))))
def F__law_state : Fn := fun ds s k xq => ds.length = 2 ∧ BF__law_state xq (start_ ["_law_script", "_law_k", "_law_cell"] ds) s (kBody k)
def BF__law_take (xq : Str → S → Prop) : FS :=
  (wSeq (wIfS (wB (wIxv 0 (wP (wC (.int 1)))))
  (wSeq (wAsg (wOp gMod (wIxv 0 (wP (wC (.int 0)))) (wPV 1)) (wName 2))
  (wSeq (wAsg (wOp gDiv (wIxv 0 (wP (wC (.int 0)))) (wPV 1)) (wSub 0 (wP (wC (.int 0)))))
  (wRetV 2)))
  wNext)
  (wSeq (wAsg (wOp gMod (wOp gAdd (wOp gMul (wIxv 0 (wP (wC (.int 0)))) (wP (wC (.int 48271)))) (wP (wC (.int 29)))) (wP (wC (.int 2147483647)))) (wSub 0 (wP (wC (.int 0)))))
  (wSeq (wAsg (wOp gMod (wOp gAdd (wOp gAdd (wOp gMul (wIxv 0 (wP (wC (.int 0)))) (wP (wIxv 0 (wP (wC (.int 0)))))) (wP (wOp gMul (wC (.int 39373)) (wP (wIxv 0 (wP (wC (.int 0)))))))) (wP (wC (.int 7)))) (wP (wC (.int 2147483629)))) (wName 3))
  (wSeq (wAsg (wOp gMod (wOp gAdd (wOpv gMul 3 (wPV 3)) (wP (wOp gMul (wC (.int 16807)) (wPV 3)))) (wP (wC (.int 2147483587)))) (wName 3))
  (wRet (wOp gMod (wOpv gDiv 3 (wP (wC (.int 8)))) (wPV 1)))))))
def F__law_take : Fn := fun ds s k xq => ds.length = 2 ∧ BF__law_take xq (start_ ["_law_state_here", "_law_many", "_law_found", "_law_stirred"] ds) s (kBody k)
def BF__law_divisor (xq : Str → S → Prop) : FS :=
  (wSeq (wWhile (wB (wOpv gNe 1 (wP (wC (.int 0)))))
  (wPar 0 1 (wCons (wV 1) (wCons (wOpv gMod 0 (wPV 1)) wNil))))
  (wRet (wCB1 gAbs (wPV 0))))
def F__law_divisor : Fn := fun ds s k xq => ds.length = 2 ∧ BF__law_divisor xq (start_ ["_law_one", "_law_other"] ds) s (kBody k)
def BF__law_low (xq : Str → S → Prop) : FS :=
  (wSeq (wAsg (wCallB F__law_divisor xq (wBVar 0 (wBVar 1 wBNil))) (wName 2))
  (wSeq (wIfS (wB (wOpv gLt 1 (wP (wC (.int 0)))))
  (wAsg (wOp gMin (wC (.int 0)) (wPV 2)) (wName 2))
  wNext)
  (wRet (wTup (wCons (wOpv gDiv 0 (wPV 2)) (wCons (wOpv gDiv 1 (wPV 2)) wNil))))))
def F__law_low : Fn := fun ds s k xq => ds.length = 2 ∧ BF__law_low xq (start_ ["_law_top", "_law_bottom", "_law_by"] ds) s (kBody k)
def BF__law_small (xq : Str → S → Prop) : FS :=
  (wRet (wCall F__law_low xq (wCons (wOp gMin (wCall F__law_take xq (wCons (wV 0) (wCons (wC (.int 13)) wNil))) (wP (wC (.int 6)))) (wCons (wOp gAdd (wC (.int 1)) (wP (wOp gIx (wLst (wCons (wC (.int 0)) (wCons (wC (.int 0)) (wCons (wCall F__law_take xq (wCons (wV 0) (wCons (wC (.int 3)) wNil))) wNil)))) (wP (wCall F__law_take xq (wCons (wV 0) (wCons (wC (.int 3)) wNil))))))) wNil))))
def F__law_small : Fn := fun ds s k xq => ds.length = 1 ∧ BF__law_small xq (start_ ["_law_state_here"] ds) s (kBody k)
def BF__law_above (xq : Str → S → Prop) : FS :=
  (wRet (wCall F__law_low xq (wCons (wOp gAdd (wC (.int 1)) (wP (wCall F__law_take xq (wCons (wV 0) (wCons (wC (.int 6)) wNil))))) (wCons (wOp gAdd (wC (.int 1)) (wP (wOp gIx (wLst (wCons (wC (.int 0)) (wCons (wC (.int 0)) (wCons (wCall F__law_take xq (wCons (wV 0) (wCons (wC (.int 3)) wNil))) wNil)))) (wP (wCall F__law_take xq (wCons (wV 0) (wCons (wC (.int 3)) wNil))))))) wNil))))
def F__law_above : Fn := fun ds s k xq => ds.length = 1 ∧ BF__law_above xq (start_ ["_law_state_here"] ds) s (kBody k)
def BF__law_plus (xq : Str → S → Prop) : FS :=
  (wRet (wCall F__law_low xq (wCons (wOp gAdd (wOp gMul (wIxv 0 (wP (wC (.int 0)))) (wP (wIxv 1 (wP (wC (.int 1)))))) (wP (wOp gMul (wIxv 1 (wP (wC (.int 0)))) (wP (wIxv 0 (wP (wC (.int 1)))))))) (wCons (wOp gMul (wIxv 0 (wP (wC (.int 1)))) (wP (wIxv 1 (wP (wC (.int 1)))))) wNil))))
def F__law_plus : Fn := fun ds s k xq => ds.length = 2 ∧ BF__law_plus xq (start_ ["_law_one", "_law_other"] ds) s (kBody k)
def BF__law_crowd (xq : Str → S → Prop) : FS :=
  (wSeq (wAsg (wLst wNil) (wName 2))
  (wSeq (wAsg (wCall F__law_small xq (wCons (wV 0) wNil)) (wName 3))
  (wSeq (wFor (wRng1 (wCons (wCall F__law_take xq (wCons (wV 0) (wCons (wOpv gAdd 1 (wP (wC (.int 1)))) wNil))) wNil)) (wName 4)
  (wSeq (wApp 2 (wTup (wCons (wV 3) (wCons (wCall F__law_above xq (wCons (wV 0) wNil)) wNil))))
  (wAsg (wCall F__law_plus xq (wCons (wV 3) (wCons (wCall F__law_above xq (wCons (wV 0) wNil)) wNil))) (wName 3))))
  (wRetV 2))))
def F__law_crowd : Fn := fun ds s k xq => ds.length = 2 ∧ BF__law_crowd xq (start_ ["_law_state_here", "_law_most", "_law_found", "_law_spot", "_law_turn"] ds) s (kBody k)
def BF__law_times (xq : Str → S → Prop) : FS :=
  (wRet (wCall F__law_low xq (wCons (wOp gMul (wIxv 0 (wP (wC (.int 0)))) (wP (wIxv 1 (wP (wC (.int 0)))))) (wCons (wOp gMul (wIxv 0 (wP (wC (.int 1)))) (wP (wIxv 1 (wP (wC (.int 1)))))) wNil))))
def F__law_times : Fn := fun ds s k xq => ds.length = 2 ∧ BF__law_times xq (start_ ["_law_one", "_law_other"] ds) s (kBody k)
def BF__law_crowd_sums (xq : Str → S → Prop) : FS :=
  (wSeq (wAsg (wLst wNil) (wName 2))
  (wSeq (wAsg (wComp (wIt (wV 0)) (wTupT 2 (wGCons (wName 7) (wGCons (wName 8) wGNil))) wYes (wV 8) [7, 8]) (wName 3))
  (wSeq (wFor (wRng1 (wCons (wV 1) wNil)) (wName 4)
  (wSeq (wAsg (wTup (wCons (wC (.int 0)) (wCons (wC (.int 1)) wNil))) (wName 5))
  (wSeq (wFor (wIt (wV 3)) (wName 6)
  (wAsg (wCall F__law_plus xq (wCons (wV 5) (wCons (wV 6) wNil))) (wName 5)))
  (wSeq (wApp 2 (wV 5))
  (wAsg (wComp (wRng1 (wCons (wCB1 gLen (wPV 0)) wNil)) (wName 9) wYes (wCall F__law_times xq0 (wCons (wIxv 3 (wPV 9)) (wCons (wOp gIx (wIxv 0 (wPV 9)) (wP (wC (.int 0)))) wNil))) [9]) (wName 3))))))
  (wRetV 2))))
def F__law_crowd_sums : Fn := fun ds s k xq => ds.length = 2 ∧ BF__law_crowd_sums xq (start_ ["_law_crowd_here", "_law_many", "_law_found", "_law_powers", "_law_k", "_law_amount", "_law_one", "_law_spot", "_law_weight", "_law_at"] ds) s (kBody k)
def BF__law_sums (xq : Str → S → Prop) : FS :=
  (wSeq (wAsg (wOp gAdd (wC (.int 1)) (wP (wCall F__law_take xq (wCons (wV 0) (wCons (wC (.int 11)) wNil))))) (wName 1))
  (wSeq (wAsg (wCall F__law_take xq (wCons (wV 0) (wCons (wC (.int 8)) wNil))) (wName 2))
  (wSeq (wIfS (wB (wOpv gEq 2 (wP (wC (.int 0)))))
  (wRet (wComp (wRng1 (wCons (wV 1) wNil)) (wName 5) wYes (wCall F__law_small xq0 (wCons (wV 0) wNil)) [5]))
  wNext)
  (wSeq (wIfS (wB (wOpv gEq 2 (wP (wC (.int 1)))))
  (wRet (wOp gCat (wOp gRep (wLst (wCons (wTup (wCons (wC (.int 0)) (wCons (wC (.int 1)) wNil))) wNil)) (wP (wOpv gMin 1 (wP (wC (.int 1)))))) (wP (wLst (wCons (wCall F__law_small xq (wCons (wV 0) wNil)) wNil)))))
  wNext)
  (wSeq (wAsg (wCall F__law_crowd_sums xq (wCons (wCall F__law_crowd xq (wCons (wV 0) (wCons (wOp gIx (wLst (wCons (wC (.int 5)) (wCons (wC (.int 5)) (wCons (wC (.int 5)) (wCons (wC (.int 2)) (wCons (wC (.int 3)) wNil)))))) (wP (wCall F__law_take xq (wCons (wV 0) (wCons (wC (.int 5)) wNil))))) wNil))) (wCons (wV 1) wNil))) (wName 3))
  (wSeq (wIfS (wB (wOpv gLt 2 (wP (wC (.int 5)))))
  (wSeq (wAsg (wCall F__law_take xq (wCons (wV 0) (wCons (wV 1) wNil))) (wName 4))
  (wAsg (wCall F__law_plus xq (wCons (wIxv 3 (wPV 4)) (wCons (wOp gIx (wLst (wCons (wCall F__law_small xq (wCons (wV 0) wNil)) (wCons (wTup (wCons (wC (.int 1)) (wCons (wC (.int 1)) wNil))) (wCons (wTup (wCons (wUn gNeg (wP (wC (.int 1)))) (wCons (wC (.int 1)) wNil))) wNil)))) (wP (wCall F__law_take xq (wCons (wV 0) (wCons (wC (.int 3)) wNil))))) wNil))) (wSub 3 (wPV 4))))
  wNext)
  (wRetV 3)))))))
def F__law_sums : Fn := fun ds s k xq => ds.length = 1 ∧ BF__law_sums xq (start_ ["_law_state_here", "_law_many", "_law_way", "_law_found", "_law_at", "_law_k"] ds) s (kBody k)
def BF__law_clean (xq : Str → S → Prop) : FS :=
  (wSeq (wAsg (wCB1 gLen (wPV 0)) (wName 1))
  (wSeq (wWhile (wAnd (wB (wOpv gGt 1 (wP (wC (.int 0))))) (wB (wOp gEq (wOp gIx (wIxv 0 (wP (wOpv gMin 1 (wP (wC (.int 1)))))) (wP (wC (.int 0)))) (wP (wC (.int 0))))))
  (wAsg (wOpv gMin 1 (wP (wC (.int 1)))) (wName 1)))
  (wRet (wCB1 gList (wP (wSlv 0 wNoPart (wPart (wPV 1))))))))
def F__law_clean : Fn := fun ds s k xq => ds.length = 1 ∧ BF__law_clean xq (start_ ["_law_numbers", "_law_many"] ds) s (kBody k)
def BF__law_polynomial (xq : Str → S → Prop) : FS :=
  (wRet (wCall F__law_clean xq (wCons (wComp (wRng1 (wCons (wCall F__law_take xq (wCons (wV 0) (wCons (wOpv gAdd 1 (wP (wC (.int 1)))) wNil))) wNil)) (wName 2) wYes (wCall F__law_small xq0 (wCons (wV 0) wNil)) [2]) wNil)))
def F__law_polynomial : Fn := fun ds s k xq => ds.length = 2 ∧ BF__law_polynomial xq (start_ ["_law_state_here", "_law_most", "_law_place"] ds) s (kBody k)
def BF__law_less (xq : Str → S → Prop) : FS :=
  (wRet (wOp gLt (wOp gMul (wIxv 0 (wP (wC (.int 0)))) (wP (wIxv 1 (wP (wC (.int 1)))))) (wP (wOp gMul (wIxv 1 (wP (wC (.int 0)))) (wP (wIxv 0 (wP (wC (.int 1)))))))))
def F__law_less : Fn := fun ds s k xq => ds.length = 2 ∧ BF__law_less xq (start_ ["_law_one", "_law_other"] ds) s (kBody k)
def BF__law_same (self : Fn) (xq : Str → S → Prop) : FS :=
  (wSeq (wIfS (wB (wIsi2 "tuple" "list" (wPV 1)))
  (wSeq (wIfS (wOr (wB (wOp gNe (wIsi "tuple" (wPV 0)) (wP (wIsi "tuple" (wPV 1))))) (wB (wOp gNe (wIsi "list" (wPV 0)) (wP (wIsi "list" (wPV 1))))))
  (wRet (wC (.bl false)))
  wNext)
  (wSeq (wIfS (wB (wOp gNe (wCB1 gLen (wPV 0)) (wP (wCB1 gLen (wPV 1)))))
  (wRet (wC (.bl false)))
  wNext)
  (wRet (wCB1 gAll (wP (wComp (wZip (wCons (wV 0) (wCons (wV 1) wNil))) (wTupT 2 (wGCons (wName 2) (wGCons (wName 3) wGNil))) wYes (wCallB self xq0 (wBVar 2 (wBVar 3 wBNil))) [2, 3]))))))
  wNext)
  (wRet (wAndV (wOpv gEq 0 (wPV 1)) (wOp gEq (wIsi "bool" (wPV 0)) (wP (wIsi "bool" (wPV 1)))))))
def F__law_same_ : Nat → Fn
  | 0 => fun _ _ _ _ => False
  | n + 1 => fun ds s k xq => ds.length = 2 ∧ BF__law_same (F__law_same_ n) xq (start_ ["_law_found", "_law_due", "_law_one", "_law_other"] ds) s (kBody k)
abbrev F__law_same : Fn := F__law_same_ 12
def BF__law_word (xq : Str → S → Prop) : FS :=
  (wSeq (wIfS (wB (wOp gEq (wIxv 0 (wP (wC (.int 1)))) (wP (wC (.int 1)))))
  (wRet (wCB1 gStr (wP (wIxv 0 (wP (wC (.int 0)))))))
  wNext)
  (wRet (wOp gCatS (wOp gCatS (wCB1 gStr (wP (wIxv 0 (wP (wC (.int 0)))))) (wP (wC (.str "/")))) (wP (wCB1 gStr (wP (wIxv 0 (wP (wC (.int 1))))))))))
def F__law_word : Fn := fun ds s k xq => ds.length = 1 ∧ BF__law_word xq (start_ ["_law_one"] ds) s (kBody k)
def BF__law_whole_in (xq : Str → S → Prop) : FS :=
  (wSeq (wAsg (wIf (wB (wOp gEq (wSlS (wV 0) wNoPart (wPart (wP (wC (.int 1))))) (wP (wC (.str "-"))))) (wSlS (wV 0) (wPart (wP (wC (.int 1)))) wNoPart) (wV 0)) (wName 1))
  (wSeq (wIfS (wOr (wB (wOpv gEq 1 (wP (wC (.str ""))))) (wB (wOp gNeE (wComp (wItS (wV 1)) (wName 3) (wB (wOpv gNotInS 3 (wP (wC (.str "0123456789"))))) (wV 3) [3]) (wP (wLst wNil)))))
  (wRet (wC .non))
  wNext)
  (wSeq (wAsg (wOp gMul (wCB1 gIntS (wPV 1)) (wP (wOp gIx (wLst (wCons (wC (.int 1)) (wCons (wUn gNeg (wP (wC (.int 1)))) wNil))) (wP (wCB1 gInt (wP (wOp gEq (wOp gIxS (wV 0) (wP (wC (.int 0)))) (wP (wC (.str "-")))))))))) (wName 2))
  (wRet (wIf (wB (wOp gEq (wCB1 gStr (wPV 2)) (wPV 0))) (wV 2) (wC .non))))))
def F__law_whole_in : Fn := fun ds s k xq => ds.length = 1 ∧ BF__law_whole_in xq (start_ ["_law_word_here", "_law_figures", "_law_number", "_law_sign"] ds) s (kBody k)
def BF__law_fraction_in (xq : Str → S → Prop) : FS :=
  (wSeq (wAsg (wComp (wIt (wM1 gSplit (wV 0) (wP (wC (.str "/"))))) (wName 2) wYes (wCallB F__law_whole_in xq0 (wBVar 2 wBNil)) [2]) (wName 1))
  (wSeq (wIfS (wOr (wB (wOp gIn (wC .non) (wPV 1))) (wB (wOp gGt (wCB1 gLen (wPV 1)) (wP (wC (.int 2))))))
  (wRet (wC .non))
  wNext)
  (wSeq (wIfS (wB (wOp gEq (wCB1 gLen (wPV 1)) (wP (wC (.int 1)))))
  (wRet (wTup (wCons (wIxv 1 (wP (wC (.int 0)))) (wCons (wC (.int 1)) wNil))))
  wNext)
  (wSeq (wIfS (wOr (wB (wOp gLt (wIxv 1 (wP (wC (.int 1)))) (wP (wC (.int 2))))) (wB (wOp gNe (wCall F__law_divisor xq (wCons (wIxv 1 (wP (wC (.int 0)))) (wCons (wIxv 1 (wP (wC (.int 1)))) wNil))) (wP (wC (.int 1))))))
  (wRet (wC .non))
  wNext)
  (wRet (wTup (wCons (wIxv 1 (wP (wC (.int 0)))) (wCons (wIxv 1 (wP (wC (.int 1)))) wNil))))))))
def F__law_fraction_in : Fn := fun ds s k xq => ds.length = 1 ∧ BF__law_fraction_in xq (start_ ["_law_word_here", "_law_some", "_law_part"] ds) s (kBody k)
def BF__law_sums_in (xq : Str → S → Prop) : FS :=
  (wSeq (wAsg (wComp (wIt (wM1 gSplit (wV 0) (wP (wC (.str " "))))) (wName 2) wYes (wCall F__law_fraction_in xq0 (wCons (wV 2) wNil)) [2]) (wName 1))
  (wRet (wIf (wB (wOp gIn (wC .non) (wPV 1))) (wC .non) (wV 1))))
def F__law_sums_in : Fn := fun ds s k xq => ds.length = 1 ∧ BF__law_sums_in xq (start_ ["_law_text", "_law_found", "_law_word_here"] ds) s (kBody k)
def BF__law_polynomial_in (xq : Str → S → Prop) : FS :=
  (wSeq (wIfS (wB (wOpv gEq 0 (wP (wC (.str "nought")))))
  (wRet (wLst wNil))
  wNext)
  (wSeq (wAsg (wCall F__law_sums_in xq (wCons (wV 0) wNil)) (wName 1))
  (wRet (wIf (wOr (wB (wOpv gIsN 1 (wP (wC .non)))) (wB (wOp gEq (wOp gIx (wIxv 1 (wP (wUn gNeg (wP (wC (.int 1)))))) (wP (wC (.int 0)))) (wP (wC (.int 0)))))) (wC .non) (wV 1)))))
def F__law_polynomial_in : Fn := fun ds s k xq => ds.length = 1 ∧ BF__law_polynomial_in xq (start_ ["_law_text", "_law_found"] ds) s (kBody k)
def BF__law_crowd_in (xq : Str → S → Prop) : FS :=
  (wSeq (wIfS (wB (wOpv gEq 0 (wP (wC (.str "none")))))
  (wRet (wLst wNil))
  wNext)
  (wSeq (wAsg (wLst wNil) (wName 1))
  (wSeq (wFor (wIt (wM1 gSplit (wV 0) (wP (wC (.str " "))))) (wName 2)
  (wSeq (wAsg (wM1 gSplit (wV 2) (wP (wC (.str ":")))) (wName 3))
  (wSeq (wAsg (wCompB 3 (wName 5) wYes (wCall F__law_fraction_in xq0 (wCons (wV 5) wNil)) [5]) (wName 4))
  (wSeq (wIfS (wOr (wB (wOp gNe (wCB1 gLen (wPV 3)) (wP (wC (.int 2))))) (wOr (wB (wOp gIn (wC .non) (wPV 4))) (wB (wOp gLe (wOp gIx (wIxv 4 (wP (wC (.int 1)))) (wP (wC (.int 0)))) (wP (wC (.int 0)))))))
  (wRet (wC .non))
  wNext)
  (wSeq (wIfS (wAnd (wB (wOpv gNeE 1 (wP (wLst wNil)))) (wNot (wB (wCall F__law_less xq (wCons (wOp gIx (wIxv 1 (wP (wUn gNeg (wP (wC (.int 1)))))) (wP (wC (.int 0)))) (wCons (wIxv 4 (wP (wC (.int 0)))) wNil))))))
  (wRet (wC .non))
  wNext)
  (wApp 1 (wTup (wCons (wIxv 4 (wP (wC (.int 0)))) (wCons (wIxv 4 (wP (wC (.int 1)))) wNil)))))))))
  (wRetV 1))))
def F__law_crowd_in : Fn := fun ds s k xq => ds.length = 1 ∧ BF__law_crowd_in xq (start_ ["_law_text", "_law_found", "_law_word_here", "_law_parts", "_law_some", "_law_part"] ds) s (kBody k)
def BF__law_bent (xq : Str → S → Prop) : FS :=
  (wSeq (wAsg (wCall F__law_take xq (wCons (wV 0) (wCons (wC (.int 8)) wNil))) (wName 2))
  (wSeq (wAsg (wCall F__law_take xq (wCons (wV 0) (wCons (wOp gAdd (wCB1 gLen (wPV 1)) (wP (wC (.int 1)))) wNil))) (wName 3))
  (wSeq (wAsg (wOp gIxS (wC (.str "0123 -/:9n+._e7")) (wP (wCall F__law_take xq (wCons (wV 0) (wCons (wC (.int 15)) wNil))))) (wName 4))
  (wSeq (wIfS (wB (wOpv gLt 2 (wP (wC (.int 3)))))
  (wRet (wOp gIx (wLst (wCons (wOp gCatS (wSlS (wV 1) wNoPart (wPart (wPV 3))) (wP (wSlS (wV 1) (wPart (wP (wOpv gAdd 3 (wP (wC (.int 1)))))) wNoPart))) (wCons (wOp gCatS (wOp gCatS (wSlS (wV 1) wNoPart (wPart (wPV 3))) (wPV 4)) (wP (wSlS (wV 1) (wPart (wPV 3)) wNoPart))) (wCons (wOp gCatS (wOp gCatS (wSlS (wV 1) wNoPart (wPart (wPV 3))) (wPV 4)) (wP (wSlS (wV 1) (wPart (wP (wOpv gAdd 3 (wP (wC (.int 1)))))) wNoPart))) wNil)))) (wPV 2)))
  wNext)
  (wSeq (wAsg (wM1 gSplit (wV 1) (wP (wC (.str " ")))) (wName 5))
  (wSeq (wAsg (wCall F__law_take xq (wCons (wV 0) (wCons (wCB1 gLen (wPV 5)) wNil))) (wName 6))
  (wSeq (wIfS (wB (wOpv gEq 2 (wP (wC (.int 3)))))
  (wPopAt 5 (wCons (wV 6) wNil))
  (wIfS (wB (wOpv gEq 2 (wP (wC (.int 4)))))
  (wIns 5 (wCons (wCall F__law_take xq (wCons (wV 0) (wCons (wCB1 gLen (wPV 5)) wNil))) (wCons (wIxv 5 (wPV 6)) wNil)))
  (wIfS (wB (wOpv gEq 2 (wP (wC (.int 5)))))
  (wSeq (wAsg (wLst (wCons (wC (.str "0")) (wCons (wC (.str "-0")) (wCons (wC (.str "01")) (wCons (wC (.str "2/4")) (wCons (wC (.str "1/1")) (wCons (wC (.str "1/0")) (wCons (wC (.str "")) (wCons (wC (.str "nought")) (wCons (wC (.str "none")) (wCons (wC (.str "3/-2")) (wCons (wC (.str "1:0")) (wCons (wC (.str "5:1")) wNil))))))))))))) (wName 7))
  (wAsg (wIxv 7 (wP (wCall F__law_take xq (wCons (wV 0) (wCons (wC (.int 12)) wNil))))) (wSub 5 (wPV 6))))
  (wIfS (wB (wOpv gEq 2 (wP (wC (.int 6)))))
  (wIns 5 (wCons (wV 6) (wCons (wPop 5) wNil)))
  wNext))))
  (wRet (wM1 gJoin (wC (.str " ")) (wPV 5))))))))))
def F__law_bent : Fn := fun ds s k xq => ds.length = 2 ∧ BF__law_bent xq (start_ ["_law_state_here", "_law_text", "_law_way", "_law_at", "_law_sign", "_law_words", "_law_k", "_law_odd"] ds) s (kBody k)
def fun__law_right : Nat → Fn
  | 0 => F_read_sums
  | 1 => F__law_sums_in
  | 2 => F_read_polynomial
  | 3 => F__law_polynomial_in
  | 4 => F_read_crowd
  | 5 => F__law_crowd_in
  | 6 => F_read_fraction
  | 7 => F__law_fraction_in
  | _ => fun _ _ _ _ => False
def names__law_right : List Str := ["read_sums", "_law_sums_in", "read_polynomial", "_law_polynomial_in", "read_crowd", "_law_crowd_in", "read_fraction", "_law_fraction_in"]
def BF__law_right (LI : LamI) (xq : Str → S → Prop) : FS :=
  (wSeq (wAsg (wLst (wCons (wTup (wCons (wFunV LI 0) (wCons (wFunV LI 1) wNil))) (wCons (wTup (wCons (wFunV LI 2) (wCons (wFunV LI 3) wNil))) (wCons (wTup (wCons (wFunV LI 4) (wCons (wFunV LI 5) wNil))) wNil)))) (wName 1))
  (wSeq (wFor (wIt (wOpv gCat 1 (wP (wLst (wCons (wTup (wCons (wFunV LI 6) (wCons (wFunV LI 7) wNil))) wNil))))) (wTupT 2 (wGCons (wName 4) (wGCons (wName 2) wGNil)))
  (wSeq (wAsg (wCallV LI fun__law_right xq 2 (wCons (wV 0) wNil)) (wName 3))
  (wIfS (wB (wOpv gIsN 3 (wP (wC .non))))
  (wIfS (wB (wOp gNe (wRef [0, 4] (fun xq => (wCallV LI fun__law_right xq 4 (wCons (wV 0) wNil)))) (wP (wLst (wCons (wC (.int 7)) wNil)))))
  (wRet (wC (.bl false)))
  wNext)
  (wIfS (wNot (wB (wCallB F__law_same xq (wBCons (wCallV LI fun__law_right xq 4 (wCons (wV 0) wNil)) (wBVar 3 wBNil)))))
  (wRet (wC (.bl false)))
  wNext))))
  (wRet (wC (.bl true)))))
def F__law_right : Fn := fun ds s k xq => ds.length = 1 ∧ ∀ LI, BF__law_right LI xq (start_ ["_law_text", "_law_pairs", "_law_own", "_law_due", "_law_reader"] ds) s (kBody k)
def fun_law : Nat → Fn
  | 0 => F_read_sums
  | 1 => F_read_polynomial
  | 2 => F_read_crowd
  | 3 => F_read_fraction
  | _ => fun _ _ _ _ => False
def names_law : List Str := ["read_sums", "read_polynomial", "read_crowd", "read_fraction"]
def BF_law (LI : LamI) (xq : Str → S → Prop) : FS :=
  (wSeq (wFor (wRng1 (wCons (wCB gMax2 (wCons (wC (.int 1)) (wCons (wCB gMin2 (wCons (wCB1 gLen (wPV 0)) (wCons (wC (.int 8)) wNil))) wNil))) wNil)) (wName 1)
  (wSeq (wAsg (wCall F__law_state xq (wCons (wV 0) (wCons (wV 1) wNil))) (wName 2))
  (wSeq (wAsg (wCallLend F__law_crowd xq 2 (wCons (wC (.int 5)) wNil)) (wName 3))
  (wSeq (wAsg (wLst (wCons (wM1 gJoin (wC (.str " ")) (wP (wComp (wIt (wSl (wCallLend F__law_sums xq 2 wNil) wNoPart (wPart (wP (wC (.int 9)))))) (wName 9) wYes (wCallB F__law_word xq0 (wBVar 9 wBNil)) [9]))) (wCons (wCall F__law_word xq (wCons (wCallLend F__law_small xq 2 wNil) wNil)) wNil))) (wName 4))
  (wSeq (wApp 4 (wOrS (wM1 gJoin (wC (.str " ")) (wP (wComp (wIt (wCallLend F__law_polynomial xq 2 (wCons (wC (.int 6)) wNil))) (wName 9) wYes (wCallB F__law_word xq0 (wBVar 9 wBNil)) [9]))) (wC (.str "nought"))))
  (wSeq (wApp 4 (wOrS (wM1 gJoin (wC (.str " ")) (wP (wCompB 3 (wTupT 2 (wGCons (wName 10) (wGCons (wName 11) wGNil))) wYes (wOp gCatS (wOp gCatS (wCallB F__law_word xq0 (wBVar 10 wBNil)) (wP (wC (.str ":")))) (wP (wCallB F__law_word xq0 (wBVar 11 wBNil)))) [10, 11]))) (wC (.str "none"))))
  (wSeq (wFor (wRng1 (wCons (wC (.int 4)) wNil)) (wName 5)
  (wSeq (wIfS (wB (wOp gNeE (wCompB 4 (wName 8) (wNot (wB (wCallB F__law_right xq0 (wBVar 8 wBNil)))) (wV 8) [8]) (wP (wLst wNil))))
  (wRet (wC (.bl false)))
  wNext)
  (wAsg (wCompB 4 (wName 8) wYes (wCallLend F__law_bent xq0 2 (wCons (wV 8) wNil)) [8]) (wName 4))))
  (wSeq (wAsg (wOp gIx (wLst (wCons (wC .non) (wCons (wC (.int 7)) (wCons (wTup (wCons (wC (.str "1")) wNil)) (wCons (wLst (wCons (wC (.str "1")) wNil)) (wCons (wC (.bl true)) (wCons (wC .dic) (wCons (wTup (wCons (wC (.int 1)) (wCons (wC (.int 1)) wNil))) wNil)))))))) (wP (wCallLend F__law_take xq 2 (wCons (wC (.int 7)) wNil)))) (wName 6))
  (wFor (wIt (wLst (wCons (wFunV LI 0) (wCons (wFunV LI 1) (wCons (wFunV LI 2) (wCons (wFunV LI 3) wNil)))))) (wName 7)
  (wIfS (wB (wOp gNe (wRef [6, 7] (fun xq => (wCallV LI fun_law xq 7 (wCons (wV 6) wNil)))) (wP (wLst (wCons (wC (.int 7)) wNil)))))
  (wRet (wC (.bl false)))
  wNext))))))))))
  (wRet (wC (.bl true))))
def F_law : Fn := fun ds s k xq => ds.length = 1 ∧ ∀ LI, BF_law LI xq (start_ ["_law_script", "_law_k", "_law_state_here", "_law_crowd_here", "_law_texts", "_law_turn", "_law_odd", "_law_reader", "_law_text", "_law_one", "_law_spot", "_law_weight"] ds) s (kBody k)
end Mi
set_option Elab.async false
set_option linter.all false
set_option maxRecDepth 100000
set_option maxHeartbeats 4000000
namespace Wk
open PySem PySem.Spec PyProof.Rows L2 DL Mi
section
variable {P : Program} {w : World} {K : PySem.W.Frag} {mg : Str → Option Value} {base : Heap} {T : List (Addr × Str)}
theorem sc_is_whole : FnScope ["thing"] ["thing"] (defScope s_is_whole) := ⟨rfl, rfl, rfl, by decide +kernel, rfl, by decide +kernel, by decide +kernel⟩
theorem ok_is_whole (TX : Txt bk K mg) (TB : TBs bk K mg base T P) : Def P w K mg base T "is_whole" ["thing"] 1 F_is_whole := by
  refine TX.def_ 0 0 (st := s_is_whole) rfl rfl sc_is_whole (fun _ _ _ _ _ _ us hl => match us, hl with | [_], _ => rfl) (fun _ _ _ _ h => h.1) (fun _ _ _ _ h => h.2) fun fa cdv A outer s H E hcv hr => ?_
  have tk : Takes (cxOf (L2.CX P w) P w K mg base ["thing"] "is_whole" (defScope s_is_whole) fa cdv A outer s H E) (fun cls d _ H => E cls d H) := takes_of rfl rfl rfl rfl
  refine ⟨_, (pss_one (ps_ret (pe_and (pe_isi K (TX.free 63 "isinstance" rfl) (TX.free 64 "int" rfl) PyProof.Rows.boot_int (pv 0)) (pe_one (pe_not (pe_isi K (TX.free 63 "isinstance" rfl) (TX.free 65 "bool" rfl) PyProof.Rows.boot_bool (pv 0))))))), fun c xq hK hT hE => ?_⟩
  subst hK hT
  exact (ds_ret (de_andV (de_isi .int (dp_var 0)) (de_notV (de_isi .bool (dp_var 0)))))
theorem sc_divisor : FnScope ["one", "other"] ["one", "other"] (defScope s_divisor) := ⟨rfl, rfl, rfl, by decide +kernel, rfl, by decide +kernel, by decide +kernel⟩
theorem ok_divisor (TX : Txt bk K mg) (TB : TBs bk K mg base T P) : Def P w K mg base T "divisor" ["one", "other"] 1 F_divisor := by
  refine TX.def_ 1 1 (st := s_divisor) rfl rfl sc_divisor (fun _ _ _ _ _ _ us hl => match us, hl with | [_, _], _ => rfl) (fun _ _ _ _ h => h.1) (fun _ _ _ _ h => h.2) fun fa cdv A outer s H E hcv hr => ?_
  have tk : Takes (cxOf (L2.CX P w) P w K mg base ["one", "other"] "divisor" (defScope s_divisor) fa cdv A outer s H E) (fun cls d _ H => E cls d H) := takes_of rfl rfl rfl rfl
  refine ⟨_, (pss_cons (ps_while (passes_of rfl) (pt_cmpR (ne_K K hr.units) (pv 1) pe_int (nomark _)) (pss_one (ps_par (i := 0) (j := 1) rfl sc_divisor.nd rfl rfl (by decide) rfl rfl (pa_cons (pv 1) (pa_cons (pe_op op_modN (pv 0) (pv 1)) pa_nil)) (by rfl))))
    (pss_one (ps_ret (pe_abs (TX.free 66 "abs" rfl) (pv 0))))), fun c xq hK hT hE => ?_⟩
  subst hK hT
  exact (ds_seq (ds_while (dt_test (de_opv d2_ne (DE.dp (de_int 0)))) (ds_par 0 1 (da_cons (de_var 1) (da_cons (de_opv d2_mod (dp_var 1)) da_nil))))
    (ds_ret (de_cb1 d1_abs (dp_var 0))))
theorem sc_is_fraction : FnScope ["thing"] ["thing"] (defScope s_is_fraction) := ⟨rfl, rfl, rfl, by decide +kernel, rfl, by decide +kernel, by decide +kernel⟩
theorem ok_is_fraction (TX : Txt bk K mg) (TB : TBs bk K mg base T P) : Def P w K mg base T "is_fraction" ["thing"] 2 F_is_fraction := by
  refine TX.def_ 2 2 (st := s_is_fraction) rfl rfl sc_is_fraction (fun _ _ _ _ _ _ us hl => match us, hl with | [_], _ => rfl) (fun _ _ _ _ h => h.1) (fun _ _ _ _ h => h.2) fun fa cdv A outer s H E hcv hr => ?_
  have tk : Takes (cxOf (L2.CX P w) P w K mg base ["thing"] "is_fraction" (defScope s_is_fraction) fa cdv A outer s H E) (fun cls d _ H => E cls d H) := takes_of rfl rfl rfl rfl
  refine ⟨_, (pss_cons (ps_if (PW.pt (pw_or (pt_not (pt_val (pe_isi K (TX.free 63 "isinstance" rfl) (TX.free 67 "tuple" rfl) PyProof.Rows.boot_tuple (pv 0)))) (pw_or (pt_cmpR (ne_K K hr.units) (pe_len K (TX.free 68 "len" rfl) (pv 0)) pe_int (nomark _)) (pw_or (pt_not (pt_val (pe_def (ok_is_whole (T := T) TX TB) (hr.mono (by decide)) (passes_call tk (fun _ _ _ _ h => h)) (pa_cons (pe_ix (ix_K K) (pv 0) pe_int (fun _ _ => rfl)) pa_nil)))) (pw_or1 (pt_not (pt_val (pe_def (ok_is_whole (T := T) TX TB) (hr.mono (by decide)) (passes_call tk (fun _ _ _ _ h => h)) (pa_cons (pe_ix (ix_K K) (pv 0) pe_int (fun _ _ => rfl)) pa_nil))))))))) (pss_one (ps_ret pe_bl)) pss_nil)
    (pss_one (ps_ret (pe_and (pe_cmpR op_gt (pe_ix (ix_K K) (pv 0) pe_int (fun _ _ => rfl)) pe_int (nomark _)) (pe_one (pe_cmpR (eq_K K hr.units) (pe_def (ok_divisor (T := T) TX TB) (hr.mono (by decide)) (passes_call tk (fun _ _ _ _ h => h)) (pa_cons (pe_ix (ix_K K) (pv 0) pe_int (fun _ _ => rfl)) (pa_cons (pe_ix (ix_K K) (pv 0) pe_int (fun _ _ => rfl)) pa_nil))) pe_int (nomark _))))))), fun c xq hK hT hE => ?_⟩
  subst hK hT
  exact (ds_seq (ds_if (dt_or (dt_not (dt_B (de_isi .tuple (dp_var 0)))) (dt_or (dt_test (de_op d2_ne (de_cb1 d1_len (dp_var 0)) (DE.dp (de_int 2)))) (dt_or (dt_not (dt_B (de_call hE (da_cons (de_ixv 0 (DE.dp (de_int 0))) da_nil)))) (dt_not (dt_B (de_call hE (da_cons (de_ixv 0 (DE.dp (de_int 1))) da_nil))))))) (ds_ret (de_bl false)) ds_next)
    (ds_ret (de_andV (de_op d2_gt (de_ixv 0 (DE.dp (de_int 1))) (DE.dp (de_int 0))) (de_op d2_eq (de_call hE (da_cons (de_ixv 0 (DE.dp (de_int 0))) (da_cons (de_ixv 0 (DE.dp (de_int 1))) da_nil))) (DE.dp (de_int 1))))))
theorem sc_is_less : FnScope ["one", "other"] ["one", "other"] (defScope s_is_less) := ⟨rfl, rfl, rfl, by decide +kernel, rfl, by decide +kernel, by decide +kernel⟩
theorem ok_is_less (TX : Txt bk K mg) (TB : TBs bk K mg base T P) : Def P w K mg base T "is_less" ["one", "other"] 1 F_is_less := by
  refine TX.def_ 3 3 (st := s_is_less) rfl rfl sc_is_less (fun _ _ _ _ _ _ us hl => match us, hl with | [_, _], _ => rfl) (fun _ _ _ _ h => h.1) (fun _ _ _ _ h => h.2) fun fa cdv A outer s H E hcv hr => ?_
  have tk : Takes (cxOf (L2.CX P w) P w K mg base ["one", "other"] "is_less" (defScope s_is_less) fa cdv A outer s H E) (fun cls d _ H => E cls d H) := takes_of rfl rfl rfl rfl
  refine ⟨_, (pss_one (ps_ret (pe_cmpR op_lt (pe_op op_mulX (pe_ix (ix_K K) (pv 0) pe_int (fun _ _ => rfl)) (pe_ix (ix_K K) (pv 1) pe_int (fun _ _ => rfl))) (pe_op op_mulX (pe_ix (ix_K K) (pv 1) pe_int (fun _ _ => rfl)) (pe_ix (ix_K K) (pv 0) pe_int (fun _ _ => rfl))) (nomark _)))), fun c xq hK hT hE => ?_⟩
  subst hK hT
  exact (ds_ret (de_op d2_lt (de_op d2_mul (de_ixv 0 (DE.dp (de_int 0))) (DE.dp (de_ixv 1 (DE.dp (de_int 1))))) (DE.dp (de_op d2_mul (de_ixv 1 (DE.dp (de_int 0))) (DE.dp (de_ixv 0 (DE.dp (de_int 1))))))))
theorem sc_sign_of : FnScope ["one"] ["one"] (defScope s_sign_of) := ⟨rfl, rfl, rfl, by decide +kernel, rfl, by decide +kernel, by decide +kernel⟩
theorem ok_sign_of (TX : Txt bk K mg) (TB : TBs bk K mg base T P) : Def P w K mg base T "sign_of" ["one"] 1 F_sign_of := by
  refine TX.def_ 4 4 (st := s_sign_of) rfl rfl sc_sign_of (fun _ _ _ _ _ _ us hl => match us, hl with | [_], _ => rfl) (fun _ _ _ _ h => h.1) (fun _ _ _ _ h => h.2) fun fa cdv A outer s H E hcv hr => ?_
  have tk : Takes (cxOf (L2.CX P w) P w K mg base ["one"] "sign_of" (defScope s_sign_of) fa cdv A outer s H E) (fun cls d _ H => E cls d H) := takes_of rfl rfl rfl rfl
  refine ⟨_, (pss_one (ps_ret (pe_op op_sub (pe_int' (TX.free 64 "int" rfl) (pe_cmpR op_gt (pe_ix (ix_K K) (pv 0) pe_int (fun _ _ => rfl)) pe_int (nomark _))) (pe_int' (TX.free 64 "int" rfl) (pe_cmpR op_lt (pe_ix (ix_K K) (pv 0) pe_int (fun _ _ => rfl)) pe_int (nomark _)))))), fun c xq hK hT hE => ?_⟩
  subst hK hT
  exact (ds_ret (de_op d2_sub (de_cb1 d1_int (DE.dp (de_op d2_gt (de_ixv 0 (DE.dp (de_int 0))) (DE.dp (de_int 0))))) (DE.dp (de_cb1 d1_int (DE.dp (de_op d2_lt (de_ixv 0 (DE.dp (de_int 0))) (DE.dp (de_int 0))))))))
theorem sc_is_spot : FnScope ["thing"] ["thing"] (defScope s_is_spot) := ⟨rfl, rfl, rfl, by decide +kernel, rfl, by decide +kernel, by decide +kernel⟩
theorem ok_is_spot (TX : Txt bk K mg) (TB : TBs bk K mg base T P) : Def P w K mg base T "is_spot" ["thing"] 3 F_is_spot := by
  refine TX.def_ 5 5 (st := s_is_spot) rfl rfl sc_is_spot (fun _ _ _ _ _ _ us hl => match us, hl with | [_], _ => rfl) (fun _ _ _ _ h => h.1) (fun _ _ _ _ h => h.2) fun fa cdv A outer s H E hcv hr => ?_
  have tk : Takes (cxOf (L2.CX P w) P w K mg base ["thing"] "is_spot" (defScope s_is_spot) fa cdv A outer s H E) (fun cls d _ H => E cls d H) := takes_of rfl rfl rfl rfl
  refine ⟨_, (pss_cons (ps_if (PW.pt (pw_or (pt_not (pt_val (pe_isi K (TX.free 63 "isinstance" rfl) (TX.free 67 "tuple" rfl) PyProof.Rows.boot_tuple (pv 0)))) (pw_or (pt_cmpR (ne_K K hr.units) (pe_len K (TX.free 68 "len" rfl) (pv 0)) pe_int (nomark _)) (pw_or (pt_not (pt_val (pe_def (ok_is_fraction (T := T) TX TB) (hr.mono (by decide)) (passes_call tk (fun _ _ _ _ h => h)) (pa_cons (pe_ix (ix_K K) (pv 0) pe_int (fun _ _ => rfl)) pa_nil)))) (pw_or1 (pt_not (pt_val (pe_def (ok_is_fraction (T := T) TX TB) (hr.mono (by decide)) (passes_call tk (fun _ _ _ _ h => h)) (pa_cons (pe_ix (ix_K K) (pv 0) pe_int (fun _ _ => rfl)) pa_nil))))))))) (pss_one (ps_ret pe_bl)) pss_nil)
    (pss_one (ps_ret (pe_cmpR op_gt (pe_def (ok_sign_of (T := T) TX TB) (hr.mono (by decide)) (passes_call tk (fun _ _ _ _ h => h)) (pa_cons (pe_ix (ix_K K) (pv 0) pe_int (fun _ _ => rfl)) pa_nil)) pe_int (nomark _))))), fun c xq hK hT hE => ?_⟩
  subst hK hT
  exact (ds_seq (ds_if (dt_or (dt_not (dt_B (de_isi .tuple (dp_var 0)))) (dt_or (dt_test (de_op d2_ne (de_cb1 d1_len (dp_var 0)) (DE.dp (de_int 2)))) (dt_or (dt_not (dt_B (de_call hE (da_cons (de_ixv 0 (DE.dp (de_int 0))) da_nil)))) (dt_not (dt_B (de_call hE (da_cons (de_ixv 0 (DE.dp (de_int 1))) da_nil))))))) (ds_ret (de_bl false)) ds_next)
    (ds_ret (de_op d2_gt (de_call hE (da_cons (de_ixv 0 (DE.dp (de_int 1))) da_nil)) (DE.dp (de_int 0)))))
theorem sc_is_crowd : FnScope ["thing", "one", "other"] ["thing"] (defScope s_is_crowd) := ⟨rfl, rfl, rfl, by decide +kernel, rfl, by decide +kernel, by decide +kernel⟩
theorem ok_is_crowd (TX : Txt bk K mg) (TB : TBs bk K mg base T P) : Def P w K mg base T "is_crowd" ["thing"] 4 F_is_crowd := by
  refine TX.def_ 6 6 (st := s_is_crowd) rfl rfl sc_is_crowd (fun _ _ _ _ _ _ us hl => match us, hl with | [_], _ => rfl) (fun _ _ _ _ h => h.1) (fun _ _ _ _ h => h.2) fun fa cdv A outer s H E hcv hr => ?_
  have tk : Takes (cxOf (L2.CX P w) P w K mg base ["thing", "one", "other"] "is_crowd" (defScope s_is_crowd) fa cdv A outer s H E) (fun cls d _ H => E cls d H) := takes_of rfl rfl rfl rfl
  refine ⟨_, (pss_cons (ps_if (PW.pt (pw_or (pt_not (pt_val (pe_isi K (TX.free 63 "isinstance" rfl) (TX.free 69 "list" rfl) PyProof.Rows.boot_list (pv 0)))) (pw_or1 (pt_not (pt_val (pe_all K (TX.free 70 "all" rfl) (pe_lc (own := [("one", 1)]) rfl sc_is_crowd.nd (it_list K (pv 0)) (blkOk_by (by kernel_rfl)) (fun _ _ _ _ _ => (pg_name (i := 1) sc_is_crowd.nd rfl (by first | exact Or.inl rfl | exact Or.inr rfl))) (fun _ _ _ _ _ => pts_nil) (fun _ _ _ _ _ => (pe_def (ok_is_spot (T := T) TX TB) (hr.mono (by decide)) passL (pa_cons (pv 1) pa_nil)))))))))) (pss_one (ps_ret pe_bl)) pss_nil)
    (pss_one (ps_ret (pe_all K (TX.free 70 "all" rfl) (pe_lc (own := [("one", 1), ("other", 2)]) rfl sc_is_crowd.nd (it_zip K (TX.free 71 "zip" rfl) (pa_cons (pv 0) (pa_cons (pe_slice (sl_K K) (pv 0) (po_some pe_int) po_none) pa_nil))) (blkOk_by (by kernel_rfl)) (fun _ _ _ _ _ => (tg_tup K (n := 2) (pgs_cons (pg_name (i := 1) sc_is_crowd.nd rfl (by first | exact Or.inl rfl | exact Or.inr rfl)) (pgs_cons (pg_name (i := 2) sc_is_crowd.nd rfl (by first | exact Or.inl rfl | exact Or.inr rfl)) pgs_nil)))) (fun _ _ _ _ _ => pts_nil) (fun _ _ _ _ _ => (pe_def (ok_is_less (T := T) TX TB) (hr.mono (by decide)) passL (pa_cons (pe_ix (ix_K K) (pv 1) pe_int (fun _ _ => rfl)) (pa_cons (pe_ix (ix_K K) (pv 2) pe_int (fun _ _ => rfl)) pa_nil))))))))), fun c xq hK hT hE => ?_⟩
  subst hK hT
  exact (ds_seq (ds_if (dt_or (dt_not (dt_B (de_isi .list (dp_var 0)))) (dt_not (dt_B (de_cb1 d1_all (DE.dp (de_comp (vs := [1]) (di_list (de_var 0)) (fun _ => (dg_name 1)) (fun _ => dt_yes) (fun _ => (de_callB eok0 (dab_var 1 dab_nil))) (gw_name (by simp)))))))) (ds_ret (de_bl false)) ds_next)
    (ds_ret (de_cb1 d1_all (DE.dp (de_comp (vs := [1, 2]) (di_zip (da_cons (de_var 0) (da_cons (de_slv (do_some (DE.dp (de_int 1))) do_none) da_nil))) (fun _ => (dg_tup (dgs_cons (dg_name 1) (dgs_cons (dg_name 2) dgs_nil)))) (fun _ => dt_yes) (fun _ => (de_call eok0 (da_cons (de_ixv 1 (DE.dp (de_int 0))) (da_cons (de_ixv 2 (DE.dp (de_int 0))) da_nil)))) (gw_tup2 (by simp) (by simp)))))))
theorem sc_is_polynomial : FnScope ["thing", "one"] ["thing"] (defScope s_is_polynomial) := ⟨rfl, rfl, rfl, by decide +kernel, rfl, by decide +kernel, by decide +kernel⟩
theorem ok_is_polynomial (TX : Txt bk K mg) (TB : TBs bk K mg base T P) : Def P w K mg base T "is_polynomial" ["thing"] 3 F_is_polynomial := by
  refine TX.def_ 7 7 (st := s_is_polynomial) rfl rfl sc_is_polynomial (fun _ _ _ _ _ _ us hl => match us, hl with | [_], _ => rfl) (fun _ _ _ _ h => h.1) (fun _ _ _ _ h => h.2) fun fa cdv A outer s H E hcv hr => ?_
  have tk : Takes (cxOf (L2.CX P w) P w K mg base ["thing", "one"] "is_polynomial" (defScope s_is_polynomial) fa cdv A outer s H E) (fun cls d _ H => E cls d H) := takes_of rfl rfl rfl rfl
  refine ⟨_, (pss_cons (ps_if (PW.pt (pw_or (pt_not (pt_val (pe_isi K (TX.free 63 "isinstance" rfl) (TX.free 69 "list" rfl) PyProof.Rows.boot_list (pv 0)))) (pw_or1 (pt_not (pt_val (pe_all K (TX.free 70 "all" rfl) (pe_lc (own := [("one", 1)]) rfl sc_is_polynomial.nd (it_list K (pv 0)) (blkOk_by (by kernel_rfl)) (fun _ _ _ _ _ => (pg_name (i := 1) sc_is_polynomial.nd rfl (by first | exact Or.inl rfl | exact Or.inr rfl))) (fun _ _ _ _ _ => pts_nil) (fun _ _ _ _ _ => (pe_def (ok_is_fraction (T := T) TX TB) (hr.mono (by decide)) passL (pa_cons (pv 1) pa_nil)))))))))) (pss_one (ps_ret pe_bl)) pss_nil)
    (pss_one (ps_ret (pe_or (pe_cmpR (eqE_K K hr.units) (pv 0) (pe_lst pa_nil) (nomark _)) (pe_one (pe_cmpR (ne_K K hr.units) (pe_ix (ix_K K) (pv 0) (pe_un un_neg pe_int) (fun _ _ => rfl)) (pe_glob (v := .ref (He.ga K "ZERO")) rfl (TX.tup 0 "ZERO" _ rfl).1 rfl) (nomark _))))))), fun c xq hK hT hE => ?_⟩
  subst hK hT
  exact (ds_seq (ds_if (dt_or (dt_not (dt_B (de_isi .list (dp_var 0)))) (dt_not (dt_B (de_cb1 d1_all (DE.dp (de_comp (vs := [1]) (di_list (de_var 0)) (fun _ => (dg_name 1)) (fun _ => dt_yes) (fun _ => (de_callB eok0 (dab_var 1 dab_nil))) (gw_name (by simp)))))))) (ds_ret (de_bl false)) ds_next)
    (ds_ret (de_orV (de_opv d2_eqE (DE.dp (de_lst da_nil))) (de_op d2_ne (de_ixv 0 (DE.dp (de_un d1_neg (DE.dp (de_int 1))))) (DE.dp (de_tup0 (ns := [0, 1]) (TX.tup 0 "ZERO" _ rfl).2))))))
theorem sc_need_text : FnScope ["text"] ["text"] (defScope s_need_text) := ⟨rfl, rfl, rfl, by decide +kernel, rfl, by decide +kernel, by decide +kernel⟩
theorem ok_need_text (TX : Txt bk K mg) (TB : TBs bk K mg base T P) : Def P w K mg base T "need_text" ["text"] 1 F_need_text := by
  refine TX.def_ 8 8 (st := s_need_text) rfl rfl sc_need_text (fun _ _ _ _ _ _ us hl => match us, hl with | [_], _ => rfl) (fun _ _ _ _ h => h.1) (fun _ _ _ _ h => h.2) fun fa cdv A outer s H E hcv hr => ?_
  have tk : Takes (cxOf (L2.CX P w) P w K mg base ["text"] "need_text" (defScope s_need_text) fa cdv A outer s H E) (fun cls d _ H => E cls d H) := takes_of rfl rfl rfl rfl
  refine ⟨_, (pss_one (ps_if (pt_not (pt_val (pe_isi K (TX.free 63 "isinstance" rfl) (TX.free 72 "str" rfl) PyProof.Rows.boot_str (pv 0)))) (pss_one (ps_raiseD TX 61 51 rfl rfl rfl tk)) pss_nil)), fun c xq hK hT hE => ?_⟩
  subst hK hT
  exact (ds_if (dt_not (dt_B (de_isi .str (dp_var 0)))) (ds_raise hE "NoText") ds_next)
theorem sc_whole_in : FnScope ["word", "figures", "sign"] ["word"] (defScope s_whole_in) := ⟨rfl, rfl, rfl, by decide +kernel, rfl, by decide +kernel, by decide +kernel⟩
theorem ok_whole_in (TX : Txt bk K mg) (TB : TBs bk K mg base T P) : Def P w K mg base T "whole_in" ["word"] 1 F_whole_in := by
  refine TX.def_ 9 9 (st := s_whole_in) rfl rfl sc_whole_in (fun _ _ _ _ _ _ us hl => match us, hl with | [_], _ => rfl) (fun _ _ _ _ h => h.1) (fun _ _ _ _ h => h.2) fun fa cdv A outer s H E hcv hr => ?_
  have tk : Takes (cxOf (L2.CX P w) P w K mg base ["word", "figures", "sign"] "whole_in" (defScope s_whole_in) fa cdv A outer s H E) (fun cls d _ H => E cls d H) := takes_of rfl rfl rfl rfl
  refine ⟨_, (pss_cons (ps_set (i := 1) sc_whole_in.nd rfl (by first | exact Or.inl rfl | exact Or.inr rfl) (pv 0))
    (pss_cons (ps_if (PW.pt (pw_and (pt_val (pe_starts (pv 0) pe_str)) (pw_and1 (pt_cmpR (ne_K K hr.units) (pv 0) pe_str (nomark _))))) (pss_one (ps_set (i := 1) sc_whole_in.nd rfl (by first | exact Or.inl rfl | exact Or.inr rfl) (pe_slice sl_str (pv 0) (po_some pe_int) po_none))) pss_nil)
    (pss_cons (ps_if (PW.pt (pw_or (pt_cmpR (eq_K K hr.units) (pv 1) pe_str (nomark _)) (pw_or1 (pt_not (pt_val (pe_all K (TX.free 70 "all" rfl) (pe_lc (own := [("sign", 2)]) rfl sc_whole_in.nd (pi_str (pv 1)) (blkOk_by (by kernel_rfl)) (fun _ _ _ _ _ => (pg_name (i := 2) sc_whole_in.nd rfl (by first | exact Or.inl rfl | exact Or.inr rfl))) (fun _ _ _ _ _ => pts_nil) (fun _ _ _ _ _ => (pe_cmpR (op_in_sign : OpR _ _ rInS) (pv 2) (let ⟨_, h⟩ := TX.str 73 "FIGURES" _ rfl; pe_glob (v := .str "0123456789") rfl h ⟨_, rfl⟩) (by rfl)))))))))) (pss_one (ps_raiseD TX 61 51 rfl rfl rfl tk)) pss_nil)
    (pss_cons (ps_if (PW.pt (pw_and (pt_cmpR (eq_K K hr.units) (pe_ix (ix_K K) (pv 1) pe_int (fun _ _ => rfl)) pe_str (nomark _)) (pw_and1 (pt_cmpR op_gt (pe_len K (TX.free 68 "len" rfl) (pv 1)) pe_int (nomark _))))) (pss_one (ps_raiseD TX 61 51 rfl rfl rfl tk)) pss_nil)
    (pss_one (ps_ret (pe_intS (TX.free 64 "int" rfl) (pv 0)))))))), fun c xq hK hT hE => ?_⟩
  subst hK hT
  exact (ds_seq (ds_asg (de_var 0) (dg_name 1))
    (ds_seq (ds_if (dt_and (dt_B (de_m1 d2_starts (de_var 0) (DE.dp (de_str "-")))) (dt_test (de_opv d2_ne (DE.dp (de_str "-0"))))) (ds_asg (de_slS (de_var 0) (do_some (DE.dp (de_int 1))) do_none) (dg_name 1)) ds_next)
    (ds_seq (ds_if (dt_or (dt_test (de_opv d2_eq (DE.dp (de_str "")))) (dt_not (dt_B (de_cb1 d1_all (DE.dp (de_comp (vs := [2]) (di_str (de_var 1)) (fun _ => (dg_name 2)) (fun _ => dt_yes) (fun _ => (de_opv d2_inS (DE.dp (de_str "0123456789")))) (gw_name (by simp)))))))) (ds_raise hE "NoText") ds_next)
    (ds_seq (ds_if (dt_and (dt_test (de_op d2_eq (de_op d2_ixS (de_var 1) (DE.dp (de_int 0))) (DE.dp (de_str "0")))) (dt_test (de_op d2_gt (de_cb1 d1_len (dp_var 1)) (DE.dp (de_int 1))))) (ds_raise hE "NoText") ds_next)
    (ds_ret (de_cb1 d1_intS (dp_var 0)))))))
theorem sc_fraction_in : FnScope ["word", "top", "mark", "bottom", "found"] ["word"] (defScope s_fraction_in) := ⟨rfl, rfl, rfl, by decide +kernel, rfl, by decide +kernel, by decide +kernel⟩
theorem ok_fraction_in (TX : Txt bk K mg) (TB : TBs bk K mg base T P) : Def P w K mg base T "fraction_in" ["word"] 3 F_fraction_in := by
  refine TX.def_ 10 10 (st := s_fraction_in) rfl rfl sc_fraction_in (fun _ _ _ _ _ _ us hl => match us, hl with | [_], _ => rfl) (fun _ _ _ _ h => h.1) (fun _ _ _ _ h => h.2) fun fa cdv A outer s H E hcv hr => ?_
  have tk : Takes (cxOf (L2.CX P w) P w K mg base ["word", "top", "mark", "bottom", "found"] "fraction_in" (defScope s_fraction_in) fa cdv A outer s H E) (fun cls d _ H => E cls d H) := takes_of rfl rfl rfl rfl
  refine ⟨_, (pss_cons (ps_asg (pe_partS (pv 0) pe_str) (tg_tup K (n := 3) (pgs_cons (pg_name (i := 1) sc_fraction_in.nd rfl (by first | exact Or.inl rfl | exact Or.inr rfl)) (pgs_cons (pg_name (i := 2) sc_fraction_in.nd rfl (by first | exact Or.inl rfl | exact Or.inr rfl)) (pgs_cons (pg_name (i := 3) sc_fraction_in.nd rfl (by first | exact Or.inl rfl | exact Or.inr rfl)) pgs_nil)))))
    (pss_cons (ps_set (i := 4) sc_fraction_in.nd rfl (by first | exact Or.inl rfl | exact Or.inr rfl) (pe_tup (pa_cons (pe_def (ok_whole_in (T := T) TX TB) (hr.mono (by decide)) (passes_call tk (fun _ _ _ _ h => h)) (pa_cons (pv 1) pa_nil)) (pa_cons pe_int pa_nil))))
    (pss_cons (ps_if (pt_cmpR (ne_K K hr.units) (pv 2) pe_str (nomark _)) (pss_cons (ps_set (i := 4) sc_fraction_in.nd rfl (by first | exact Or.inl rfl | exact Or.inr rfl) (pe_tup (pa_cons (pe_ix (ix_K K) (pv 4) pe_int (fun _ _ => rfl)) (pa_cons (pe_def (ok_whole_in (T := T) TX TB) (hr.mono (by decide)) (passes_call tk (fun _ _ _ _ h => h)) (pa_cons (pv 3) pa_nil)) pa_nil))))
    (pss_one (ps_if (PW.pt (pw_or (pt_cmpR op_lt (pe_ix (ix_K K) (pv 4) pe_int (fun _ _ => rfl)) pe_int (nomark _)) (pw_or1 (pt_not (pt_val (pe_def (ok_is_fraction (T := T) TX TB) (hr.mono (by decide)) (passes_call tk (fun _ _ _ _ h => h)) (pa_cons (pv 4) pa_nil))))))) (pss_one (ps_raiseD TX 61 51 rfl rfl rfl tk)) pss_nil))) pss_nil)
    (pss_one (ps_ret (pv 4)))))), fun c xq hK hT hE => ?_⟩
  subst hK hT
  exact (ds_seq (ds_asg (de_m1 d2_part (de_var 0) (DE.dp (de_str "/"))) (dg_tup (dgs_cons (dg_name 1) (dgs_cons (dg_name 2) (dgs_cons (dg_name 3) dgs_nil)))))
    (ds_seq (ds_asg (de_tup (da_cons (de_callB hE (dab_var 1 dab_nil)) (da_cons (de_int 1) da_nil))) (dg_name 4))
    (ds_seq (ds_if (dt_test (de_opv d2_ne (DE.dp (de_str "")))) (ds_seq (ds_asg (de_tup (da_cons (de_ixv 4 (DE.dp (de_int 0))) (da_cons (de_callB hE (dab_var 3 dab_nil)) da_nil))) (dg_name 4))
    (ds_if (dt_or (dt_test (de_op d2_lt (de_ixv 4 (DE.dp (de_int 1))) (DE.dp (de_int 2)))) (dt_not (dt_B (de_callB hE (dab_var 4 dab_nil))))) (ds_raise hE "NoText") ds_next)) ds_next)
    (ds_retV 4))))
theorem sc_read_fraction : FnScope ["text"] ["text"] (defScope s_read_fraction) := ⟨rfl, rfl, rfl, by decide +kernel, rfl, by decide +kernel, by decide +kernel⟩
theorem ok_read_fraction (TX : Txt bk K mg) (TB : TBs bk K mg base T P) : Def P w K mg base T "read_fraction" ["text"] 4 F_read_fraction := by
  refine TX.def_ 11 11 (st := s_read_fraction) rfl rfl sc_read_fraction (fun _ _ _ _ _ _ us hl => match us, hl with | [_], _ => rfl) (fun _ _ _ _ h => h.1) (fun _ _ _ _ h => h.2) fun fa cdv A outer s H E hcv hr => ?_
  have tk : Takes (cxOf (L2.CX P w) P w K mg base ["text"] "read_fraction" (defScope s_read_fraction) fa cdv A outer s H E) (fun cls d _ H => E cls d H) := takes_of rfl rfl rfl rfl
  refine ⟨_, (pss_cons (ps_expr (pe_def (ok_need_text (T := T) TX TB) (hr.mono (by decide)) (passes_call tk (fun _ _ _ _ h => h)) (pa_cons (pv 0) pa_nil)))
    (pss_one (ps_ret (pe_def (ok_fraction_in (T := T) TX TB) (hr.mono (by decide)) (passes_call tk (fun _ _ _ _ h => h)) (pa_cons (pv 0) pa_nil))))), fun c xq hK hT hE => ?_⟩
  subst hK hT
  exact (ds_seq (ds_drop (de_callB hE (dab_var 0 dab_nil)))
    (ds_ret (de_call hE (da_cons (de_var 0) da_nil))))
theorem sc_read_sums : FnScope ["text", "word"] ["text"] (defScope s_read_sums) := ⟨rfl, rfl, rfl, by decide +kernel, rfl, by decide +kernel, by decide +kernel⟩
theorem ok_read_sums (TX : Txt bk K mg) (TB : TBs bk K mg base T P) : Def P w K mg base T "read_sums" ["text"] 4 F_read_sums := by
  refine TX.def_ 12 12 (st := s_read_sums) rfl rfl sc_read_sums (fun _ _ _ _ _ _ us hl => match us, hl with | [_], _ => rfl) (fun _ _ _ _ h => h.1) (fun _ _ _ _ h => h.2) fun fa cdv A outer s H E hcv hr => ?_
  have tk : Takes (cxOf (L2.CX P w) P w K mg base ["text", "word"] "read_sums" (defScope s_read_sums) fa cdv A outer s H E) (fun cls d _ H => E cls d H) := takes_of rfl rfl rfl rfl
  refine ⟨_, (pss_cons (ps_expr (pe_def (ok_need_text (T := T) TX TB) (hr.mono (by decide)) (passes_call tk (fun _ _ _ _ h => h)) (pa_cons (pv 0) pa_nil)))
    (pss_one (ps_ret (pe_lcR (own := [("word", 1)]) tk (fun _ _ _ _ h => h) rfl rfl rfl sc_read_sums.nd (it_list K (pe_splitS (pv 0) pe_str)) (blkOk_by (by kernel_rfl)) (fun _ _ _ _ _ => (pg_name (i := 1) sc_read_sums.nd rfl (by first | exact Or.inl rfl | exact Or.inr rfl))) (fun _ _ _ _ _ => pts_nil) (fun _ _ _ _ _ hp => (pe_def (ok_fraction_in (T := T) TX TB) (hr.mono (by decide)) hp (pa_cons (pv 1) pa_nil))))))), fun c xq hK hT hE => ?_⟩
  subst hK hT
  exact (ds_seq (ds_drop (de_callB hE (dab_var 0 dab_nil)))
    (ds_ret (de_compR (vs := [1]) hE (di_list (de_m1 d2_split (de_var 0) (DE.dp (de_str " ")))) (fun _ => (dg_name 1)) (fun _ => dt_yes) (fun _ hE2 => (de_call hE2 (da_cons (de_var 1) da_nil))) (gw_name (by simp)))))
theorem sc_read_polynomial : FnScope ["text", "found"] ["text"] (defScope s_read_polynomial) := ⟨rfl, rfl, rfl, by decide +kernel, rfl, by decide +kernel, by decide +kernel⟩
theorem ok_read_polynomial (TX : Txt bk K mg) (TB : TBs bk K mg base T P) : Def P w K mg base T "read_polynomial" ["text"] 5 F_read_polynomial := by
  refine TX.def_ 13 13 (st := s_read_polynomial) rfl rfl sc_read_polynomial (fun _ _ _ _ _ _ us hl => match us, hl with | [_], _ => rfl) (fun _ _ _ _ h => h.1) (fun _ _ _ _ h => h.2) fun fa cdv A outer s H E hcv hr => ?_
  have tk : Takes (cxOf (L2.CX P w) P w K mg base ["text", "found"] "read_polynomial" (defScope s_read_polynomial) fa cdv A outer s H E) (fun cls d _ H => E cls d H) := takes_of rfl rfl rfl rfl
  refine ⟨_, (pss_cons (ps_expr (pe_def (ok_need_text (T := T) TX TB) (hr.mono (by decide)) (passes_call tk (fun _ _ _ _ h => h)) (pa_cons (pv 0) pa_nil)))
    (pss_cons (ps_if (pt_cmpR (eq_K K hr.units) (pv 0) (let ⟨_, h⟩ := TX.str 74 "NOUGHT" _ rfl; pe_glob (v := .str "nought") rfl h ⟨_, rfl⟩) (nomark _)) (pss_one (ps_ret (pe_lst pa_nil))) pss_nil)
    (pss_cons (ps_set (i := 1) sc_read_polynomial.nd rfl (by first | exact Or.inl rfl | exact Or.inr rfl) (pe_def (ok_read_sums (T := T) TX TB) (hr.mono (by decide)) (passes_call tk (fun _ _ _ _ h => h)) (pa_cons (pv 0) pa_nil)))
    (pss_cons (ps_if (pt_not (pt_val (pe_def (ok_is_polynomial (T := T) TX TB) (hr.mono (by decide)) (passes_call tk (fun _ _ _ _ h => h)) (pa_cons (pv 1) pa_nil)))) (pss_one (ps_raiseD TX 61 51 rfl rfl rfl tk)) pss_nil)
    (pss_one (ps_ret (pv 1))))))), fun c xq hK hT hE => ?_⟩
  subst hK hT
  exact (ds_seq (ds_drop (de_callB hE (dab_var 0 dab_nil)))
    (ds_seq (ds_if (dt_test (de_opv d2_eq (DE.dp (de_str "nought")))) (ds_ret (de_lst da_nil)) ds_next)
    (ds_seq (ds_asg (de_call hE (da_cons (de_var 0) da_nil)) (dg_name 1))
    (ds_seq (ds_if (dt_not (dt_B (de_callB hE (dab_var 1 dab_nil)))) (ds_raise hE "NoText") ds_next)
    (ds_retV 1)))))
theorem sc_spot_in : FnScope ["word", "spot", "mark", "weight"] ["word"] (defScope s_spot_in) := ⟨rfl, rfl, rfl, by decide +kernel, rfl, by decide +kernel, by decide +kernel⟩
theorem ok_spot_in (TX : Txt bk K mg) (TB : TBs bk K mg base T P) : Def P w K mg base T "spot_in" ["word"] 4 F_spot_in := by
  refine TX.def_ 14 14 (st := s_spot_in) rfl rfl sc_spot_in (fun _ _ _ _ _ _ us hl => match us, hl with | [_], _ => rfl) (fun _ _ _ _ h => h.1) (fun _ _ _ _ h => h.2) fun fa cdv A outer s H E hcv hr => ?_
  have tk : Takes (cxOf (L2.CX P w) P w K mg base ["word", "spot", "mark", "weight"] "spot_in" (defScope s_spot_in) fa cdv A outer s H E) (fun cls d _ H => E cls d H) := takes_of rfl rfl rfl rfl
  refine ⟨_, (pss_cons (ps_asg (pe_partS (pv 0) pe_str) (tg_tup K (n := 3) (pgs_cons (pg_name (i := 1) sc_spot_in.nd rfl (by first | exact Or.inl rfl | exact Or.inr rfl)) (pgs_cons (pg_name (i := 2) sc_spot_in.nd rfl (by first | exact Or.inl rfl | exact Or.inr rfl)) (pgs_cons (pg_name (i := 3) sc_spot_in.nd rfl (by first | exact Or.inl rfl | exact Or.inr rfl)) pgs_nil)))))
    (pss_cons (ps_if (pt_cmpR (eq_K K hr.units) (pv 2) pe_str (nomark _)) (pss_one (ps_raiseD TX 61 51 rfl rfl rfl tk)) pss_nil)
    (pss_one (ps_ret (pe_tup (pa_cons (pe_def (ok_fraction_in (T := T) TX TB) (hr.mono (by decide)) (passes_call tk (fun _ _ _ _ h => h)) (pa_cons (pv 1) pa_nil)) (pa_cons (pe_def (ok_fraction_in (T := T) TX TB) (hr.mono (by decide)) (passes_call tk (fun _ _ _ _ h => h)) (pa_cons (pv 3) pa_nil)) pa_nil))))))), fun c xq hK hT hE => ?_⟩
  subst hK hT
  exact (ds_seq (ds_asg (de_m1 d2_part (de_var 0) (DE.dp (de_str ":"))) (dg_tup (dgs_cons (dg_name 1) (dgs_cons (dg_name 2) (dgs_cons (dg_name 3) dgs_nil)))))
    (ds_seq (ds_if (dt_test (de_opv d2_eq (DE.dp (de_str "")))) (ds_raise hE "NoText") ds_next)
    (ds_ret (de_tup (da_cons (de_call hE (da_cons (de_var 1) da_nil)) (da_cons (de_call hE (da_cons (de_var 3) da_nil)) da_nil))))))
theorem sc_read_crowd : FnScope ["text", "found", "word"] ["text"] (defScope s_read_crowd) := ⟨rfl, rfl, rfl, by decide +kernel, rfl, by decide +kernel, by decide +kernel⟩
theorem ok_read_crowd (TX : Txt bk K mg) (TB : TBs bk K mg base T P) : Def P w K mg base T "read_crowd" ["text"] 5 F_read_crowd := by
  refine TX.def_ 15 15 (st := s_read_crowd) rfl rfl sc_read_crowd (fun _ _ _ _ _ _ us hl => match us, hl with | [_], _ => rfl) (fun _ _ _ _ h => h.1) (fun _ _ _ _ h => h.2) fun fa cdv A outer s H E hcv hr => ?_
  have tk : Takes (cxOf (L2.CX P w) P w K mg base ["text", "found", "word"] "read_crowd" (defScope s_read_crowd) fa cdv A outer s H E) (fun cls d _ H => E cls d H) := takes_of rfl rfl rfl rfl
  refine ⟨_, (pss_cons (ps_expr (pe_def (ok_need_text (T := T) TX TB) (hr.mono (by decide)) (passes_call tk (fun _ _ _ _ h => h)) (pa_cons (pv 0) pa_nil)))
    (pss_cons (ps_if (pt_cmpR (eq_K K hr.units) (pv 0) (let ⟨_, h⟩ := TX.str 75 "NONE" _ rfl; pe_glob (v := .str "none") rfl h ⟨_, rfl⟩) (nomark _)) (pss_one (ps_ret (pe_lst pa_nil))) pss_nil)
    (pss_cons (ps_setLcR (i := 1) (own := [("word", 2)]) tk (fun _ _ _ _ h => h) rfl rfl rfl sc_read_crowd.nd rfl rfl (sw_true rfl rfl rfl (by decide +kernel)) (it_list K (pe_splitS (pv 0) pe_str)) (blkOk_by (by kernel_rfl)) (fun _ _ _ _ _ => (pg_name (i := 2) sc_read_crowd.nd rfl (by first | exact Or.inl rfl | exact Or.inr rfl))) (fun _ _ _ _ _ => pts_nil) (fun _ _ _ _ _ hp => (pe_def (ok_spot_in (T := T) TX TB) (hr.mono (by decide)) hp (pa_cons (pv 2) pa_nil))))
    (pss_cons (ps_if (pt_not (pt_val (pe_def (ok_is_crowd (T := T) TX TB) (hr.mono (by decide)) (passes_call tk (fun _ _ _ _ h => h)) (pa_cons (pv 1) pa_nil)))) (pss_one (ps_raiseD TX 61 51 rfl rfl rfl tk)) pss_nil)
    (pss_one (ps_ret (pv 1))))))), fun c xq hK hT hE => ?_⟩
  subst hK hT
  exact (ds_seq (ds_drop (de_callB hE (dab_var 0 dab_nil)))
    (ds_seq (ds_if (dt_test (de_opv d2_eq (DE.dp (de_str "none")))) (ds_ret (de_lst da_nil)) ds_next)
    (ds_seq (ds_asg (de_compR (vs := [2]) hE (di_list (de_m1 d2_split (de_var 0) (DE.dp (de_str " ")))) (fun _ => (dg_name 2)) (fun _ => dt_yes) (fun _ hE2 => (de_call hE2 (da_cons (de_var 2) da_nil))) (gw_name (by simp))) (dg_name 1))
    (ds_seq (ds_if (dt_not (dt_B (de_callB hE (dab_var 1 dab_nil)))) (ds_raise hE "NoText") ds_next)
    (ds_retV 1)))))
theorem sc__law_cell_at : FnScope ["_law_script", "_law_k"] ["_law_script", "_law_k"] (defScope s__law_cell_at) := ⟨rfl, rfl, rfl, by decide +kernel, rfl, by decide +kernel, by decide +kernel⟩
theorem ok__law_cell_at (TX : Txt bk K mg) (TB : TBs bk K mg base T P) : Def P w K mg base T "_law_cell_at" ["_law_script", "_law_k"] 1 F__law_cell_at := by
  refine TX.def_ 16 16 (st := s__law_cell_at) rfl rfl sc__law_cell_at (fun _ _ _ _ _ _ us hl => match us, hl with | [_, _], _ => rfl) (fun _ _ _ _ h => h.1) (fun _ _ _ _ h => h.2) fun fa cdv A outer s H E hcv hr => ?_
  have tk : Takes (cxOf (L2.CX P w) P w K mg base ["_law_script", "_law_k"] "_law_cell_at" (defScope s__law_cell_at) fa cdv A outer s H E) (fun cls d _ H => E cls d H) := takes_of rfl rfl rfl rfl
  refine ⟨_, (pss_cons (ps_if (pt_cmpR op_lt (pv 1) (pe_len K (TX.free 68 "len" rfl) (pv 0)) (nomark _)) (pss_one (ps_ret (pe_ix (ix_K K) (pv 0) (pv 1) (fun _ _ => rfl)))) pss_nil)
    (pss_one (ps_ret pe_int))), fun c xq hK hT hE => ?_⟩
  subst hK hT
  exact (ds_seq (ds_if (dt_test (de_opv d2_lt (DE.dp (de_cb1 d1_len (dp_var 0))))) (ds_ret (de_ixv 0 (dp_var 1))) ds_next)
    (ds_ret (de_int 0)))
theorem sc__law_state : FnScope ["_law_script", "_law_k", "_law_cell"] ["_law_script", "_law_k"] (defScope s__law_state) := ⟨rfl, rfl, rfl, by decide +kernel, rfl, by decide +kernel, by decide +kernel⟩
theorem ok__law_state (TX : Txt bk K mg) (TB : TBs bk K mg base T P) : Def P w K mg base T "_law_state" ["_law_script", "_law_k"] 2 F__law_state := by
  refine TX.def_ 17 17 (st := s__law_state) rfl rfl sc__law_state (fun _ _ _ _ _ _ us hl => match us, hl with | [_, _], _ => rfl) (fun _ _ _ _ h => h.1) (fun _ _ _ _ h => h.2) fun fa cdv A outer s H E hcv hr => ?_
  have tk : Takes (cxOf (L2.CX P w) P w K mg base ["_law_script", "_law_k", "_law_cell"] "_law_state" (defScope s__law_state) fa cdv A outer s H E) (fun cls d _ H => E cls d H) := takes_of rfl rfl rfl rfl
  refine ⟨_, (pss_cons (ps_set (i := 2) sc__law_state.nd rfl (by first | exact Or.inl rfl | exact Or.inr rfl) (pe_def (ok__law_cell_at (T := T) TX TB) (hr.mono (by decide)) (passes_call tk (fun _ _ _ _ h => h)) (pa_cons (pv 0) (pa_cons (pv 1) pa_nil))))
    (pss_cons (ps_if (pt_cmpR op_ge (pv 2) (pe_op op_pow pe_int pe_int) (nomark _)) (pss_one (ps_ret (pe_lst (pa_cons (pe_op op_sub (pv 2) (pe_op op_pow pe_int pe_int)) (pa_cons pe_bl pa_nil))))) pss_nil)
    (pss_one (ps_ret (pe_lst (pa_cons (pe_op op_modN (pv 2) pe_int) (pa_cons pe_bl pa_nil))))))), fun c xq hK hT hE => ?_⟩
  subst hK hT
  exact (ds_seq (ds_asg (de_call hE (da_cons (de_var 0) (da_cons (de_var 1) da_nil))) (dg_name 2))
    (ds_seq (ds_if (dt_test (de_opv d2_ge (DE.dp (de_op d2_pow (de_int 10) (DE.dp (de_int 18)))))) (ds_ret (de_lst (da_cons (de_opv d2_sub (DE.dp (de_op d2_pow (de_int 10) (DE.dp (de_int 18))))) (da_cons (de_bl true) da_nil)))) ds_next)
    (ds_ret (de_lst (da_cons (de_opv d2_mod (DE.dp (de_int 2147483647))) (da_cons (de_bl false) da_nil))))))
theorem sc__law_take : FnScope ["_law_state_here", "_law_many", "_law_found", "_law_stirred"] ["_law_state_here", "_law_many"] (defScope s__law_take) := ⟨rfl, rfl, rfl, by decide +kernel, rfl, by decide +kernel, by decide +kernel⟩
theorem ok__law_take (TX : Txt bk K mg) (TB : TBs bk K mg base T P) : Def P w K mg base T "_law_take" ["_law_state_here", "_law_many"] 33 F__law_take := by
  refine TX.def_ 18 18 (st := s__law_take) rfl rfl sc__law_take (fun _ _ _ _ _ _ us hl => match us, hl with | [_, _], _ => rfl) (fun _ _ _ _ h => h.1) (fun _ _ _ _ h => h.2) fun fa cdv A outer s H E hcv hr => ?_
  have tk : Takes (cxOf (L2.CX P w) P w K mg base ["_law_state_here", "_law_many", "_law_found", "_law_stirred"] "_law_take" (defScope s__law_take) fa cdv A outer s H E) (fun cls d _ H => E cls d H) := takes_of rfl rfl rfl rfl
  refine ⟨_, (pss_cons (ps_if (pt_val (pe_ix (ix_K K) (pv 0) pe_int (fun _ _ => rfl))) (pss_cons (ps_set (i := 2) sc__law_take.nd rfl (by first | exact Or.inl rfl | exact Or.inr rfl) (pe_op op_modN (pe_ix (ix_K K) (pv 0) pe_int (fun _ _ => rfl)) (pv 1)))
    (pss_cons (ps_asg (pe_op (op_divX (TB.sx hr)) (pe_ix (ix_K K) (pv 0) pe_int (fun _ _ => rfl)) (pv 1)) (pg_sub (pv 0) pe_int set_list))
    (pss_one (ps_ret (pv 2))))) pss_nil)
    (pss_cons (ps_asg (pe_op op_modN (pe_op op_add (pe_op op_mulX (pe_ix (ix_K K) (pv 0) pe_int (fun _ _ => rfl)) pe_int) pe_int) pe_int) (pg_sub (pv 0) pe_int set_list))
    (pss_cons (ps_set (i := 3) sc__law_take.nd rfl (by first | exact Or.inl rfl | exact Or.inr rfl) (pe_op op_modN (pe_op op_add (pe_op op_add (pe_op op_mulX (pe_ix (ix_K K) (pv 0) pe_int (fun _ _ => rfl)) (pe_ix (ix_K K) (pv 0) pe_int (fun _ _ => rfl))) (pe_op op_mulX pe_int (pe_ix (ix_K K) (pv 0) pe_int (fun _ _ => rfl)))) pe_int) pe_int))
    (pss_cons (ps_set (i := 3) sc__law_take.nd rfl (by first | exact Or.inl rfl | exact Or.inr rfl) (pe_op op_modN (pe_op op_add (pe_op op_mulX (pv 3) (pv 3)) (pe_op op_mulX pe_int (pv 3))) pe_int))
    (pss_one (ps_ret (pe_op op_modN (pe_op (op_divX (TB.sx hr)) (pv 3) pe_int) (pv 1)))))))), fun c xq hK hT hE => ?_⟩
  subst hK hT
  exact (ds_seq (ds_if (dt_B (de_ixv 0 (DE.dp (de_int 1)))) (ds_seq (ds_asg (de_op d2_mod (de_ixv 0 (DE.dp (de_int 0))) (dp_var 1)) (dg_name 2))
    (ds_seq (ds_asg (de_op d2_div (de_ixv 0 (DE.dp (de_int 0))) (dp_var 1)) (dg_sub 0 (DE.dp (de_int 0))))
    (ds_retV 2))) ds_next)
    (ds_seq (ds_asg (de_op d2_mod (de_op d2_add (de_op d2_mul (de_ixv 0 (DE.dp (de_int 0))) (DE.dp (de_int 48271))) (DE.dp (de_int 29))) (DE.dp (de_int 2147483647))) (dg_sub 0 (DE.dp (de_int 0))))
    (ds_seq (ds_asg (de_op d2_mod (de_op d2_add (de_op d2_add (de_op d2_mul (de_ixv 0 (DE.dp (de_int 0))) (DE.dp (de_ixv 0 (DE.dp (de_int 0))))) (DE.dp (de_op d2_mul (de_int 39373) (DE.dp (de_ixv 0 (DE.dp (de_int 0))))))) (DE.dp (de_int 7))) (DE.dp (de_int 2147483629))) (dg_name 3))
    (ds_seq (ds_asg (de_op d2_mod (de_op d2_add (de_opv d2_mul (dp_var 3)) (DE.dp (de_op d2_mul (de_int 16807) (dp_var 3)))) (DE.dp (de_int 2147483587))) (dg_name 3))
    (ds_ret (de_op d2_mod (de_opv d2_div (DE.dp (de_int 8))) (dp_var 1)))))))
theorem sc__law_divisor : FnScope ["_law_one", "_law_other"] ["_law_one", "_law_other"] (defScope s__law_divisor) := ⟨rfl, rfl, rfl, by decide +kernel, rfl, by decide +kernel, by decide +kernel⟩
theorem ok__law_divisor (TX : Txt bk K mg) (TB : TBs bk K mg base T P) : Def P w K mg base T "_law_divisor" ["_law_one", "_law_other"] 1 F__law_divisor := by
  refine TX.def_ 19 19 (st := s__law_divisor) rfl rfl sc__law_divisor (fun _ _ _ _ _ _ us hl => match us, hl with | [_, _], _ => rfl) (fun _ _ _ _ h => h.1) (fun _ _ _ _ h => h.2) fun fa cdv A outer s H E hcv hr => ?_
  have tk : Takes (cxOf (L2.CX P w) P w K mg base ["_law_one", "_law_other"] "_law_divisor" (defScope s__law_divisor) fa cdv A outer s H E) (fun cls d _ H => E cls d H) := takes_of rfl rfl rfl rfl
  refine ⟨_, (pss_cons (ps_while (passes_of rfl) (pt_cmpR (ne_K K hr.units) (pv 1) pe_int (nomark _)) (pss_one (ps_par (i := 0) (j := 1) rfl sc__law_divisor.nd rfl rfl (by decide) rfl rfl (pa_cons (pv 1) (pa_cons (pe_op op_modN (pv 0) (pv 1)) pa_nil)) (by rfl))))
    (pss_one (ps_ret (pe_abs (TX.free 66 "abs" rfl) (pv 0))))), fun c xq hK hT hE => ?_⟩
  subst hK hT
  exact (ds_seq (ds_while (dt_test (de_opv d2_ne (DE.dp (de_int 0)))) (ds_par 0 1 (da_cons (de_var 1) (da_cons (de_opv d2_mod (dp_var 1)) da_nil))))
    (ds_ret (de_cb1 d1_abs (dp_var 0))))
theorem sc__law_low : FnScope ["_law_top", "_law_bottom", "_law_by"] ["_law_top", "_law_bottom"] (defScope s__law_low) := ⟨rfl, rfl, rfl, by decide +kernel, rfl, by decide +kernel, by decide +kernel⟩
theorem ok__law_low (TX : Txt bk K mg) (TB : TBs bk K mg base T P) : Def P w K mg base T "_law_low" ["_law_top", "_law_bottom"] 33 F__law_low := by
  refine TX.def_ 20 20 (st := s__law_low) rfl rfl sc__law_low (fun _ _ _ _ _ _ us hl => match us, hl with | [_, _], _ => rfl) (fun _ _ _ _ h => h.1) (fun _ _ _ _ h => h.2) fun fa cdv A outer s H E hcv hr => ?_
  have tk : Takes (cxOf (L2.CX P w) P w K mg base ["_law_top", "_law_bottom", "_law_by"] "_law_low" (defScope s__law_low) fa cdv A outer s H E) (fun cls d _ H => E cls d H) := takes_of rfl rfl rfl rfl
  refine ⟨_, (pss_cons (ps_set (i := 2) sc__law_low.nd rfl (by first | exact Or.inl rfl | exact Or.inr rfl) (pe_def (ok__law_divisor (T := T) TX TB) (hr.mono (by decide)) (passes_call tk (fun _ _ _ _ h => h)) (pa_cons (pv 0) (pa_cons (pv 1) pa_nil))))
    (pss_cons (ps_if (pt_cmpR op_lt (pv 1) pe_int (nomark _)) (pss_one (ps_set (i := 2) sc__law_low.nd rfl (by first | exact Or.inl rfl | exact Or.inr rfl) (pe_op op_sub pe_int (pv 2)))) pss_nil)
    (pss_one (ps_ret (pe_tup (pa_cons (pe_op (op_divX (TB.sx hr)) (pv 0) (pv 2)) (pa_cons (pe_op (op_divX (TB.sx hr)) (pv 1) (pv 2)) pa_nil))))))), fun c xq hK hT hE => ?_⟩
  subst hK hT
  exact (ds_seq (ds_asg (de_callB hE (dab_var 0 (dab_var 1 dab_nil))) (dg_name 2))
    (ds_seq (ds_if (dt_test (de_opv d2_lt (DE.dp (de_int 0)))) (ds_asg (de_op d2_sub (de_int 0) (dp_var 2)) (dg_name 2)) ds_next)
    (ds_ret (de_tup (da_cons (de_opv d2_div (dp_var 2)) (da_cons (de_opv d2_div (dp_var 2)) da_nil))))))
theorem sc__law_small : FnScope ["_law_state_here"] ["_law_state_here"] (defScope s__law_small) := ⟨rfl, rfl, rfl, by decide +kernel, rfl, by decide +kernel, by decide +kernel⟩
theorem ok__law_small (TX : Txt bk K mg) (TB : TBs bk K mg base T P) : Def P w K mg base T "_law_small" ["_law_state_here"] 34 F__law_small := by
  refine TX.def_ 21 21 (st := s__law_small) rfl rfl sc__law_small (fun _ _ _ _ _ _ us hl => match us, hl with | [_], _ => rfl) (fun _ _ _ _ h => h.1) (fun _ _ _ _ h => h.2) fun fa cdv A outer s H E hcv hr => ?_
  have tk : Takes (cxOf (L2.CX P w) P w K mg base ["_law_state_here"] "_law_small" (defScope s__law_small) fa cdv A outer s H E) (fun cls d _ H => E cls d H) := takes_of rfl rfl rfl rfl
  refine ⟨_, (pss_one (ps_ret (pe_def (ok__law_low (T := T) TX TB) (hr.mono (by decide)) (passes_call tk (fun _ _ _ _ h => h)) (pa_cons (pe_op op_sub (pe_def (ok__law_take (T := T) TX TB) (hr.mono (by decide)) (passes_call tk (fun _ _ _ _ h => h)) (pa_cons (pv 0) (pa_cons pe_int pa_nil))) pe_int) (pa_cons (pe_op op_add pe_int (pe_ix (ix_K K) (pe_lst (pa_cons pe_int (pa_cons pe_int (pa_cons (pe_def (ok__law_take (T := T) TX TB) (hr.mono (by decide)) (passes_call tk (fun _ _ _ _ h => h)) (pa_cons (pv 0) (pa_cons pe_int pa_nil))) pa_nil)))) (pe_def (ok__law_take (T := T) TX TB) (hr.mono (by decide)) (passes_call tk (fun _ _ _ _ h => h)) (pa_cons (pv 0) (pa_cons pe_int pa_nil))) (fun _ _ => rfl))) pa_nil))))), fun c xq hK hT hE => ?_⟩
  subst hK hT
  exact (ds_ret (de_call hE (da_cons (de_op d2_sub (de_call hE (da_cons (de_var 0) (da_cons (de_int 13) da_nil))) (DE.dp (de_int 6))) (da_cons (de_op d2_add (de_int 1) (DE.dp (de_op d2_ix (de_lst (da_cons (de_int 0) (da_cons (de_int 0) (da_cons (de_call hE (da_cons (de_var 0) (da_cons (de_int 3) da_nil))) da_nil)))) (DE.dp (de_call hE (da_cons (de_var 0) (da_cons (de_int 3) da_nil))))))) da_nil))))
theorem sc__law_above : FnScope ["_law_state_here"] ["_law_state_here"] (defScope s__law_above) := ⟨rfl, rfl, rfl, by decide +kernel, rfl, by decide +kernel, by decide +kernel⟩
theorem ok__law_above (TX : Txt bk K mg) (TB : TBs bk K mg base T P) : Def P w K mg base T "_law_above" ["_law_state_here"] 34 F__law_above := by
  refine TX.def_ 22 22 (st := s__law_above) rfl rfl sc__law_above (fun _ _ _ _ _ _ us hl => match us, hl with | [_], _ => rfl) (fun _ _ _ _ h => h.1) (fun _ _ _ _ h => h.2) fun fa cdv A outer s H E hcv hr => ?_
  have tk : Takes (cxOf (L2.CX P w) P w K mg base ["_law_state_here"] "_law_above" (defScope s__law_above) fa cdv A outer s H E) (fun cls d _ H => E cls d H) := takes_of rfl rfl rfl rfl
  refine ⟨_, (pss_one (ps_ret (pe_def (ok__law_low (T := T) TX TB) (hr.mono (by decide)) (passes_call tk (fun _ _ _ _ h => h)) (pa_cons (pe_op op_add pe_int (pe_def (ok__law_take (T := T) TX TB) (hr.mono (by decide)) (passes_call tk (fun _ _ _ _ h => h)) (pa_cons (pv 0) (pa_cons pe_int pa_nil)))) (pa_cons (pe_op op_add pe_int (pe_ix (ix_K K) (pe_lst (pa_cons pe_int (pa_cons pe_int (pa_cons (pe_def (ok__law_take (T := T) TX TB) (hr.mono (by decide)) (passes_call tk (fun _ _ _ _ h => h)) (pa_cons (pv 0) (pa_cons pe_int pa_nil))) pa_nil)))) (pe_def (ok__law_take (T := T) TX TB) (hr.mono (by decide)) (passes_call tk (fun _ _ _ _ h => h)) (pa_cons (pv 0) (pa_cons pe_int pa_nil))) (fun _ _ => rfl))) pa_nil))))), fun c xq hK hT hE => ?_⟩
  subst hK hT
  exact (ds_ret (de_call hE (da_cons (de_op d2_add (de_int 1) (DE.dp (de_call hE (da_cons (de_var 0) (da_cons (de_int 6) da_nil))))) (da_cons (de_op d2_add (de_int 1) (DE.dp (de_op d2_ix (de_lst (da_cons (de_int 0) (da_cons (de_int 0) (da_cons (de_call hE (da_cons (de_var 0) (da_cons (de_int 3) da_nil))) da_nil)))) (DE.dp (de_call hE (da_cons (de_var 0) (da_cons (de_int 3) da_nil))))))) da_nil))))
theorem sc__law_plus : FnScope ["_law_one", "_law_other"] ["_law_one", "_law_other"] (defScope s__law_plus) := ⟨rfl, rfl, rfl, by decide +kernel, rfl, by decide +kernel, by decide +kernel⟩
theorem ok__law_plus (TX : Txt bk K mg) (TB : TBs bk K mg base T P) : Def P w K mg base T "_law_plus" ["_law_one", "_law_other"] 34 F__law_plus := by
  refine TX.def_ 23 23 (st := s__law_plus) rfl rfl sc__law_plus (fun _ _ _ _ _ _ us hl => match us, hl with | [_, _], _ => rfl) (fun _ _ _ _ h => h.1) (fun _ _ _ _ h => h.2) fun fa cdv A outer s H E hcv hr => ?_
  have tk : Takes (cxOf (L2.CX P w) P w K mg base ["_law_one", "_law_other"] "_law_plus" (defScope s__law_plus) fa cdv A outer s H E) (fun cls d _ H => E cls d H) := takes_of rfl rfl rfl rfl
  refine ⟨_, (pss_one (ps_ret (pe_def (ok__law_low (T := T) TX TB) (hr.mono (by decide)) (passes_call tk (fun _ _ _ _ h => h)) (pa_cons (pe_op op_add (pe_op op_mulX (pe_ix (ix_K K) (pv 0) pe_int (fun _ _ => rfl)) (pe_ix (ix_K K) (pv 1) pe_int (fun _ _ => rfl))) (pe_op op_mulX (pe_ix (ix_K K) (pv 1) pe_int (fun _ _ => rfl)) (pe_ix (ix_K K) (pv 0) pe_int (fun _ _ => rfl)))) (pa_cons (pe_op op_mulX (pe_ix (ix_K K) (pv 0) pe_int (fun _ _ => rfl)) (pe_ix (ix_K K) (pv 1) pe_int (fun _ _ => rfl))) pa_nil))))), fun c xq hK hT hE => ?_⟩
  subst hK hT
  exact (ds_ret (de_call hE (da_cons (de_op d2_add (de_op d2_mul (de_ixv 0 (DE.dp (de_int 0))) (DE.dp (de_ixv 1 (DE.dp (de_int 1))))) (DE.dp (de_op d2_mul (de_ixv 1 (DE.dp (de_int 0))) (DE.dp (de_ixv 0 (DE.dp (de_int 1))))))) (da_cons (de_op d2_mul (de_ixv 0 (DE.dp (de_int 1))) (DE.dp (de_ixv 1 (DE.dp (de_int 1))))) da_nil))))
theorem sc__law_crowd : FnScope ["_law_state_here", "_law_most", "_law_found", "_law_spot", "_law_turn"] ["_law_state_here", "_law_most"] (defScope s__law_crowd) := ⟨rfl, rfl, rfl, by decide +kernel, rfl, by decide +kernel, by decide +kernel⟩
theorem ok__law_crowd (TX : Txt bk K mg) (TB : TBs bk K mg base T P) : Def P w K mg base T "_law_crowd" ["_law_state_here", "_law_most"] 35 F__law_crowd := by
  refine TX.def_ 24 24 (st := s__law_crowd) rfl rfl sc__law_crowd (fun _ _ _ _ _ _ us hl => match us, hl with | [_, _], _ => rfl) (fun _ _ _ _ h => h.1) (fun _ _ _ _ h => h.2) fun fa cdv A outer s H E hcv hr => ?_
  have tk : Takes (cxOf (L2.CX P w) P w K mg base ["_law_state_here", "_law_most", "_law_found", "_law_spot", "_law_turn"] "_law_crowd" (defScope s__law_crowd) fa cdv A outer s H E) (fun cls d _ H => E cls d H) := takes_of rfl rfl rfl rfl
  refine ⟨_, (pss_cons (ps_set (i := 2) sc__law_crowd.nd rfl (by first | exact Or.inl rfl | exact Or.inr rfl) (pe_lst pa_nil))
    (pss_cons (ps_set (i := 3) sc__law_crowd.nd rfl (by first | exact Or.inl rfl | exact Or.inr rfl) (pe_def (ok__law_small (T := T) TX TB) (hr.mono (by decide)) (passes_call tk (fun _ _ _ _ h => h)) (pa_cons (pv 0) pa_nil)))
    (pss_cons (ps_for (passes_of rfl) rfl (pi_range1 rfl (TX.free 76 "range" rfl) (pa_cons (pe_def (ok__law_take (T := T) TX TB) (hr.mono (by decide)) (passes_call tk (fun _ _ _ _ h => h)) (pa_cons (pv 0) (pa_cons (pe_op op_add (pv 1) pe_int) pa_nil))) pa_nil)) (pg_name (i := 4) sc__law_crowd.nd rfl (by first | exact Or.inl rfl | exact Or.inr rfl))
    (pss_cons (ps_expr (pe_app K (pv 2) (pa_cons (pe_tup (pa_cons (pv 3) (pa_cons (pe_def (ok__law_above (T := T) TX TB) (hr.mono (by decide)) (passes_call tk (fun _ _ _ _ h => h)) (pa_cons (pv 0) pa_nil)) pa_nil))) pa_nil)))
    (pss_one (ps_set (i := 3) sc__law_crowd.nd rfl (by first | exact Or.inl rfl | exact Or.inr rfl) (pe_def (ok__law_plus (T := T) TX TB) (hr.mono (by decide)) (passes_call tk (fun _ _ _ _ h => h)) (pa_cons (pv 3) (pa_cons (pe_def (ok__law_above (T := T) TX TB) (hr.mono (by decide)) (passes_call tk (fun _ _ _ _ h => h)) (pa_cons (pv 0) pa_nil)) pa_nil)))))))
    (pss_one (ps_ret (pv 2)))))), fun c xq hK hT hE => ?_⟩
  subst hK hT
  exact (ds_seq (ds_asg (de_lst da_nil) (dg_name 2))
    (ds_seq (ds_asg (de_call hE (da_cons (de_var 0) da_nil)) (dg_name 3))
    (ds_seq (ds_for (di_rng1 (da_cons (de_call hE (da_cons (de_var 0) (da_cons (de_opv d2_add (DE.dp (de_int 1))) da_nil))) da_nil)) (dg_name 4)
    (ds_seq (ds_app 2 (de_tup (da_cons (de_var 3) (da_cons (de_call hE (da_cons (de_var 0) da_nil)) da_nil))))
    (ds_asg (de_call hE (da_cons (de_var 3) (da_cons (de_call hE (da_cons (de_var 0) da_nil)) da_nil))) (dg_name 3))))
    (ds_retV 2))))
theorem sc__law_times : FnScope ["_law_one", "_law_other"] ["_law_one", "_law_other"] (defScope s__law_times) := ⟨rfl, rfl, rfl, by decide +kernel, rfl, by decide +kernel, by decide +kernel⟩
theorem ok__law_times (TX : Txt bk K mg) (TB : TBs bk K mg base T P) : Def P w K mg base T "_law_times" ["_law_one", "_law_other"] 34 F__law_times := by
  refine TX.def_ 25 25 (st := s__law_times) rfl rfl sc__law_times (fun _ _ _ _ _ _ us hl => match us, hl with | [_, _], _ => rfl) (fun _ _ _ _ h => h.1) (fun _ _ _ _ h => h.2) fun fa cdv A outer s H E hcv hr => ?_
  have tk : Takes (cxOf (L2.CX P w) P w K mg base ["_law_one", "_law_other"] "_law_times" (defScope s__law_times) fa cdv A outer s H E) (fun cls d _ H => E cls d H) := takes_of rfl rfl rfl rfl
  refine ⟨_, (pss_one (ps_ret (pe_def (ok__law_low (T := T) TX TB) (hr.mono (by decide)) (passes_call tk (fun _ _ _ _ h => h)) (pa_cons (pe_op op_mulX (pe_ix (ix_K K) (pv 0) pe_int (fun _ _ => rfl)) (pe_ix (ix_K K) (pv 1) pe_int (fun _ _ => rfl))) (pa_cons (pe_op op_mulX (pe_ix (ix_K K) (pv 0) pe_int (fun _ _ => rfl)) (pe_ix (ix_K K) (pv 1) pe_int (fun _ _ => rfl))) pa_nil))))), fun c xq hK hT hE => ?_⟩
  subst hK hT
  exact (ds_ret (de_call hE (da_cons (de_op d2_mul (de_ixv 0 (DE.dp (de_int 0))) (DE.dp (de_ixv 1 (DE.dp (de_int 0))))) (da_cons (de_op d2_mul (de_ixv 0 (DE.dp (de_int 1))) (DE.dp (de_ixv 1 (DE.dp (de_int 1))))) da_nil))))
theorem sc__law_crowd_sums : FnScope ["_law_crowd_here", "_law_many", "_law_found", "_law_powers", "_law_k", "_law_amount", "_law_one", "_law_spot", "_law_weight", "_law_at"] ["_law_crowd_here", "_law_many"] (defScope s__law_crowd_sums) := ⟨rfl, rfl, rfl, by decide +kernel, rfl, by decide +kernel, by decide +kernel⟩
theorem ok__law_crowd_sums (TX : Txt bk K mg) (TB : TBs bk K mg base T P) : Def P w K mg base T "_law_crowd_sums" ["_law_crowd_here", "_law_many"] 35 F__law_crowd_sums := by
  refine TX.def_ 26 26 (st := s__law_crowd_sums) rfl rfl sc__law_crowd_sums (fun _ _ _ _ _ _ us hl => match us, hl with | [_, _], _ => rfl) (fun _ _ _ _ h => h.1) (fun _ _ _ _ h => h.2) fun fa cdv A outer s H E hcv hr => ?_
  have tk : Takes (cxOf (L2.CX P w) P w K mg base ["_law_crowd_here", "_law_many", "_law_found", "_law_powers", "_law_k", "_law_amount", "_law_one", "_law_spot", "_law_weight", "_law_at"] "_law_crowd_sums" (defScope s__law_crowd_sums) fa cdv A outer s H E) (fun cls d _ H => E cls d H) := takes_of rfl rfl rfl rfl
  refine ⟨_, (pss_cons (ps_set (i := 2) sc__law_crowd_sums.nd rfl (by first | exact Or.inl rfl | exact Or.inr rfl) (pe_lst pa_nil))
    (pss_cons (ps_set (i := 3) sc__law_crowd_sums.nd rfl (by first | exact Or.inl rfl | exact Or.inr rfl) (pe_lc (own := [("_law_spot", 7), ("_law_weight", 8)]) rfl sc__law_crowd_sums.nd (it_list K (pv 0)) (blkOk_by (by kernel_rfl)) (fun _ _ _ _ _ => (tg_tup K (n := 2) (pgs_cons (pg_name (i := 7) sc__law_crowd_sums.nd rfl (by first | exact Or.inl rfl | exact Or.inr rfl)) (pgs_cons (pg_name (i := 8) sc__law_crowd_sums.nd rfl (by first | exact Or.inl rfl | exact Or.inr rfl)) pgs_nil)))) (fun _ _ _ _ _ => pts_nil) (fun _ _ _ _ _ => (pv 8))))
    (pss_cons (ps_for (passes_of rfl) rfl (pi_range1 rfl (TX.free 76 "range" rfl) (pa_cons (pv 1) pa_nil)) (pg_name (i := 4) sc__law_crowd_sums.nd rfl (by first | exact Or.inl rfl | exact Or.inr rfl))
    (pss_cons (ps_set (i := 5) sc__law_crowd_sums.nd rfl (by first | exact Or.inl rfl | exact Or.inr rfl) (pe_tup (pa_cons pe_int (pa_cons pe_int pa_nil))))
    (pss_cons (ps_for (passes_of rfl) rfl (it_list K (pv 3)) (pg_name (i := 6) sc__law_crowd_sums.nd rfl (by first | exact Or.inl rfl | exact Or.inr rfl))
    (pss_one (ps_set (i := 5) sc__law_crowd_sums.nd rfl (by first | exact Or.inl rfl | exact Or.inr rfl) (pe_def (ok__law_plus (T := T) TX TB) (hr.mono (by decide)) (passes_call tk (fun _ _ _ _ h => h)) (pa_cons (pv 5) (pa_cons (pv 6) pa_nil))))))
    (pss_cons (ps_expr (pe_app K (pv 2) (pa_cons (pv 5) pa_nil)))
    (pss_one (ps_set (i := 3) sc__law_crowd_sums.nd rfl (by first | exact Or.inl rfl | exact Or.inr rfl) (pe_lc (own := [("_law_at", 9)]) rfl sc__law_crowd_sums.nd (pi_range1 rfl (TX.free 76 "range" rfl) (pa_cons (pe_len K (TX.free 68 "len" rfl) (pv 0)) pa_nil)) (blkOk_by (by kernel_rfl)) (fun _ _ _ _ _ => (pg_name (i := 9) sc__law_crowd_sums.nd rfl (by first | exact Or.inl rfl | exact Or.inr rfl))) (fun _ _ _ _ _ => pts_nil) (fun _ _ _ _ _ => (pe_def (ok__law_times (T := T) TX TB) (hr.mono (by decide)) passL (pa_cons (pe_ix (ix_K K) (pv 3) (pv 9) (fun _ _ => rfl)) (pa_cons (pe_ix (ix_K K) (pe_ix (ix_K K) (pv 0) (pv 9) (fun _ _ => rfl)) pe_int (fun _ _ => rfl)) pa_nil)))))))))))
    (pss_one (ps_ret (pv 2)))))), fun c xq hK hT hE => ?_⟩
  subst hK hT
  exact (ds_seq (ds_asg (de_lst da_nil) (dg_name 2))
    (ds_seq (ds_asg (de_comp (vs := [7, 8]) (di_list (de_var 0)) (fun _ => (dg_tup (dgs_cons (dg_name 7) (dgs_cons (dg_name 8) dgs_nil)))) (fun _ => dt_yes) (fun _ => (de_var 8)) (gw_tup2 (by simp) (by simp))) (dg_name 3))
    (ds_seq (ds_for (di_rng1 (da_cons (de_var 1) da_nil)) (dg_name 4)
    (ds_seq (ds_asg (de_tup (da_cons (de_int 0) (da_cons (de_int 1) da_nil))) (dg_name 5))
    (ds_seq (ds_for (di_list (de_var 3)) (dg_name 6)
    (ds_asg (de_call hE (da_cons (de_var 5) (da_cons (de_var 6) da_nil))) (dg_name 5)))
    (ds_seq (ds_app 2 (de_var 5))
    (ds_asg (de_comp (vs := [9]) (di_rng1 (da_cons (de_cb1 d1_len (dp_var 0)) da_nil)) (fun _ => (dg_name 9)) (fun _ => dt_yes) (fun _ => (de_call eok0 (da_cons (de_ixv 3 (dp_var 9)) (da_cons (de_op d2_ix (de_ixv 0 (dp_var 9)) (DE.dp (de_int 0))) da_nil)))) (gw_name (by simp))) (dg_name 3))))))
    (ds_retV 2))))
theorem sc__law_sums : FnScope ["_law_state_here", "_law_many", "_law_way", "_law_found", "_law_at", "_law_k"] ["_law_state_here"] (defScope s__law_sums) := ⟨rfl, rfl, rfl, by decide +kernel, rfl, by decide +kernel, by decide +kernel⟩
theorem ok__law_sums (TX : Txt bk K mg) (TB : TBs bk K mg base T P) : Def P w K mg base T "_law_sums" ["_law_state_here"] 36 F__law_sums := by
  refine TX.def_ 27 27 (st := s__law_sums) rfl rfl sc__law_sums (fun _ _ _ _ _ _ us hl => match us, hl with | [_], _ => rfl) (fun _ _ _ _ h => h.1) (fun _ _ _ _ h => h.2) fun fa cdv A outer s H E hcv hr => ?_
  have tk : Takes (cxOf (L2.CX P w) P w K mg base ["_law_state_here", "_law_many", "_law_way", "_law_found", "_law_at", "_law_k"] "_law_sums" (defScope s__law_sums) fa cdv A outer s H E) (fun cls d _ H => E cls d H) := takes_of rfl rfl rfl rfl
  refine ⟨_, (pss_cons (ps_set (i := 1) sc__law_sums.nd rfl (by first | exact Or.inl rfl | exact Or.inr rfl) (pe_op op_add pe_int (pe_def (ok__law_take (T := T) TX TB) (hr.mono (by decide)) (passes_call tk (fun _ _ _ _ h => h)) (pa_cons (pv 0) (pa_cons pe_int pa_nil)))))
    (pss_cons (ps_set (i := 2) sc__law_sums.nd rfl (by first | exact Or.inl rfl | exact Or.inr rfl) (pe_def (ok__law_take (T := T) TX TB) (hr.mono (by decide)) (passes_call tk (fun _ _ _ _ h => h)) (pa_cons (pv 0) (pa_cons pe_int pa_nil))))
    (pss_cons (ps_if (pt_cmpR (eq_K K hr.units) (pv 2) pe_int (nomark _)) (pss_one (ps_ret (pe_lc (own := [("_law_k", 5)]) rfl sc__law_sums.nd (pi_range1 rfl (TX.free 76 "range" rfl) (pa_cons (pv 1) pa_nil)) (blkOk_by (by kernel_rfl)) (fun _ _ _ _ _ => (pg_name (i := 5) sc__law_sums.nd rfl (by first | exact Or.inl rfl | exact Or.inr rfl))) (fun _ _ _ _ _ => pts_nil) (fun _ _ _ _ _ => (pe_def (ok__law_small (T := T) TX TB) (hr.mono (by decide)) passL (pa_cons (pv 0) pa_nil)))))) pss_nil)
    (pss_cons (ps_if (pt_cmpR (eq_K K hr.units) (pv 2) pe_int (nomark _)) (pss_one (ps_ret (pe_op op_cat (pe_op op_rep (pe_lst (pa_cons (pe_tup (pa_cons pe_int (pa_cons pe_int pa_nil))) pa_nil)) (pe_op op_sub (pv 1) pe_int)) (pe_lst (pa_cons (pe_def (ok__law_small (T := T) TX TB) (hr.mono (by decide)) (passes_call tk (fun _ _ _ _ h => h)) (pa_cons (pv 0) pa_nil)) pa_nil))))) pss_nil)
    (pss_cons (ps_set (i := 3) sc__law_sums.nd rfl (by first | exact Or.inl rfl | exact Or.inr rfl) (pe_def (ok__law_crowd_sums (T := T) TX TB) (hr.mono (by decide)) (passes_call tk (fun _ _ _ _ h => h)) (pa_cons (pe_def (ok__law_crowd (T := T) TX TB) (hr.mono (by decide)) (passes_call tk (fun _ _ _ _ h => h)) (pa_cons (pv 0) (pa_cons (pe_ix (ix_K K) (pe_lst (pa_cons pe_int (pa_cons pe_int (pa_cons pe_int (pa_cons pe_int (pa_cons pe_int pa_nil)))))) (pe_def (ok__law_take (T := T) TX TB) (hr.mono (by decide)) (passes_call tk (fun _ _ _ _ h => h)) (pa_cons (pv 0) (pa_cons pe_int pa_nil))) (fun _ _ => rfl)) pa_nil))) (pa_cons (pv 1) pa_nil))))
    (pss_cons (ps_if (pt_cmpR op_lt (pv 2) pe_int (nomark _)) (pss_cons (ps_set (i := 4) sc__law_sums.nd rfl (by first | exact Or.inl rfl | exact Or.inr rfl) (pe_def (ok__law_take (T := T) TX TB) (hr.mono (by decide)) (passes_call tk (fun _ _ _ _ h => h)) (pa_cons (pv 0) (pa_cons (pv 1) pa_nil))))
    (pss_one (ps_asg (pe_def (ok__law_plus (T := T) TX TB) (hr.mono (by decide)) (passes_call tk (fun _ _ _ _ h => h)) (pa_cons (pe_ix (ix_K K) (pv 3) (pv 4) (fun _ _ => rfl)) (pa_cons (pe_ix (ix_K K) (pe_lst (pa_cons (pe_def (ok__law_small (T := T) TX TB) (hr.mono (by decide)) (passes_call tk (fun _ _ _ _ h => h)) (pa_cons (pv 0) pa_nil)) (pa_cons (pe_tup (pa_cons pe_int (pa_cons pe_int pa_nil))) (pa_cons (pe_tup (pa_cons (pe_un un_neg pe_int) (pa_cons pe_int pa_nil))) pa_nil)))) (pe_def (ok__law_take (T := T) TX TB) (hr.mono (by decide)) (passes_call tk (fun _ _ _ _ h => h)) (pa_cons (pv 0) (pa_cons pe_int pa_nil))) (fun _ _ => rfl)) pa_nil))) (pg_sub (pv 3) (pv 4) set_list)))) pss_nil)
    (pss_one (ps_ret (pv 3))))))))), fun c xq hK hT hE => ?_⟩
  subst hK hT
  exact (ds_seq (ds_asg (de_op d2_add (de_int 1) (DE.dp (de_call hE (da_cons (de_var 0) (da_cons (de_int 11) da_nil))))) (dg_name 1))
    (ds_seq (ds_asg (de_call hE (da_cons (de_var 0) (da_cons (de_int 8) da_nil))) (dg_name 2))
    (ds_seq (ds_if (dt_test (de_opv d2_eq (DE.dp (de_int 0)))) (ds_ret (de_comp (vs := [5]) (di_rng1 (da_cons (de_var 1) da_nil)) (fun _ => (dg_name 5)) (fun _ => dt_yes) (fun _ => (de_call eok0 (da_cons (de_var 0) da_nil))) (gw_name (by simp)))) ds_next)
    (ds_seq (ds_if (dt_test (de_opv d2_eq (DE.dp (de_int 1)))) (ds_ret (de_op d2_cat (de_op d2_rep (de_lst (da_cons (de_tup (da_cons (de_int 0) (da_cons (de_int 1) da_nil))) da_nil)) (DE.dp (de_opv d2_sub (DE.dp (de_int 1))))) (DE.dp (de_lst (da_cons (de_call hE (da_cons (de_var 0) da_nil)) da_nil))))) ds_next)
    (ds_seq (ds_asg (de_call hE (da_cons (de_call hE (da_cons (de_var 0) (da_cons (de_op d2_ix (de_lst (da_cons (de_int 5) (da_cons (de_int 5) (da_cons (de_int 5) (da_cons (de_int 2) (da_cons (de_int 3) da_nil)))))) (DE.dp (de_call hE (da_cons (de_var 0) (da_cons (de_int 5) da_nil))))) da_nil))) (da_cons (de_var 1) da_nil))) (dg_name 3))
    (ds_seq (ds_if (dt_test (de_opv d2_lt (DE.dp (de_int 5)))) (ds_seq (ds_asg (de_call hE (da_cons (de_var 0) (da_cons (de_var 1) da_nil))) (dg_name 4))
    (ds_asg (de_call hE (da_cons (de_ixv 3 (dp_var 4)) (da_cons (de_op d2_ix (de_lst (da_cons (de_call hE (da_cons (de_var 0) da_nil)) (da_cons (de_tup (da_cons (de_int 1) (da_cons (de_int 1) da_nil))) (da_cons (de_tup (da_cons (de_un d1_neg (DE.dp (de_int 1))) (da_cons (de_int 1) da_nil))) da_nil)))) (DE.dp (de_call hE (da_cons (de_var 0) (da_cons (de_int 3) da_nil))))) da_nil))) (dg_sub 3 (dp_var 4)))) ds_next)
    (ds_retV 3)))))))
theorem sc__law_clean : FnScope ["_law_numbers", "_law_many"] ["_law_numbers"] (defScope s__law_clean) := ⟨rfl, rfl, rfl, by decide +kernel, rfl, by decide +kernel, by decide +kernel⟩
theorem ok__law_clean (TX : Txt bk K mg) (TB : TBs bk K mg base T P) : Def P w K mg base T "_law_clean" ["_law_numbers"] 1 F__law_clean := by
  refine TX.def_ 28 28 (st := s__law_clean) rfl rfl sc__law_clean (fun _ _ _ _ _ _ us hl => match us, hl with | [_], _ => rfl) (fun _ _ _ _ h => h.1) (fun _ _ _ _ h => h.2) fun fa cdv A outer s H E hcv hr => ?_
  have tk : Takes (cxOf (L2.CX P w) P w K mg base ["_law_numbers", "_law_many"] "_law_clean" (defScope s__law_clean) fa cdv A outer s H E) (fun cls d _ H => E cls d H) := takes_of rfl rfl rfl rfl
  refine ⟨_, (pss_cons (ps_set (i := 1) sc__law_clean.nd rfl (by first | exact Or.inl rfl | exact Or.inr rfl) (pe_len K (TX.free 68 "len" rfl) (pv 0)))
    (pss_cons (ps_while (passes_of rfl) (PW.pt (pw_and (pt_cmpR op_gt (pv 1) pe_int (nomark _)) (pw_and1 (pt_cmpR (eq_K K hr.units) (pe_ix (ix_K K) (pe_ix (ix_K K) (pv 0) (pe_op op_sub (pv 1) pe_int) (fun _ _ => rfl)) pe_int (fun _ _ => rfl)) pe_int (nomark _))))) (pss_one (ps_set (i := 1) sc__law_clean.nd rfl (by first | exact Or.inl rfl | exact Or.inr rfl) (pe_op op_sub (pv 1) pe_int))))
    (pss_one (ps_ret (pe_list K (TX.free 69 "list" rfl) (pe_slice (sl_K K) (pv 0) po_none (po_some (pv 1)))))))), fun c xq hK hT hE => ?_⟩
  subst hK hT
  exact (ds_seq (ds_asg (de_cb1 d1_len (dp_var 0)) (dg_name 1))
    (ds_seq (ds_while (dt_and (dt_test (de_opv d2_gt (DE.dp (de_int 0)))) (dt_test (de_op d2_eq (de_op d2_ix (de_ixv 0 (DE.dp (de_opv d2_sub (DE.dp (de_int 1))))) (DE.dp (de_int 0))) (DE.dp (de_int 0))))) (ds_asg (de_opv d2_sub (DE.dp (de_int 1))) (dg_name 1)))
    (ds_ret (de_cb1 d1_list (DE.dp (de_slv do_none (do_some (dp_var 1))))))))
theorem sc__law_polynomial : FnScope ["_law_state_here", "_law_most", "_law_place"] ["_law_state_here", "_law_most"] (defScope s__law_polynomial) := ⟨rfl, rfl, rfl, by decide +kernel, rfl, by decide +kernel, by decide +kernel⟩
theorem ok__law_polynomial (TX : Txt bk K mg) (TB : TBs bk K mg base T P) : Def P w K mg base T "_law_polynomial" ["_law_state_here", "_law_most"] 35 F__law_polynomial := by
  refine TX.def_ 29 29 (st := s__law_polynomial) rfl rfl sc__law_polynomial (fun _ _ _ _ _ _ us hl => match us, hl with | [_, _], _ => rfl) (fun _ _ _ _ h => h.1) (fun _ _ _ _ h => h.2) fun fa cdv A outer s H E hcv hr => ?_
  have tk : Takes (cxOf (L2.CX P w) P w K mg base ["_law_state_here", "_law_most", "_law_place"] "_law_polynomial" (defScope s__law_polynomial) fa cdv A outer s H E) (fun cls d _ H => E cls d H) := takes_of rfl rfl rfl rfl
  refine ⟨_, (pss_one (ps_ret (pe_def (ok__law_clean (T := T) TX TB) (hr.mono (by decide)) (passes_call tk (fun _ _ _ _ h => h)) (pa_cons (pe_lc (own := [("_law_place", 2)]) rfl sc__law_polynomial.nd (pi_range1 rfl (TX.free 76 "range" rfl) (pa_cons (pe_def (ok__law_take (T := T) TX TB) (hr.mono (by decide)) (passes_call tk (fun _ _ _ _ h => h)) (pa_cons (pv 0) (pa_cons (pe_op op_add (pv 1) pe_int) pa_nil))) pa_nil)) (blkOk_by (by kernel_rfl)) (fun _ _ _ _ _ => (pg_name (i := 2) sc__law_polynomial.nd rfl (by first | exact Or.inl rfl | exact Or.inr rfl))) (fun _ _ _ _ _ => pts_nil) (fun _ _ _ _ _ => (pe_def (ok__law_small (T := T) TX TB) (hr.mono (by decide)) passL (pa_cons (pv 0) pa_nil)))) pa_nil)))), fun c xq hK hT hE => ?_⟩
  subst hK hT
  exact (ds_ret (de_call hE (da_cons (de_comp (vs := [2]) (di_rng1 (da_cons (de_call hE (da_cons (de_var 0) (da_cons (de_opv d2_add (DE.dp (de_int 1))) da_nil))) da_nil)) (fun _ => (dg_name 2)) (fun _ => dt_yes) (fun _ => (de_call eok0 (da_cons (de_var 0) da_nil))) (gw_name (by simp))) da_nil)))
theorem sc__law_less : FnScope ["_law_one", "_law_other"] ["_law_one", "_law_other"] (defScope s__law_less) := ⟨rfl, rfl, rfl, by decide +kernel, rfl, by decide +kernel, by decide +kernel⟩
theorem ok__law_less (TX : Txt bk K mg) (TB : TBs bk K mg base T P) : Def P w K mg base T "_law_less" ["_law_one", "_law_other"] 1 F__law_less := by
  refine TX.def_ 30 30 (st := s__law_less) rfl rfl sc__law_less (fun _ _ _ _ _ _ us hl => match us, hl with | [_, _], _ => rfl) (fun _ _ _ _ h => h.1) (fun _ _ _ _ h => h.2) fun fa cdv A outer s H E hcv hr => ?_
  have tk : Takes (cxOf (L2.CX P w) P w K mg base ["_law_one", "_law_other"] "_law_less" (defScope s__law_less) fa cdv A outer s H E) (fun cls d _ H => E cls d H) := takes_of rfl rfl rfl rfl
  refine ⟨_, (pss_one (ps_ret (pe_cmpR op_lt (pe_op op_mulX (pe_ix (ix_K K) (pv 0) pe_int (fun _ _ => rfl)) (pe_ix (ix_K K) (pv 1) pe_int (fun _ _ => rfl))) (pe_op op_mulX (pe_ix (ix_K K) (pv 1) pe_int (fun _ _ => rfl)) (pe_ix (ix_K K) (pv 0) pe_int (fun _ _ => rfl))) (nomark _)))), fun c xq hK hT hE => ?_⟩
  subst hK hT
  exact (ds_ret (de_op d2_lt (de_op d2_mul (de_ixv 0 (DE.dp (de_int 0))) (DE.dp (de_ixv 1 (DE.dp (de_int 1))))) (DE.dp (de_op d2_mul (de_ixv 1 (DE.dp (de_int 0))) (DE.dp (de_ixv 0 (DE.dp (de_int 1))))))))
theorem sc__law_same : FnScope ["_law_found", "_law_due", "_law_one", "_law_other"] ["_law_found", "_law_due"] (defScope s__law_same) := ⟨rfl, rfl, rfl, by decide +kernel, rfl, by decide +kernel, by decide +kernel⟩
theorem ok__law_same_ (TX : Txt bk K mg) (TB : TBs bk K mg base T P) : ∀ n : Nat, Def P w K mg base T "_law_same" ["_law_found", "_law_due"] (n + 0) (F__law_same_ n)
  | 0 => (TX.def0 31 31 (st := s__law_same) rfl rfl (fun _ _ _ _ _ _ us hl => match us, hl with | [_, _], _ => rfl)).mono (Nat.zero_le _)
  | n + 1 => by
    have self := ok__law_same_ TX TB n
    have e : n + 1 + 0 = (n + 0) + 1 := by omega
    rw [e]
    refine TX.def_ 31 31 (st := s__law_same) rfl rfl sc__law_same (fun _ _ _ _ _ _ us hl => match us, hl with | [_, _], _ => rfl) (fun _ _ _ _ h => h.1) (fun _ _ _ _ h => h.2) fun fa cdv A outer s H E hcv hr => ?_
    have tk : Takes (cxOf (L2.CX P w) P w K mg base ["_law_found", "_law_due", "_law_one", "_law_other"] "_law_same" (defScope s__law_same) fa cdv A outer s H E) (fun cls d _ H => E cls d H) := takes_of rfl rfl rfl rfl
    refine ⟨_, (pss_cons (ps_if (pt_val (pe_isi2 K (TX.free 63 "isinstance" rfl) (TX.free 67 "tuple" rfl) PyProof.Rows.boot_tuple (TX.free 69 "list" rfl) PyProof.Rows.boot_list (pv 1))) (pss_cons (ps_if (PW.pt (pw_or (pt_cmpR (ne_K K hr.units) (pe_isi K (TX.free 63 "isinstance" rfl) (TX.free 67 "tuple" rfl) PyProof.Rows.boot_tuple (pv 0)) (pe_isi K (TX.free 63 "isinstance" rfl) (TX.free 67 "tuple" rfl) PyProof.Rows.boot_tuple (pv 1)) (nomark _)) (pw_or1 (pt_cmpR (ne_K K hr.units) (pe_isi K (TX.free 63 "isinstance" rfl) (TX.free 69 "list" rfl) PyProof.Rows.boot_list (pv 0)) (pe_isi K (TX.free 63 "isinstance" rfl) (TX.free 69 "list" rfl) PyProof.Rows.boot_list (pv 1)) (nomark _))))) (pss_one (ps_ret pe_bl)) pss_nil)
    (pss_cons (ps_if (pt_cmpR (ne_K K hr.units) (pe_len K (TX.free 68 "len" rfl) (pv 0)) (pe_len K (TX.free 68 "len" rfl) (pv 1)) (nomark _)) (pss_one (ps_ret pe_bl)) pss_nil)
    (pss_one (ps_ret (pe_all K (TX.free 70 "all" rfl) (pe_lc (own := [("_law_one", 2), ("_law_other", 3)]) rfl sc__law_same.nd (it_zip K (TX.free 71 "zip" rfl) (pa_cons (pv 0) (pa_cons (pv 1) pa_nil))) (blkOk_by (by kernel_rfl)) (fun _ _ _ _ _ => (tg_tup K (n := 2) (pgs_cons (pg_name (i := 2) sc__law_same.nd rfl (by first | exact Or.inl rfl | exact Or.inr rfl)) (pgs_cons (pg_name (i := 3) sc__law_same.nd rfl (by first | exact Or.inl rfl | exact Or.inr rfl)) pgs_nil)))) (fun _ _ _ _ _ => pts_nil) (fun _ _ _ _ _ => (pe_def self (hr.mono (by omega)) passL (pa_cons (pv 2) (pa_cons (pv 3) pa_nil)))))))))) pss_nil)
    (pss_one (ps_ret (pe_and (pe_cmpR (eq_K K hr.units) (pv 0) (pv 1) (nomark _)) (pe_one (pe_cmpR (eq_K K hr.units) (pe_isi K (TX.free 63 "isinstance" rfl) (TX.free 65 "bool" rfl) PyProof.Rows.boot_bool (pv 0)) (pe_isi K (TX.free 63 "isinstance" rfl) (TX.free 65 "bool" rfl) PyProof.Rows.boot_bool (pv 1)) (nomark _))))))), fun c xq hK hT hE => ?_⟩
    subst hK hT
    exact (ds_seq (ds_if (dt_B (de_isi2 .tuple .list (dp_var 1))) (ds_seq (ds_if (dt_or (dt_test (de_op d2_ne (de_isi .tuple (dp_var 0)) (DE.dp (de_isi .tuple (dp_var 1))))) (dt_test (de_op d2_ne (de_isi .list (dp_var 0)) (DE.dp (de_isi .list (dp_var 1)))))) (ds_ret (de_bl false)) ds_next)
    (ds_seq (ds_if (dt_test (de_op d2_ne (de_cb1 d1_len (dp_var 0)) (DE.dp (de_cb1 d1_len (dp_var 1))))) (ds_ret (de_bl false)) ds_next)
    (ds_ret (de_cb1 d1_all (DE.dp (de_comp (vs := [2, 3]) (di_zip (da_cons (de_var 0) (da_cons (de_var 1) da_nil))) (fun _ => (dg_tup (dgs_cons (dg_name 2) (dgs_cons (dg_name 3) dgs_nil)))) (fun _ => dt_yes) (fun _ => (de_callB eok0 (dab_var 2 (dab_var 3 dab_nil)))) (gw_tup2 (by simp) (by simp)))))))) ds_next)
    (ds_ret (de_andV (de_opv d2_eq (dp_var 1)) (de_op d2_eq (de_isi .bool (dp_var 0)) (DE.dp (de_isi .bool (dp_var 1)))))))
theorem ok__law_same (TX : Txt bk K mg) (TB : TBs bk K mg base T P) : Def P w K mg base T "_law_same" ["_law_found", "_law_due"] 12 F__law_same := ok__law_same_ TX TB 12
theorem sc__law_refused : FnScope nRef ["_law_call"] (defScope s__law_refused) := ⟨rfl, rfl, rfl, by decide +kernel, rfl, by decide +kernel, by decide +kernel⟩
theorem giv_ref {X : Cx} (TX : Txt bk X.K X.mg) (cdg : Value) (q : Str) : LamX.GivesTo X nRef "_law_refused" (defScope s__law_refused) (He.ga X.K "_law_refused") cdg (defBody s__law_refused) "_law_call" q (TTref X.K T) := by
  have E : ErrF X.K := errB_ok TX.ck
  refine gives_ref E rfl rfl rfl (TX.glo 43 "MomentError" rfl) bref_exc bref_non (fun c hK hT => ?_) (fun s H =>
    (pss_cons (ps_set (i := 3) sc__law_refused.nd rfl (by first | exact Or.inl rfl | exact Or.inr rfl) (pe_lst (pa_cons (pe_isErr X.K (.ref (He.ga X.K "NoFraction")) (TX.free 63 "isinstance" rfl) (pv 1) (pe_glob (v := .ref (He.ga X.K "NoFraction")) rfl (TX.glo 44 "NoFraction" rfl) rfl)) (pa_cons (pe_isErr X.K (.ref (He.ga X.K "NoPolynomial")) (TX.free 63 "isinstance" rfl) (pv 1) (pe_glob (v := .ref (He.ga X.K "NoPolynomial")) rfl (TX.glo 45 "NoPolynomial" rfl) rfl)) (pa_cons (pe_isErr X.K (.ref (He.ga X.K "NoSums")) (TX.free 63 "isinstance" rfl) (pv 1) (pe_glob (v := .ref (He.ga X.K "NoSums")) rfl (TX.glo 46 "NoSums" rfl) rfl)) pa_nil)))))
    (pss_cons (ps_set (i := 3) sc__law_refused.nd rfl (by first | exact Or.inl rfl | exact Or.inr rfl) (pe_op op_cat (pv 3) (pe_lst (pa_cons (pe_isErr X.K (.ref (He.ga X.K "NoFlock")) (TX.free 63 "isinstance" rfl) (pv 1) (pe_glob (v := .ref (He.ga X.K "NoFlock")) rfl (TX.glo 47 "NoFlock" rfl) rfl)) (pa_cons (pe_isErr X.K (.ref (He.ga X.K "NoWalk")) (TX.free 63 "isinstance" rfl) (pv 1) (pe_glob (v := .ref (He.ga X.K "NoWalk")) rfl (TX.glo 48 "NoWalk" rfl) rfl)) (pa_cons (pe_isErr X.K (.ref (He.ga X.K "NoSum")) (TX.free 63 "isinstance" rfl) (pv 1) (pe_glob (v := .ref (He.ga X.K "NoSum")) rfl (TX.glo 49 "NoSum" rfl) rfl)) pa_nil))))))
    (pss_cons (ps_set (i := 3) sc__law_refused.nd rfl (by first | exact Or.inl rfl | exact Or.inr rfl) (pe_op op_cat (pv 3) (pe_lst (pa_cons (pe_isErr X.K (.ref (He.ga X.K "NoDeed")) (TX.free 63 "isinstance" rfl) (pv 1) (pe_glob (v := .ref (He.ga X.K "NoDeed")) rfl (TX.glo 50 "NoDeed" rfl) rfl)) (pa_cons (pe_isErr X.K (.ref (He.ga X.K "NoText")) (TX.free 63 "isinstance" rfl) (pv 1) (pe_glob (v := .ref (He.ga X.K "NoText")) rfl (TX.glo 51 "NoText" rfl) rfl)) (pa_cons (pe_isErr X.K (.ref (He.ga X.K "NoRow")) (TX.free 63 "isinstance" rfl) (pv 1) (pe_glob (v := .ref (He.ga X.K "NoRow")) rfl (TX.glo 52 "NoRow" rfl) rfl)) pa_nil))))))
    (pss_cons (ps_if (pt_not (pt_val (pe_isErr X.K (.type "ValueError") (TX.free 63 "isinstance" rfl) (pv 1) (pe_ty (s := "ValueError") (TX.free 77 "ValueError" rfl) rfl rfl)))) (pss_one (ps_ret pe_non)) pss_nil)
    (pss_one (ps_ret (pe_lc (own := [("_law_k", 4)]) rfl sc__law_refused.nd (pi_range1 rfl (TX.free 76 "range" rfl) (pa_cons pe_int pa_nil)) (blkOk_by (by kernel_rfl)) (fun _ _ _ _ _ => (pg_name (i := 4) sc__law_refused.nd rfl (by first | exact Or.inl rfl | exact Or.inr rfl))) (fun _ _ _ _ _ => (pts_one (pt_val (pe_ix (ix_K X.K) (pv 3) (pv 4) (fun _ _ => rfl))))) (fun _ _ _ _ _ => (pv 4))))))))))
  rw [← hK] at E ⊢
  exact (ds_seq (ds_asg (de_lst (da_cons (de_isE E (by decide)) (da_cons (de_isE E (by decide)) (da_cons (de_isE E (by decide)) da_nil)))) (dg_name 3))
    (ds_seq (ds_asg (de_opv d2_cat (DE.dp (de_lst (da_cons (de_isE E (by decide)) (da_cons (de_isE E (by decide)) (da_cons (de_isE E (by decide)) da_nil)))))) (dg_name 3))
    (ds_seq (ds_asg (de_opv d2_cat (DE.dp (de_lst (da_cons (de_isE E (by decide)) (da_cons (de_isE E (by decide)) (da_cons (de_isE E (by decide)) da_nil)))))) (dg_name 3))
    (ds_seq (ds_if (dt_not (dt_B (de_isV E))) (ds_ret de_non) ds_next)
    (ds_ret (de_comp (vs := [4]) (di_rng1 (da_cons (de_int 9) da_nil)) (fun _ => (dg_name 4)) (fun _ => (dt_B (de_ixv 3 (dp_var 4)))) (fun _ => (de_var 4)) (gw_name (by simp))))))))
theorem sc__law_word : FnScope ["_law_one"] ["_law_one"] (defScope s__law_word) := ⟨rfl, rfl, rfl, by decide +kernel, rfl, by decide +kernel, by decide +kernel⟩
theorem ok__law_word (TX : Txt bk K mg) (TB : TBs bk K mg base T P) : Def P w K mg base T "_law_word" ["_law_one"] 1 F__law_word := by
  refine TX.def_ 33 33 (st := s__law_word) rfl rfl sc__law_word (fun _ _ _ _ _ _ us hl => match us, hl with | [_], _ => rfl) (fun _ _ _ _ h => h.1) (fun _ _ _ _ h => h.2) fun fa cdv A outer s H E hcv hr => ?_
  have tk : Takes (cxOf (L2.CX P w) P w K mg base ["_law_one"] "_law_word" (defScope s__law_word) fa cdv A outer s H E) (fun cls d _ H => E cls d H) := takes_of rfl rfl rfl rfl
  refine ⟨_, (pss_cons (ps_if (pt_cmpR (eq_K K hr.units) (pe_ix (ix_K K) (pv 0) pe_int (fun _ _ => rfl)) pe_int (nomark _)) (pss_one (ps_ret (pe_strI (TX.free 72 "str" rfl) (pe_ix (ix_K K) (pv 0) pe_int (fun _ _ => rfl))))) pss_nil)
    (pss_one (ps_ret (pe_op op_add_str (pe_op op_add_str (pe_strI (TX.free 72 "str" rfl) (pe_ix (ix_K K) (pv 0) pe_int (fun _ _ => rfl))) pe_str) (pe_strI (TX.free 72 "str" rfl) (pe_ix (ix_K K) (pv 0) pe_int (fun _ _ => rfl))))))), fun c xq hK hT hE => ?_⟩
  subst hK hT
  exact (ds_seq (ds_if (dt_test (de_op d2_eq (de_ixv 0 (DE.dp (de_int 1))) (DE.dp (de_int 1)))) (ds_ret (de_cb1 d1_strI (DE.dp (de_ixv 0 (DE.dp (de_int 0)))))) ds_next)
    (ds_ret (de_op d2_catS (de_op d2_catS (de_cb1 d1_strI (DE.dp (de_ixv 0 (DE.dp (de_int 0))))) (DE.dp (de_str "/"))) (DE.dp (de_cb1 d1_strI (DE.dp (de_ixv 0 (DE.dp (de_int 1)))))))))
theorem sc__law_whole_in : FnScope ["_law_word_here", "_law_figures", "_law_number", "_law_sign"] ["_law_word_here"] (defScope s__law_whole_in) := ⟨rfl, rfl, rfl, by decide +kernel, rfl, by decide +kernel, by decide +kernel⟩
theorem ok__law_whole_in (TX : Txt bk K mg) (TB : TBs bk K mg base T P) : Def P w K mg base T "_law_whole_in" ["_law_word_here"] 1 F__law_whole_in := by
  refine TX.def_ 34 34 (st := s__law_whole_in) rfl rfl sc__law_whole_in (fun _ _ _ _ _ _ us hl => match us, hl with | [_], _ => rfl) (fun _ _ _ _ h => h.1) (fun _ _ _ _ h => h.2) fun fa cdv A outer s H E hcv hr => ?_
  have tk : Takes (cxOf (L2.CX P w) P w K mg base ["_law_word_here", "_law_figures", "_law_number", "_law_sign"] "_law_whole_in" (defScope s__law_whole_in) fa cdv A outer s H E) (fun cls d _ H => E cls d H) := takes_of rfl rfl rfl rfl
  refine ⟨_, (pss_cons (ps_set (i := 1) sc__law_whole_in.nd rfl (by first | exact Or.inl rfl | exact Or.inr rfl) (pe_ifExp (pt_cmpR (eq_K K hr.units) (pe_slice sl_str (pv 0) po_none (po_some pe_int)) pe_str (nomark _)) (pe_slice sl_str (pv 0) (po_some pe_int) po_none) (pv 0)))
    (pss_cons (ps_if (PW.pt (pw_or (pt_cmpR (eq_K K hr.units) (pv 1) pe_str (nomark _)) (pw_or1 (pt_cmpR (neE_K K hr.units) (pe_lc (own := [("_law_sign", 3)]) rfl sc__law_whole_in.nd (pi_str (pv 1)) (blkOk_by (by kernel_rfl)) (fun _ _ _ _ _ => (pg_name (i := 3) sc__law_whole_in.nd rfl (by first | exact Or.inl rfl | exact Or.inr rfl))) (fun _ _ _ _ _ => (pts_one (pt_cmpR op_notInSX (pv 3) pe_str (by rfl)))) (fun _ _ _ _ _ => (pv 3))) (pe_lst pa_nil) (nomark _))))) (pss_one (ps_ret pe_non)) pss_nil)
    (pss_cons (ps_set (i := 2) sc__law_whole_in.nd rfl (by first | exact Or.inl rfl | exact Or.inr rfl) (pe_op op_mulX (pe_intS (TX.free 64 "int" rfl) (pv 1)) (pe_ix (ix_K K) (pe_lst (pa_cons pe_int (pa_cons (pe_un un_neg pe_int) pa_nil))) (pe_int' (TX.free 64 "int" rfl) (pe_cmpR (eq_K K hr.units) (pe_ix (ix_K K) (pv 0) pe_int (fun _ _ => rfl)) pe_str (nomark _))) (fun _ _ => rfl))))
    (pss_one (ps_ret (pe_ifExp (pt_cmpR (eq_K K hr.units) (pe_strI (TX.free 72 "str" rfl) (pv 2)) (pv 0) (nomark _)) (pv 2) pe_non)))))), fun c xq hK hT hE => ?_⟩
  subst hK hT
  exact (ds_seq (ds_asg (de_if (dt_test (de_op d2_eq (de_slS (de_var 0) do_none (do_some (DE.dp (de_int 1)))) (DE.dp (de_str "-")))) (de_slS (de_var 0) (do_some (DE.dp (de_int 1))) do_none) (de_var 0)) (dg_name 1))
    (ds_seq (ds_if (dt_or (dt_test (de_opv d2_eq (DE.dp (de_str "")))) (dt_test (de_op d2_neE (de_comp (vs := [3]) (di_str (de_var 1)) (fun _ => (dg_name 3)) (fun _ => (dt_test (de_opv d2_notInS (DE.dp (de_str "0123456789"))))) (fun _ => (de_var 3)) (gw_name (by simp))) (DE.dp (de_lst da_nil))))) (ds_ret de_non) ds_next)
    (ds_seq (ds_asg (de_op d2_mul (de_cb1 d1_intS (dp_var 1)) (DE.dp (de_op d2_ix (de_lst (da_cons (de_int 1) (da_cons (de_un d1_neg (DE.dp (de_int 1))) da_nil))) (DE.dp (de_cb1 d1_int (DE.dp (de_op d2_eq (de_op d2_ixS (de_var 0) (DE.dp (de_int 0))) (DE.dp (de_str "-"))))))))) (dg_name 2))
    (ds_ret (de_if (dt_test (de_op d2_eq (de_cb1 d1_strI (dp_var 2)) (dp_var 0))) (de_var 2) de_non)))))
theorem sc__law_fraction_in : FnScope ["_law_word_here", "_law_some", "_law_part"] ["_law_word_here"] (defScope s__law_fraction_in) := ⟨rfl, rfl, rfl, by decide +kernel, rfl, by decide +kernel, by decide +kernel⟩
theorem ok__law_fraction_in (TX : Txt bk K mg) (TB : TBs bk K mg base T P) : Def P w K mg base T "_law_fraction_in" ["_law_word_here"] 2 F__law_fraction_in := by
  refine TX.def_ 35 35 (st := s__law_fraction_in) rfl rfl sc__law_fraction_in (fun _ _ _ _ _ _ us hl => match us, hl with | [_], _ => rfl) (fun _ _ _ _ h => h.1) (fun _ _ _ _ h => h.2) fun fa cdv A outer s H E hcv hr => ?_
  have tk : Takes (cxOf (L2.CX P w) P w K mg base ["_law_word_here", "_law_some", "_law_part"] "_law_fraction_in" (defScope s__law_fraction_in) fa cdv A outer s H E) (fun cls d _ H => E cls d H) := takes_of rfl rfl rfl rfl
  refine ⟨_, (pss_cons (ps_setLc (i := 1) (own := [("_law_part", 2)]) rfl sc__law_fraction_in.nd rfl rfl (sw_true rfl rfl rfl (by decide +kernel)) (it_list K (pe_splitS (pv 0) pe_str)) (blkOk_by (by kernel_rfl)) (fun _ _ _ _ _ => (pg_name (i := 2) sc__law_fraction_in.nd rfl (by first | exact Or.inl rfl | exact Or.inr rfl))) (fun _ _ _ _ _ => pts_nil) (fun _ _ _ _ _ => (pe_def (ok__law_whole_in (T := T) TX TB) (hr.mono (by decide)) passL (pa_cons (pv 2) pa_nil))))
    (pss_cons (ps_if (PW.pt (pw_or (pt_cmpR (in_K K (units65 hr)) pe_non (pv 1) (by rfl)) (pw_or1 (pt_cmpR op_gt (pe_len K (TX.free 68 "len" rfl) (pv 1)) pe_int (nomark _))))) (pss_one (ps_ret pe_non)) pss_nil)
    (pss_cons (ps_if (pt_cmpR (eq_K K hr.units) (pe_len K (TX.free 68 "len" rfl) (pv 1)) pe_int (nomark _)) (pss_one (ps_ret (pe_tup (pa_cons (pe_ix (ix_K K) (pv 1) pe_int (fun _ _ => rfl)) (pa_cons pe_int pa_nil))))) pss_nil)
    (pss_cons (ps_if (PW.pt (pw_or (pt_cmpR op_lt (pe_ix (ix_K K) (pv 1) pe_int (fun _ _ => rfl)) pe_int (nomark _)) (pw_or1 (pt_cmpR (ne_K K hr.units) (pe_def (ok__law_divisor (T := T) TX TB) (hr.mono (by decide)) (passes_call tk (fun _ _ _ _ h => h)) (pa_cons (pe_ix (ix_K K) (pv 1) pe_int (fun _ _ => rfl)) (pa_cons (pe_ix (ix_K K) (pv 1) pe_int (fun _ _ => rfl)) pa_nil))) pe_int (nomark _))))) (pss_one (ps_ret pe_non)) pss_nil)
    (pss_one (ps_ret (pe_tup (pa_cons (pe_ix (ix_K K) (pv 1) pe_int (fun _ _ => rfl)) (pa_cons (pe_ix (ix_K K) (pv 1) pe_int (fun _ _ => rfl)) pa_nil))))))))), fun c xq hK hT hE => ?_⟩
  subst hK hT
  exact (ds_seq (ds_asg (de_comp (vs := [2]) (di_list (de_m1 d2_split (de_var 0) (DE.dp (de_str "/")))) (fun _ => (dg_name 2)) (fun _ => dt_yes) (fun _ => (de_callB eok0 (dab_var 2 dab_nil))) (gw_name (by simp))) (dg_name 1))
    (ds_seq (ds_if (dt_or (dt_test (de_op d2_in de_non (dp_var 1))) (dt_test (de_op d2_gt (de_cb1 d1_len (dp_var 1)) (DE.dp (de_int 2))))) (ds_ret de_non) ds_next)
    (ds_seq (ds_if (dt_test (de_op d2_eq (de_cb1 d1_len (dp_var 1)) (DE.dp (de_int 1)))) (ds_ret (de_tup (da_cons (de_ixv 1 (DE.dp (de_int 0))) (da_cons (de_int 1) da_nil)))) ds_next)
    (ds_seq (ds_if (dt_or (dt_test (de_op d2_lt (de_ixv 1 (DE.dp (de_int 1))) (DE.dp (de_int 2)))) (dt_test (de_op d2_ne (de_call hE (da_cons (de_ixv 1 (DE.dp (de_int 0))) (da_cons (de_ixv 1 (DE.dp (de_int 1))) da_nil))) (DE.dp (de_int 1))))) (ds_ret de_non) ds_next)
    (ds_ret (de_tup (da_cons (de_ixv 1 (DE.dp (de_int 0))) (da_cons (de_ixv 1 (DE.dp (de_int 1))) da_nil))))))))
theorem sc__law_sums_in : FnScope ["_law_text", "_law_found", "_law_word_here"] ["_law_text"] (defScope s__law_sums_in) := ⟨rfl, rfl, rfl, by decide +kernel, rfl, by decide +kernel, by decide +kernel⟩
theorem ok__law_sums_in (TX : Txt bk K mg) (TB : TBs bk K mg base T P) : Def P w K mg base T "_law_sums_in" ["_law_text"] 3 F__law_sums_in := by
  refine TX.def_ 36 36 (st := s__law_sums_in) rfl rfl sc__law_sums_in (fun _ _ _ _ _ _ us hl => match us, hl with | [_], _ => rfl) (fun _ _ _ _ h => h.1) (fun _ _ _ _ h => h.2) fun fa cdv A outer s H E hcv hr => ?_
  have tk : Takes (cxOf (L2.CX P w) P w K mg base ["_law_text", "_law_found", "_law_word_here"] "_law_sums_in" (defScope s__law_sums_in) fa cdv A outer s H E) (fun cls d _ H => E cls d H) := takes_of rfl rfl rfl rfl
  refine ⟨_, (pss_cons (ps_setLc (i := 1) (own := [("_law_word_here", 2)]) rfl sc__law_sums_in.nd rfl rfl (sw_true rfl rfl rfl (by decide +kernel)) (it_list K (pe_splitS (pv 0) pe_str)) (blkOk_by (by kernel_rfl)) (fun _ _ _ _ _ => (pg_name (i := 2) sc__law_sums_in.nd rfl (by first | exact Or.inl rfl | exact Or.inr rfl))) (fun _ _ _ _ _ => pts_nil) (fun _ _ _ _ _ => (pe_def (ok__law_fraction_in (T := T) TX TB) (hr.mono (by decide)) passL (pa_cons (pv 2) pa_nil))))
    (pss_one (ps_ret (pe_ifExp (pt_cmpR (in_K K (units65 hr)) pe_non (pv 1) (by rfl)) pe_non (pv 1))))), fun c xq hK hT hE => ?_⟩
  subst hK hT
  exact (ds_seq (ds_asg (de_comp (vs := [2]) (di_list (de_m1 d2_split (de_var 0) (DE.dp (de_str " ")))) (fun _ => (dg_name 2)) (fun _ => dt_yes) (fun _ => (de_call eok0 (da_cons (de_var 2) da_nil))) (gw_name (by simp))) (dg_name 1))
    (ds_ret (de_if (dt_test (de_op d2_in de_non (dp_var 1))) de_non (de_var 1))))
theorem sc__law_polynomial_in : FnScope ["_law_text", "_law_found"] ["_law_text"] (defScope s__law_polynomial_in) := ⟨rfl, rfl, rfl, by decide +kernel, rfl, by decide +kernel, by decide +kernel⟩
theorem ok__law_polynomial_in (TX : Txt bk K mg) (TB : TBs bk K mg base T P) : Def P w K mg base T "_law_polynomial_in" ["_law_text"] 4 F__law_polynomial_in := by
  refine TX.def_ 37 37 (st := s__law_polynomial_in) rfl rfl sc__law_polynomial_in (fun _ _ _ _ _ _ us hl => match us, hl with | [_], _ => rfl) (fun _ _ _ _ h => h.1) (fun _ _ _ _ h => h.2) fun fa cdv A outer s H E hcv hr => ?_
  have tk : Takes (cxOf (L2.CX P w) P w K mg base ["_law_text", "_law_found"] "_law_polynomial_in" (defScope s__law_polynomial_in) fa cdv A outer s H E) (fun cls d _ H => E cls d H) := takes_of rfl rfl rfl rfl
  refine ⟨_, (pss_cons (ps_if (pt_cmpR (eq_K K hr.units) (pv 0) pe_str (nomark _)) (pss_one (ps_ret (pe_lst pa_nil))) pss_nil)
    (pss_cons (ps_set (i := 1) sc__law_polynomial_in.nd rfl (by first | exact Or.inl rfl | exact Or.inr rfl) (pe_def (ok__law_sums_in (T := T) TX TB) (hr.mono (by decide)) (passes_call tk (fun _ _ _ _ h => h)) (pa_cons (pv 0) pa_nil)))
    (pss_one (ps_ret (pe_ifExp (PW.pt (pw_or (pt_cmpR op_isN (pv 1) pe_non (nomark _)) (pw_or1 (pt_cmpR (eq_K K hr.units) (pe_ix (ix_K K) (pe_ix (ix_K K) (pv 1) (pe_un un_neg pe_int) (fun _ _ => rfl)) pe_int (fun _ _ => rfl)) pe_int (nomark _))))) pe_non (pv 1)))))), fun c xq hK hT hE => ?_⟩
  subst hK hT
  exact (ds_seq (ds_if (dt_test (de_opv d2_eq (DE.dp (de_str "nought")))) (ds_ret (de_lst da_nil)) ds_next)
    (ds_seq (ds_asg (de_call hE (da_cons (de_var 0) da_nil)) (dg_name 1))
    (ds_ret (de_if (dt_or (dt_test (de_opv d2_isN (DE.dp de_non))) (dt_test (de_op d2_eq (de_op d2_ix (de_ixv 1 (DE.dp (de_un d1_neg (DE.dp (de_int 1))))) (DE.dp (de_int 0))) (DE.dp (de_int 0))))) de_non (de_var 1)))))
theorem sc__law_crowd_in : FnScope ["_law_text", "_law_found", "_law_word_here", "_law_parts", "_law_some", "_law_part"] ["_law_text"] (defScope s__law_crowd_in) := ⟨rfl, rfl, rfl, by decide +kernel, rfl, by decide +kernel, by decide +kernel⟩
theorem ok__law_crowd_in (TX : Txt bk K mg) (TB : TBs bk K mg base T P) : Def P w K mg base T "_law_crowd_in" ["_law_text"] 3 F__law_crowd_in := by
  refine TX.def_ 38 38 (st := s__law_crowd_in) rfl rfl sc__law_crowd_in (fun _ _ _ _ _ _ us hl => match us, hl with | [_], _ => rfl) (fun _ _ _ _ h => h.1) (fun _ _ _ _ h => h.2) fun fa cdv A outer s H E hcv hr => ?_
  have tk : Takes (cxOf (L2.CX P w) P w K mg base ["_law_text", "_law_found", "_law_word_here", "_law_parts", "_law_some", "_law_part"] "_law_crowd_in" (defScope s__law_crowd_in) fa cdv A outer s H E) (fun cls d _ H => E cls d H) := takes_of rfl rfl rfl rfl
  refine ⟨_, (pss_cons (ps_if (pt_cmpR (eq_K K hr.units) (pv 0) pe_str (nomark _)) (pss_one (ps_ret (pe_lst pa_nil))) pss_nil)
    (pss_cons (ps_set (i := 1) sc__law_crowd_in.nd rfl (by first | exact Or.inl rfl | exact Or.inr rfl) (pe_lst pa_nil))
    (pss_cons (ps_for (passes_of rfl) rfl (it_list K (pe_splitS (pv 0) pe_str)) (pg_name (i := 2) sc__law_crowd_in.nd rfl (by first | exact Or.inl rfl | exact Or.inr rfl))
    (pss_cons (ps_set (i := 3) sc__law_crowd_in.nd rfl (by first | exact Or.inl rfl | exact Or.inr rfl) (pe_splitS (pv 2) pe_str))
    (pss_cons (ps_setLc (i := 4) (own := [("_law_part", 5)]) rfl sc__law_crowd_in.nd rfl rfl (sw_true rfl rfl rfl (by decide +kernel)) (it_list K (pv 3)) (blkOk_by (by kernel_rfl)) (fun _ _ _ _ _ => (pg_name (i := 5) sc__law_crowd_in.nd rfl (by first | exact Or.inl rfl | exact Or.inr rfl))) (fun _ _ _ _ _ => pts_nil) (fun _ _ _ _ _ => (pe_def (ok__law_fraction_in (T := T) TX TB) (hr.mono (by decide)) passL (pa_cons (pv 5) pa_nil))))
    (pss_cons (ps_if (PW.pt (pw_or (pt_cmpR (ne_K K hr.units) (pe_len K (TX.free 68 "len" rfl) (pv 3)) pe_int (nomark _)) (pw_or (pt_cmpR (in_K K (units65 hr)) pe_non (pv 4) (by rfl)) (pw_or1 (pt_cmpR op_le (pe_ix (ix_K K) (pe_ix (ix_K K) (pv 4) pe_int (fun _ _ => rfl)) pe_int (fun _ _ => rfl)) pe_int (nomark _)))))) (pss_one (ps_ret pe_non)) pss_nil)
    (pss_cons (ps_if (PW.pt (pw_and (pt_cmpR (neE_K K hr.units) (pv 1) (pe_lst pa_nil) (nomark _)) (pw_and1 (pt_not (pt_val (pe_def (ok__law_less (T := T) TX TB) (hr.mono (by decide)) (passes_call tk (fun _ _ _ _ h => h)) (pa_cons (pe_ix (ix_K K) (pe_ix (ix_K K) (pv 1) (pe_un un_neg pe_int) (fun _ _ => rfl)) pe_int (fun _ _ => rfl)) (pa_cons (pe_ix (ix_K K) (pv 4) pe_int (fun _ _ => rfl)) pa_nil)))))))) (pss_one (ps_ret pe_non)) pss_nil)
    (pss_one (ps_expr (pe_app K (pv 1) (pa_cons (pe_tup (pa_cons (pe_ix (ix_K K) (pv 4) pe_int (fun _ _ => rfl)) (pa_cons (pe_ix (ix_K K) (pv 4) pe_int (fun _ _ => rfl)) pa_nil))) pa_nil)))))))))
    (pss_one (ps_ret (pv 1)))))), fun c xq hK hT hE => ?_⟩
  subst hK hT
  exact (ds_seq (ds_if (dt_test (de_opv d2_eq (DE.dp (de_str "none")))) (ds_ret (de_lst da_nil)) ds_next)
    (ds_seq (ds_asg (de_lst da_nil) (dg_name 1))
    (ds_seq (ds_for (di_list (de_m1 d2_split (de_var 0) (DE.dp (de_str " ")))) (dg_name 2)
    (ds_seq (ds_asg (de_m1 d2_split (de_var 2) (DE.dp (de_str ":"))) (dg_name 3))
    (ds_seq (ds_asg (de_compB (vs := [5]) (fun _ _ => (dg_name 5)) (fun _ _ => dt_yes) (fun _ _ => (de_call eok0 (da_cons (de_var 5) da_nil))) (gw_name (by simp))) (dg_name 4))
    (ds_seq (ds_if (dt_or (dt_test (de_op d2_ne (de_cb1 d1_len (dp_var 3)) (DE.dp (de_int 2)))) (dt_or (dt_test (de_op d2_in de_non (dp_var 4))) (dt_test (de_op d2_le (de_op d2_ix (de_ixv 4 (DE.dp (de_int 1))) (DE.dp (de_int 0))) (DE.dp (de_int 0)))))) (ds_ret de_non) ds_next)
    (ds_seq (ds_if (dt_and (dt_test (de_opv d2_neE (DE.dp (de_lst da_nil)))) (dt_not (dt_B (de_call hE (da_cons (de_op d2_ix (de_ixv 1 (DE.dp (de_un d1_neg (DE.dp (de_int 1))))) (DE.dp (de_int 0))) (da_cons (de_ixv 4 (DE.dp (de_int 0))) da_nil)))))) (ds_ret de_non) ds_next)
    (ds_app 1 (de_tup (da_cons (de_ixv 4 (DE.dp (de_int 0))) (da_cons (de_ixv 4 (DE.dp (de_int 1))) da_nil)))))))))
    (ds_retV 1))))
theorem sc__law_bent : FnScope ["_law_state_here", "_law_text", "_law_way", "_law_at", "_law_sign", "_law_words", "_law_k", "_law_odd"] ["_law_state_here", "_law_text"] (defScope s__law_bent) := ⟨rfl, rfl, rfl, by decide +kernel, rfl, by decide +kernel, by decide +kernel⟩
theorem ok__law_bent (TX : Txt bk K mg) (TB : TBs bk K mg base T P) : Def P w K mg base T "_law_bent" ["_law_state_here", "_law_text"] 34 F__law_bent := by
  refine TX.def_ 39 39 (st := s__law_bent) rfl rfl sc__law_bent (fun _ _ _ _ _ _ us hl => match us, hl with | [_, _], _ => rfl) (fun _ _ _ _ h => h.1) (fun _ _ _ _ h => h.2) fun fa cdv A outer s H E hcv hr => ?_
  have tk : Takes (cxOf (L2.CX P w) P w K mg base ["_law_state_here", "_law_text", "_law_way", "_law_at", "_law_sign", "_law_words", "_law_k", "_law_odd"] "_law_bent" (defScope s__law_bent) fa cdv A outer s H E) (fun cls d _ H => E cls d H) := takes_of rfl rfl rfl rfl
  refine ⟨_, (pss_cons (ps_set (i := 2) sc__law_bent.nd rfl (by first | exact Or.inl rfl | exact Or.inr rfl) (pe_def (ok__law_take (T := T) TX TB) (hr.mono (by decide)) (passes_call tk (fun _ _ _ _ h => h)) (pa_cons (pv 0) (pa_cons pe_int pa_nil))))
    (pss_cons (ps_set (i := 3) sc__law_bent.nd rfl (by first | exact Or.inl rfl | exact Or.inr rfl) (pe_def (ok__law_take (T := T) TX TB) (hr.mono (by decide)) (passes_call tk (fun _ _ _ _ h => h)) (pa_cons (pv 0) (pa_cons (pe_op op_add (pe_len K (TX.free 68 "len" rfl) (pv 1)) pe_int) pa_nil))))
    (pss_cons (ps_set (i := 4) sc__law_bent.nd rfl (by first | exact Or.inl rfl | exact Or.inr rfl) (pe_ix (ix_K K) pe_str (pe_def (ok__law_take (T := T) TX TB) (hr.mono (by decide)) (passes_call tk (fun _ _ _ _ h => h)) (pa_cons (pv 0) (pa_cons pe_int pa_nil))) (fun _ _ => rfl)))
    (pss_cons (ps_if (pt_cmpR op_lt (pv 2) pe_int (nomark _)) (pss_one (ps_ret (pe_ix (ix_K K) (pe_lst (pa_cons (pe_op op_add_str (pe_slice sl_str (pv 1) po_none (po_some (pv 3))) (pe_slice sl_str (pv 1) (po_some (pe_op op_add (pv 3) pe_int)) po_none)) (pa_cons (pe_op op_add_str (pe_op op_add_str (pe_slice sl_str (pv 1) po_none (po_some (pv 3))) (pv 4)) (pe_slice sl_str (pv 1) (po_some (pv 3)) po_none)) (pa_cons (pe_op op_add_str (pe_op op_add_str (pe_slice sl_str (pv 1) po_none (po_some (pv 3))) (pv 4)) (pe_slice sl_str (pv 1) (po_some (pe_op op_add (pv 3) pe_int)) po_none)) pa_nil)))) (pv 2) (fun _ _ => rfl)))) pss_nil)
    (pss_cons (ps_set (i := 5) sc__law_bent.nd rfl (by first | exact Or.inl rfl | exact Or.inr rfl) (pe_splitS (pv 1) pe_str))
    (pss_cons (ps_set (i := 6) sc__law_bent.nd rfl (by first | exact Or.inl rfl | exact Or.inr rfl) (pe_def (ok__law_take (T := T) TX TB) (hr.mono (by decide)) (passes_call tk (fun _ _ _ _ h => h)) (pa_cons (pv 0) (pa_cons (pe_len K (TX.free 68 "len" rfl) (pv 5)) pa_nil))))
    (pss_cons (ps_if (pt_cmpR (eq_K K hr.units) (pv 2) pe_int (nomark _)) (pss_one (ps_expr (pe_popAt K (pv 5) (pa_cons (pv 6) pa_nil)))) (pss_one (ps_if (pt_cmpR (eq_K K hr.units) (pv 2) pe_int (nomark _)) (pss_one (ps_expr (pe_ins K (pv 5) (pa_cons (pe_def (ok__law_take (T := T) TX TB) (hr.mono (by decide)) (passes_call tk (fun _ _ _ _ h => h)) (pa_cons (pv 0) (pa_cons (pe_len K (TX.free 68 "len" rfl) (pv 5)) pa_nil))) (pa_cons (pe_ix (ix_K K) (pv 5) (pv 6) (fun _ _ => rfl)) pa_nil))))) (pss_one (ps_if (pt_cmpR (eq_K K hr.units) (pv 2) pe_int (nomark _)) (pss_cons (ps_set (i := 7) sc__law_bent.nd rfl (by first | exact Or.inl rfl | exact Or.inr rfl) (pe_lst (pa_cons pe_str (pa_cons pe_str (pa_cons pe_str (pa_cons pe_str (pa_cons pe_str (pa_cons pe_str (pa_cons pe_str (pa_cons pe_str (pa_cons pe_str (pa_cons pe_str (pa_cons pe_str (pa_cons pe_str pa_nil))))))))))))))
    (pss_one (ps_asg (pe_ix (ix_K K) (pv 7) (pe_def (ok__law_take (T := T) TX TB) (hr.mono (by decide)) (passes_call tk (fun _ _ _ _ h => h)) (pa_cons (pv 0) (pa_cons pe_int pa_nil))) (fun _ _ => rfl)) (pg_sub (pv 5) (pv 6) set_list)))) (pss_one (ps_if (pt_cmpR (eq_K K hr.units) (pv 2) pe_int (nomark _)) (pss_one (ps_expr (pe_ins K (pv 5) (pa_cons (pv 6) (pa_cons (pe_pop K (pv 5)) pa_nil))))) pss_nil)))))))
    (pss_one (ps_ret (pe_joinS K pe_str (pv 5))))))))))), fun c xq hK hT hE => ?_⟩
  subst hK hT
  exact (ds_seq (ds_asg (de_call hE (da_cons (de_var 0) (da_cons (de_int 8) da_nil))) (dg_name 2))
    (ds_seq (ds_asg (de_call hE (da_cons (de_var 0) (da_cons (de_op d2_add (de_cb1 d1_len (dp_var 1)) (DE.dp (de_int 1))) da_nil))) (dg_name 3))
    (ds_seq (ds_asg (de_op d2_ixS (de_str "0123 -/:9n+._e7") (DE.dp (de_call hE (da_cons (de_var 0) (da_cons (de_int 15) da_nil))))) (dg_name 4))
    (ds_seq (ds_if (dt_test (de_opv d2_lt (DE.dp (de_int 3)))) (ds_ret (de_op d2_ix (de_lst (da_cons (de_op d2_catS (de_slS (de_var 1) do_none (do_some (dp_var 3))) (DE.dp (de_slS (de_var 1) (do_some (DE.dp (de_opv d2_add (DE.dp (de_int 1))))) do_none))) (da_cons (de_op d2_catS (de_op d2_catS (de_slS (de_var 1) do_none (do_some (dp_var 3))) (dp_var 4)) (DE.dp (de_slS (de_var 1) (do_some (dp_var 3)) do_none))) (da_cons (de_op d2_catS (de_op d2_catS (de_slS (de_var 1) do_none (do_some (dp_var 3))) (dp_var 4)) (DE.dp (de_slS (de_var 1) (do_some (DE.dp (de_opv d2_add (DE.dp (de_int 1))))) do_none))) da_nil)))) (dp_var 2))) ds_next)
    (ds_seq (ds_asg (de_m1 d2_split (de_var 1) (DE.dp (de_str " "))) (dg_name 5))
    (ds_seq (ds_asg (de_call hE (da_cons (de_var 0) (da_cons (de_cb1 d1_len (dp_var 5)) da_nil))) (dg_name 6))
    (ds_seq (ds_if (dt_test (de_opv d2_eq (DE.dp (de_int 3)))) (ds_popAt 5 (da_cons (de_var 6) da_nil)) (ds_if (dt_test (de_opv d2_eq (DE.dp (de_int 4)))) (ds_ins 5 (da_cons (de_call hE (da_cons (de_var 0) (da_cons (de_cb1 d1_len (dp_var 5)) da_nil))) (da_cons (de_ixv 5 (dp_var 6)) da_nil))) (ds_if (dt_test (de_opv d2_eq (DE.dp (de_int 5)))) (ds_seq (ds_asg (de_lst (da_cons (de_str "0") (da_cons (de_str "-0") (da_cons (de_str "01") (da_cons (de_str "2/4") (da_cons (de_str "1/1") (da_cons (de_str "1/0") (da_cons (de_str "") (da_cons (de_str "nought") (da_cons (de_str "none") (da_cons (de_str "3/-2") (da_cons (de_str "1:0") (da_cons (de_str "5:1") da_nil))))))))))))) (dg_name 7))
    (ds_asg (de_ixv 7 (DE.dp (de_call hE (da_cons (de_var 0) (da_cons (de_int 12) da_nil))))) (dg_sub 5 (dp_var 6)))) (ds_if (dt_test (de_opv d2_eq (DE.dp (de_int 6)))) (ds_ins 5 (da_cons (de_var 6) (da_cons (de_pop 5) da_nil))) ds_next))))
    (ds_ret (de_m1 d2_join (de_str " ") (dp_var 5))))))))))
theorem funs_ok__law_right (TX : Txt bk K mg) (TB : TBs bk K mg base T P) : ∀ n f, (names__law_right)[n]? = some f → ∃ ps, Def P w K mg base T f ps 5 (fun__law_right n)
  | 0, _, h => by obtain rfl := Option.some.inj h; exact ⟨_, (ok_read_sums TX TB).mono (by decide)⟩
  | 1, _, h => by obtain rfl := Option.some.inj h; exact ⟨_, (ok__law_sums_in TX TB).mono (by decide)⟩
  | 2, _, h => by obtain rfl := Option.some.inj h; exact ⟨_, (ok_read_polynomial TX TB).mono (by decide)⟩
  | 3, _, h => by obtain rfl := Option.some.inj h; exact ⟨_, (ok__law_polynomial_in TX TB).mono (by decide)⟩
  | 4, _, h => by obtain rfl := Option.some.inj h; exact ⟨_, (ok_read_crowd TX TB).mono (by decide)⟩
  | 5, _, h => by obtain rfl := Option.some.inj h; exact ⟨_, (ok__law_crowd_in TX TB).mono (by decide)⟩
  | 6, _, h => by obtain rfl := Option.some.inj h; exact ⟨_, (ok_read_fraction TX TB).mono (by decide)⟩
  | 7, _, h => by obtain rfl := Option.some.inj h; exact ⟨_, (ok__law_fraction_in TX TB).mono (by decide)⟩
  | _ + 8, _, h => by simp [names__law_right] at h
theorem sc__law_right : FnScope ["_law_text", "_law_pairs", "_law_own", "_law_due", "_law_reader"] ["_law_text"] (defScope s__law_right) := ⟨rfl, rfl, rfl, by decide +kernel, rfl, by decide +kernel, by decide +kernel⟩
theorem ok__law_right (TX : Txt bk K mg) (TB : TBs bk K mg base T P) : Def P w K mg base T "_law_right" ["_law_text"] 13 F__law_right := by
  refine TX.defL 40 40 (st := s__law_right) rfl rfl sc__law_right (fun _ _ _ _ _ _ us hl => match us, hl with | [_], _ => rfl) (fun _ _ _ _ h => h.1) (fun _ _ _ _ h => h.2) fun fa cdv A outer s H E hcv hr => ?_
  have tk : Takes (cxOf (L2.CX P w) P w K mg base ["_law_text", "_law_pairs", "_law_own", "_law_due", "_law_reader"] "_law_right" (defScope s__law_right) fa cdv A outer s H E) (fun cls d _ H => E cls d H) := takes_of rfl rfl rfl rfl
  refine ⟨_, liF mg names__law_right, (pss_cons (ps_set (i := 1) sc__law_right.nd rfl (by first | exact Or.inl rfl | exact Or.inr rfl) (pe_lst (pa_cons (pe_tup (pa_cons (pe_glob (v := .ref (He.ga K "read_sums")) rfl (TX.glo 12 "read_sums" rfl) rfl) (pa_cons (pe_glob (v := .ref (He.ga K "_law_sums_in")) rfl (TX.glo 36 "_law_sums_in" rfl) rfl) pa_nil))) (pa_cons (pe_tup (pa_cons (pe_glob (v := .ref (He.ga K "read_polynomial")) rfl (TX.glo 13 "read_polynomial" rfl) rfl) (pa_cons (pe_glob (v := .ref (He.ga K "_law_polynomial_in")) rfl (TX.glo 37 "_law_polynomial_in" rfl) rfl) pa_nil))) (pa_cons (pe_tup (pa_cons (pe_glob (v := .ref (He.ga K "read_crowd")) rfl (TX.glo 15 "read_crowd" rfl) rfl) (pa_cons (pe_glob (v := .ref (He.ga K "_law_crowd_in")) rfl (TX.glo 38 "_law_crowd_in" rfl) rfl) pa_nil))) pa_nil)))))
    (pss_cons (ps_for (passes_of rfl) rfl (it_list K (pe_op op_cat (pv 1) (pe_lst (pa_cons (pe_tup (pa_cons (pe_glob (v := .ref (He.ga K "read_fraction")) rfl (TX.glo 11 "read_fraction" rfl) rfl) (pa_cons (pe_glob (v := .ref (He.ga K "_law_fraction_in")) rfl (TX.glo 35 "_law_fraction_in" rfl) rfl) pa_nil))) pa_nil)))) (tg_tup K (n := 2) (pgs_cons (pg_name (i := 4) sc__law_right.nd rfl (by first | exact Or.inl rfl | exact Or.inr rfl)) (pgs_cons (pg_name (i := 2) sc__law_right.nd rfl (by first | exact Or.inl rfl | exact Or.inr rfl)) pgs_nil)))
    (pss_cons (ps_set (i := 3) sc__law_right.nd rfl (by first | exact Or.inl rfl | exact Or.inr rfl) (pe_callV (mg := mg) (k := 5) (funs_ok__law_right (T := T) TX TB) (hr.mono (by decide)) (passes_call tk (fun _ _ _ _ h => h)) (pv 2) (pa_cons (pv 0) pa_nil)))
    (pss_one (ps_if (pt_cmpR op_isN (pv 3) pe_non (nomark _)) (pss_one (ps_if (pt_cmpR (ne_K K hr.units) (pe_ref (f0 := "_law_right") (k := 5) TX TB 32 32 rfl rfl sc__law_refused (fun _ _ _ _ _ _ us hl => match us, hl with | [_], _ => rfl) (.inl rfl) (fun cdg => giv_ref TX cdg _) (by decide) hcv rfl (hr.mono (by decide)) (by kernel_rfl)
      (fun A2 o2 s2 H2 E f2 c2 hr => have tk : Takes (LamX.lamCx _ A2 o2 s2 H2 E _ f2 c2) (fun cls d _ H => E cls d H) := takes_of rfl rfl rfl rfl; (pe_callV (mg := mg) (k := 5) (funs_ok__law_right (T := T) TX TB) (hr.mono (by decide)) (passes_call tk (fun _ _ _ _ h => h)) (pv 4) (pa_cons (pv 0) pa_nil)))) (pe_lst (pa_cons pe_int pa_nil)) (nomark _)) (pss_one (ps_ret pe_bl)) pss_nil)) (pss_one (ps_if (pt_not (pt_val (pe_def (ok__law_same (T := T) TX TB) (hr.mono (by decide)) (passes_call tk (fun _ _ _ _ h => h)) (pa_cons (pe_callV (mg := mg) (k := 5) (funs_ok__law_right (T := T) TX TB) (hr.mono (by decide)) (passes_call tk (fun _ _ _ _ h => h)) (pv 4) (pa_cons (pv 0) pa_nil)) (pa_cons (pv 3) pa_nil))))) (pss_one (ps_ret pe_bl)) pss_nil))))))
    (pss_one (ps_ret pe_bl)))), fun c xq hK hT hE => ?_⟩
  subst hK hT
  exact (ds_seq (ds_asg (de_lst (da_cons (de_tup (da_cons (de_funV (n := 0) fun _ _ _ => ⟨"read_sums", rfl, TX.glo 12 "read_sums" rfl⟩) (da_cons (de_funV (n := 1) fun _ _ _ => ⟨"_law_sums_in", rfl, TX.glo 36 "_law_sums_in" rfl⟩) da_nil))) (da_cons (de_tup (da_cons (de_funV (n := 2) fun _ _ _ => ⟨"read_polynomial", rfl, TX.glo 13 "read_polynomial" rfl⟩) (da_cons (de_funV (n := 3) fun _ _ _ => ⟨"_law_polynomial_in", rfl, TX.glo 37 "_law_polynomial_in" rfl⟩) da_nil))) (da_cons (de_tup (da_cons (de_funV (n := 4) fun _ _ _ => ⟨"read_crowd", rfl, TX.glo 15 "read_crowd" rfl⟩) (da_cons (de_funV (n := 5) fun _ _ _ => ⟨"_law_crowd_in", rfl, TX.glo 38 "_law_crowd_in" rfl⟩) da_nil))) da_nil)))) (dg_name 1))
    (ds_seq (ds_for (di_list (de_opv d2_cat (DE.dp (de_lst (da_cons (de_tup (da_cons (de_funV (n := 6) fun _ _ _ => ⟨"read_fraction", rfl, TX.glo 11 "read_fraction" rfl⟩) (da_cons (de_funV (n := 7) fun _ _ _ => ⟨"_law_fraction_in", rfl, TX.glo 35 "_law_fraction_in" rfl⟩) da_nil))) da_nil))))) (dg_tup (dgs_cons (dg_name 4) (dgs_cons (dg_name 2) dgs_nil)))
    (ds_seq (ds_asg (de_callV 2 hE (da_cons (de_var 0) da_nil)) (dg_name 3))
    (ds_if (dt_test (de_opv d2_isN (DE.dp de_non))) (ds_if (dt_test (de_op d2_ne (de_ref (caps := [0, 4]) (fun _ _ _ xq hE => (de_callV 4 hE (da_cons (de_var 0) da_nil)))) (DE.dp (de_lst (da_cons (de_int 7) da_nil))))) (ds_ret (de_bl false)) ds_next) (ds_if (dt_not (dt_B (de_callB hE (dab_cons (de_callV 4 hE (da_cons (de_var 0) da_nil)) (dab_var 3 dab_nil))))) (ds_ret (de_bl false)) ds_next))))
    (ds_ret (de_bl true))))
theorem funs_ok_law (TX : Txt bk K mg) (TB : TBs bk K mg base T P) : ∀ n f, (names_law)[n]? = some f → ∃ ps, Def P w K mg base T f ps 5 (fun_law n)
  | 0, _, h => by obtain rfl := Option.some.inj h; exact ⟨_, (ok_read_sums TX TB).mono (by decide)⟩
  | 1, _, h => by obtain rfl := Option.some.inj h; exact ⟨_, (ok_read_polynomial TX TB).mono (by decide)⟩
  | 2, _, h => by obtain rfl := Option.some.inj h; exact ⟨_, (ok_read_crowd TX TB).mono (by decide)⟩
  | 3, _, h => by obtain rfl := Option.some.inj h; exact ⟨_, (ok_read_fraction TX TB).mono (by decide)⟩
  | _ + 4, _, h => by simp [names_law] at h
theorem sc_law : FnScope ["_law_script", "_law_k", "_law_state_here", "_law_crowd_here", "_law_texts", "_law_turn", "_law_odd", "_law_reader", "_law_text", "_law_one", "_law_spot", "_law_weight"] ["_law_script"] (defScope s_law) := ⟨rfl, rfl, rfl, by decide +kernel, rfl, by decide +kernel, by decide +kernel⟩
theorem ok_law (TX : Txt bk K mg) (TB : TBs bk K mg base T P) : Def P w K mg base T "law" ["_law_script"] 37 F_law := by
  refine TX.defL 41 41 (st := s_law) rfl rfl sc_law (fun _ _ _ _ _ _ us hl => match us, hl with | [_], _ => rfl) (fun _ _ _ _ h => h.1) (fun _ _ _ _ h => h.2) fun fa cdv A outer s H E hcv hr => ?_
  have tk : Takes (cxOf (L2.CX P w) P w K mg base ["_law_script", "_law_k", "_law_state_here", "_law_crowd_here", "_law_texts", "_law_turn", "_law_odd", "_law_reader", "_law_text", "_law_one", "_law_spot", "_law_weight"] "law" (defScope s_law) fa cdv A outer s H E) (fun cls d _ H => E cls d H) := takes_of rfl rfl rfl rfl
  refine ⟨_, liF mg names_law, (pss_cons (ps_for (passes_of rfl) rfl (pi_range1 rfl (TX.free 76 "range" rfl) (pa_cons (pe_max2 (TX.free 79 "max" rfl) (pa_cons pe_int (pa_cons (pe_min2 (TX.free 78 "min" rfl) (pa_cons (pe_len K (TX.free 68 "len" rfl) (pv 0)) (pa_cons pe_int pa_nil))) pa_nil))) pa_nil)) (pg_name (i := 1) sc_law.nd rfl (by first | exact Or.inl rfl | exact Or.inr rfl))
    (pss_cons (ps_set (i := 2) sc_law.nd rfl (by first | exact Or.inl rfl | exact Or.inr rfl) (pe_def (ok__law_state (T := T) TX TB) (hr.mono (by decide)) (passes_call tk (fun _ _ _ _ h => h)) (pa_cons (pv 0) (pa_cons (pv 1) pa_nil))))
    (pss_cons (ps_set (i := 3) sc_law.nd rfl (by first | exact Or.inl rfl | exact Or.inr rfl) (pe_def (ok__law_crowd (T := T) TX TB) (hr.mono (by decide)) (passes_call tk (fun _ _ _ _ h => h)) (pa_cons (pv 2) (pa_cons pe_int pa_nil))))
    (pss_cons (ps_set (i := 4) sc_law.nd rfl (by first | exact Or.inl rfl | exact Or.inr rfl) (pe_lst (pa_cons (pe_joinS K pe_str (pe_lc (own := [("_law_one", 9)]) rfl sc_law.nd (it_list K (pe_slice (sl_K K) (pe_def (ok__law_sums (T := T) TX TB) (hr.mono (by decide)) (passes_call tk (fun _ _ _ _ h => h)) (pa_cons (pv 2) pa_nil)) po_none (po_some pe_int))) (blkOk_by (by kernel_rfl)) (fun _ _ _ _ _ => (pg_name (i := 9) sc_law.nd rfl (by first | exact Or.inl rfl | exact Or.inr rfl))) (fun _ _ _ _ _ => pts_nil) (fun _ _ _ _ _ => (pe_def (ok__law_word (T := T) TX TB) (hr.mono (by decide)) passL (pa_cons (pv 9) pa_nil))))) (pa_cons (pe_def (ok__law_word (T := T) TX TB) (hr.mono (by decide)) (passes_call tk (fun _ _ _ _ h => h)) (pa_cons (pe_def (ok__law_small (T := T) TX TB) (hr.mono (by decide)) (passes_call tk (fun _ _ _ _ h => h)) (pa_cons (pv 2) pa_nil)) pa_nil)) pa_nil))))
    (pss_cons (ps_expr (pe_app K (pv 4) (pa_cons (pe_orS (pe_joinS K pe_str (pe_lc (own := [("_law_one", 9)]) rfl sc_law.nd (it_list K (pe_def (ok__law_polynomial (T := T) TX TB) (hr.mono (by decide)) (passes_call tk (fun _ _ _ _ h => h)) (pa_cons (pv 2) (pa_cons pe_int pa_nil)))) (blkOk_by (by kernel_rfl)) (fun _ _ _ _ _ => (pg_name (i := 9) sc_law.nd rfl (by first | exact Or.inl rfl | exact Or.inr rfl))) (fun _ _ _ _ _ => pts_nil) (fun _ _ _ _ _ => (pe_def (ok__law_word (T := T) TX TB) (hr.mono (by decide)) passL (pa_cons (pv 9) pa_nil))))) (pe_one pe_str)) pa_nil)))
    (pss_cons (ps_expr (pe_app K (pv 4) (pa_cons (pe_orS (pe_joinS K pe_str (pe_lc (own := [("_law_spot", 10), ("_law_weight", 11)]) rfl sc_law.nd (it_list K (pv 3)) (blkOk_by (by kernel_rfl)) (fun _ _ _ _ _ => (tg_tup K (n := 2) (pgs_cons (pg_name (i := 10) sc_law.nd rfl (by first | exact Or.inl rfl | exact Or.inr rfl)) (pgs_cons (pg_name (i := 11) sc_law.nd rfl (by first | exact Or.inl rfl | exact Or.inr rfl)) pgs_nil)))) (fun _ _ _ _ _ => pts_nil) (fun _ _ _ _ _ => (pe_op op_add_str (pe_op op_add_str (pe_def (ok__law_word (T := T) TX TB) (hr.mono (by decide)) passL (pa_cons (pv 10) pa_nil)) pe_str) (pe_def (ok__law_word (T := T) TX TB) (hr.mono (by decide)) passL (pa_cons (pv 11) pa_nil)))))) (pe_one pe_str)) pa_nil)))
    (pss_cons (ps_for (passes_of rfl) rfl (pi_range1 rfl (TX.free 76 "range" rfl) (pa_cons pe_int pa_nil)) (pg_name (i := 5) sc_law.nd rfl (by first | exact Or.inl rfl | exact Or.inr rfl))
    (pss_cons (ps_if (pt_cmpR (neE_K K hr.units) (pe_lc (own := [("_law_text", 8)]) rfl sc_law.nd (it_list K (pv 4)) (blkOk_by (by kernel_rfl)) (fun _ _ _ _ _ => (pg_name (i := 8) sc_law.nd rfl (by first | exact Or.inl rfl | exact Or.inr rfl))) (fun _ _ _ _ _ => (pts_one (pt_not (pt_val (pe_def (ok__law_right (T := T) TX TB) (hr.mono (by decide)) passL (pa_cons (pv 8) pa_nil)))))) (fun _ _ _ _ _ => (pv 8))) (pe_lst pa_nil) (nomark _)) (pss_one (ps_ret pe_bl)) pss_nil)
    (pss_one (ps_setLc (i := 4) (own := [("_law_text", 8)]) rfl sc_law.nd rfl rfl (sw_true rfl rfl rfl (by decide +kernel)) (it_list K (pv 4)) (blkOk_by (by kernel_rfl)) (fun _ _ _ _ _ => (pg_name (i := 8) sc_law.nd rfl (by first | exact Or.inl rfl | exact Or.inr rfl))) (fun _ _ _ _ _ => pts_nil) (fun _ _ _ _ _ => (pe_def (ok__law_bent (T := T) TX TB) (hr.mono (by decide)) passL (pa_cons (pv 2) (pa_cons (pv 8) pa_nil))))))))
    (pss_cons (ps_set (i := 6) sc_law.nd rfl (by first | exact Or.inl rfl | exact Or.inr rfl) (pe_ix (ix_K K) (pe_lst (pa_cons pe_non (pa_cons pe_int (pa_cons (pe_tup (pa_cons pe_str pa_nil)) (pa_cons (pe_lst (pa_cons pe_str pa_nil)) (pa_cons pe_bl (pa_cons pe_dnewK (pa_cons (pe_tup (pa_cons pe_int (pa_cons pe_int pa_nil))) pa_nil)))))))) (pe_def (ok__law_take (T := T) TX TB) (hr.mono (by decide)) (passes_call tk (fun _ _ _ _ h => h)) (pa_cons (pv 2) (pa_cons pe_int pa_nil))) (fun _ _ => rfl)))
    (pss_one (ps_for (passes_of rfl) rfl (it_list K (pe_lst (pa_cons (pe_glob (v := .ref (He.ga K "read_sums")) rfl (TX.glo 12 "read_sums" rfl) rfl) (pa_cons (pe_glob (v := .ref (He.ga K "read_polynomial")) rfl (TX.glo 13 "read_polynomial" rfl) rfl) (pa_cons (pe_glob (v := .ref (He.ga K "read_crowd")) rfl (TX.glo 15 "read_crowd" rfl) rfl) (pa_cons (pe_glob (v := .ref (He.ga K "read_fraction")) rfl (TX.glo 11 "read_fraction" rfl) rfl) pa_nil)))))) (pg_name (i := 7) sc_law.nd rfl (by first | exact Or.inl rfl | exact Or.inr rfl))
    (pss_one (ps_if (pt_cmpR (ne_K K hr.units) (pe_ref (f0 := "law") (k := 5) TX TB 32 32 rfl rfl sc__law_refused (fun _ _ _ _ _ _ us hl => match us, hl with | [_], _ => rfl) (.inl rfl) (fun cdg => giv_ref TX cdg _) (by decide) hcv rfl (hr.mono (by decide)) (by kernel_rfl)
      (fun A2 o2 s2 H2 E f2 c2 hr => have tk : Takes (LamX.lamCx _ A2 o2 s2 H2 E _ f2 c2) (fun cls d _ H => E cls d H) := takes_of rfl rfl rfl rfl; (pe_callV (mg := mg) (k := 5) (funs_ok_law (T := T) TX TB) (hr.mono (by decide)) (passes_call tk (fun _ _ _ _ h => h)) (pv 7) (pa_cons (pv 6) pa_nil)))) (pe_lst (pa_cons pe_int pa_nil)) (nomark _)) (pss_one (ps_ret pe_bl)) pss_nil))))))))))))
    (pss_one (ps_ret pe_bl))), fun c xq hK hT hE => ?_⟩
  subst hK hT
  exact (ds_seq (ds_for (di_rng1 (da_cons (de_cb db_max2 (da_cons (de_int 1) (da_cons (de_cb db_min2 (da_cons (de_cb1 d1_len (dp_var 0)) (da_cons (de_int 8) da_nil))) da_nil))) da_nil)) (dg_name 1)
    (ds_seq (ds_asg (de_call hE (da_cons (de_var 0) (da_cons (de_var 1) da_nil))) (dg_name 2))
    (ds_seq (ds_asg (de_callLend 2 hE (da_cons (de_int 5) da_nil)) (dg_name 3))
    (ds_seq (ds_asg (de_lst (da_cons (de_m1 d2_join (de_str " ") (DE.dp (de_comp (vs := [9]) (di_list (de_sl (de_callLend 2 hE da_nil) do_none (do_some (DE.dp (de_int 9))))) (fun _ => (dg_name 9)) (fun _ => dt_yes) (fun _ => (de_callB eok0 (dab_var 9 dab_nil))) (gw_name (by simp))))) (da_cons (de_call hE (da_cons (de_callLend 2 hE da_nil) da_nil)) da_nil))) (dg_name 4))
    (ds_seq (ds_app 4 (de_orS (de_m1 d2_join (de_str " ") (DE.dp (de_comp (vs := [9]) (di_list (de_callLend 2 hE (da_cons (de_int 6) da_nil))) (fun _ => (dg_name 9)) (fun _ => dt_yes) (fun _ => (de_callB eok0 (dab_var 9 dab_nil))) (gw_name (by simp))))) (de_str "nought")))
    (ds_seq (ds_app 4 (de_orS (de_m1 d2_join (de_str " ") (DE.dp (de_compB (vs := [10, 11]) (fun _ _ => (dg_tup (dgs_cons (dg_name 10) (dgs_cons (dg_name 11) dgs_nil)))) (fun _ _ => dt_yes) (fun _ _ => (de_op d2_catS (de_op d2_catS (de_callB eok0 (dab_var 10 dab_nil)) (DE.dp (de_str ":"))) (DE.dp (de_callB eok0 (dab_var 11 dab_nil))))) (gw_tup2 (by simp) (by simp))))) (de_str "none")))
    (ds_seq (ds_for (di_rng1 (da_cons (de_int 4) da_nil)) (dg_name 5)
    (ds_seq (ds_if (dt_test (de_op d2_neE (de_compB (vs := [8]) (fun _ _ => (dg_name 8)) (fun _ _ => (dt_not (dt_B (de_callB eok0 (dab_var 8 dab_nil))))) (fun _ _ => (de_var 8)) (gw_name (by simp))) (DE.dp (de_lst da_nil)))) (ds_ret (de_bl false)) ds_next)
    (ds_asg (de_compB (vs := [8]) (fun _ _ => (dg_name 8)) (fun _ _ => dt_yes) (fun _ _ => (de_callLend 2 eok0 (da_cons (de_var 8) da_nil))) (gw_name (by simp))) (dg_name 4))))
    (ds_seq (ds_asg (de_op d2_ix (de_lst (da_cons de_non (da_cons (de_int 7) (da_cons (de_tup (da_cons (de_str "1") da_nil)) (da_cons (de_lst (da_cons (de_str "1") da_nil)) (da_cons (de_bl true) (da_cons de_dnew (da_cons (de_tup (da_cons (de_int 1) (da_cons (de_int 1) da_nil))) da_nil)))))))) (DE.dp (de_callLend 2 hE (da_cons (de_int 7) da_nil)))) (dg_name 6))
    (ds_for (di_list (de_lst (da_cons (de_funV (n := 0) fun _ _ _ => ⟨"read_sums", rfl, TX.glo 12 "read_sums" rfl⟩) (da_cons (de_funV (n := 1) fun _ _ _ => ⟨"read_polynomial", rfl, TX.glo 13 "read_polynomial" rfl⟩) (da_cons (de_funV (n := 2) fun _ _ _ => ⟨"read_crowd", rfl, TX.glo 15 "read_crowd" rfl⟩) (da_cons (de_funV (n := 3) fun _ _ _ => ⟨"read_fraction", rfl, TX.glo 11 "read_fraction" rfl⟩) da_nil)))))) (dg_name 7)
    (ds_if (dt_test (de_op d2_ne (de_ref (caps := [6, 7]) (fun _ _ _ xq hE => (de_callV 7 hE (da_cons (de_var 6) da_nil)))) (DE.dp (de_lst (da_cons (de_int 7) da_nil))))) (ds_ret (de_bl false)) ds_next))))))))))
    (ds_ret (de_bl true)))
end
end Wk
set_option Elab.async false
set_option linter.all false
set_option maxRecDepth 100000
set_option maxHeartbeats 1000000
namespace Ma
open PySem L2 DL Mi
local macro_rules | `(tactic| walk_at "wp") => `(tactic| simp (config := {failIfUnchanged := false}) only [wNext, wSeq, wRet, wRetV, wRetN, wIfS, wDrop, wAsg, wName, wTupT, wTupL, wDSub, lkD, kyD, wGNil, wGCons, wPar, wApp, wClear, wEach, wOwns, eachW, wExt, wPop, wSub, setSt, wFor, wIt, wItT, wRng1, wRng2, wRng3, wEnum, wZip, wRev,
  wV, wPV, wC, wP, wOp, wOpv, wRef, has, frz, pick, blank, wUn, gI, gIC, gAdd, gMin, gMul, gDiv, gMod, gPow, gLt, gLe, gGt, gGe, gNeg, gEq, gNe, gEqE, gNeE, gIn, gInT, gNotIn, wRevL, gIsN, gNotN, gIsB, gNotB, wB, wNot, wAnd, wOr, wAndV, wOrV, wNotV, wIf, wNil, wCons, wTup, wLst, wCB, wCB1,
  gIx, stIx, wIxv, wSl, wSlv, wNoPart, wPart, gLen, gList, gTuple, gCat, gRep, gAbs, gInt, gMax2, gMin2, gAll, gAny, wIsi, wIsi2, wCall, wCallLend, wCallB, wBNil, wBVar, wBCons, wRaise, wComp, wCompB, wYes, kBody, start_, at_, List.set, Sl.d, wChain,
  List.map_cons, List.map_nil, List.length_cons, List.length_nil, List.cons_append, List.nil_append, List.replicate_succ, List.replicate_zero, List.append_nil, Nat.reduceAdd, Nat.reduceSub, ne_eq, reduceCtorEq, not_false_eq_true, true_and, and_true, isScal, ex_some, atI0, atI1, atI2, atI3, fr, noOwn, wipeD, backD, Nat.zero_add, if_true, if_false, List.isEmpty_nil, List.isEmpty_cons, Bool.not_true, Bool.not_false, decide_eq_true_eq, beq_iff_eq, Bool.not_eq_true', beq_eq_false_iff_ne, decide_eq_false_iff_not])
local macro_rules | `(tactic| walk_at "wk") => `(tactic| simp (config := {failIfUnchanged := false, maxSteps := 1000000}) only [wNext, wSeq_K, wRet, wRetV, wRetN, wIfS, wDrop, wAsg, wName, wTupT, wTupL, wDSub, lkD, kyD, wGNil, wGCons, wPar, wApp, wClear, wEach, wOwns, eachW, wExt, wPop, wSub, setSt, wFor, wIt, wItT, wRng1, wRng2, wRng3, wEnum, wZip, wRev, wV, wPV, wC, wP, wOp, wOpv, wRef, has, frz, pick, blank, wUn, gI, gIC, gAdd, gMin, gMul, gDiv, gMod, gPow, gLt, gLe, gGt, gGe, gNeg, gEq, gNe, gEqE, gNeE, gIn, gInT, gNotIn, wRevL, gIsN, gNotN, gIsB, gNotB, wB, wNot, wAnd, wOr, wAndV, wOrV, wNotV, wIf, wNil, wCons, wTup, wLst, wCB, wCB1, gIx, stIx, wIxv, wSl, wSlv, wNoPart, wPart, gLen, gList, gTuple, gCat, gRep, gAbs, gInt, gMax2, gMin2, gAll, gAny, wIsi, wIsi2, wCall_K, wCallLend_K, wCallB_K, wBNil, wBVar, wBCons, wRaise, wComp_K, wYes, kBody, start_, at_, List.set, Sl.d, wChain, List.map_cons, List.map_nil, List.length_cons, List.length_nil, List.cons_append, List.nil_append, List.replicate_succ, List.replicate_zero, List.append_nil, Nat.reduceAdd, Nat.reduceSub, ne_eq, reduceCtorEq, not_false_eq_true, true_and, and_true, isScal, ex_some, atI0, atI1, atI2, atI3, fr, noOwn, wipeD, backD, Nat.zero_add, if_true, if_false, List.isEmpty_nil, List.isEmpty_cons, Bool.not_true, Bool.not_false, decide_eq_true_eq, beq_iff_eq, Bool.not_eq_true', beq_eq_false_iff_ne, decide_eq_false_iff_not, gCatT, gCatS, wCompB, callK_ap, scalK_ap, compK_ap])
local macro_rules | `(tactic| walk_at "wj") => `(tactic| simp (config := {failIfUnchanged := false, maxSteps := 1000000}) only [wNext, wRet, wRetV, wRetN, wIfS, wDrop, wAsg, wName, wTupT, wTupL, wDSub, lkD, kyD, wGNil, wGCons, wPar, wApp, wClear, wEach, wOwns, eachW, wExt, wPop, wSub, setSt, wFor, wIt, wItT, wRng1, wRng2, wRng3, wEnum, wZip, wRev, wV, wPV, wC, wP, wOp, wOpv, wRef, has, frz, pick, blank, wUn, gI, gIC, gAdd, gMin, gMul, gDiv, gMod, gPow, gLt, gLe, gGt, gGe, gNeg, gEq, gNe, gEqE, gNeE, gIn, gInT, gNotIn, wRevL, gIsN, gNotN, gIsB, gNotB, wB, wNot, wAnd, wOr, wAndV, wOrV, wNotV, wIf, wNil, wCons, wTup, wLst, wCB, wCB1, gIx, stIx, wIxv, wSl, wSlv, wNoPart, wPart, gLen, gList, gTuple, gCat, gRep, gAbs, gInt, gMax2, gMin2, gAll, gAny, wIsi, wIsi2, wCall_K, wCallLend_K, wCallB_K, wBNil, wBVar, wBCons, wRaise, wComp_K, wYes, kBody, start_, at_, List.set, Sl.d, wChain, List.map_cons, List.map_nil, List.length_cons, List.length_nil, List.cons_append, List.nil_append, List.replicate_succ, List.replicate_zero, List.append_nil, Nat.reduceAdd, Nat.reduceSub, ne_eq, reduceCtorEq, not_false_eq_true, true_and, and_true, isScal, ex_some, atI0, atI1, atI2, atI3, fr, noOwn, wipeD, backD, Nat.zero_add, if_true, if_false, List.isEmpty_nil, List.isEmpty_cons, Bool.not_true, Bool.not_false, decide_eq_true_eq, beq_iff_eq, Bool.not_eq_true', beq_eq_false_iff_ne, decide_eq_false_iff_not, gCatT, gCatS, wCompB, callK_ap, scalK_ap, compK_ap])
local macro_rules | `(tactic| walk_at "ws") => `(tactic| (walk_at "wj"; repeat ((first | with_reducible refine seqK_nx' ?_ | with_reducible refine seqK_rt' ?_ | with_reducible refine seqK_bk' ?_ | with_reducible refine seqK_ct' ?_ | with_reducible refine wSeq_K' ?_); walk_at "wj")))
local macro_rules | `(tactic| walk_at "wc") => `(tactic| simp (config := {failIfUnchanged := false, implicitDefEqProofs := false, maxSteps := 1000000}) only [wTupT, wTupL, lkD, kyD, wClear, wEach, wOwns, eachW, wPop, setSt, wRef, has, frz, pick, blank, gI, gIC, gAdd, gMin, gMul, gDiv, gMod, gPow, gLt, gLe, gGt, gGe, gNeg, gEq, gNe, gEqE, gNeE, gIn, gInT, gNotIn, wRevL, gIsN, gNotN, gIsB, gNotB, gIx, stIx, gLen, gList, gTuple, gCat, gRep, gAbs, gInt, gMax2, gMin2, gAll, gAny, wCallLend_K, wRaise, kBody, start_, at_, List.set, Sl.d, List.map_cons, List.map_nil, List.length_cons, List.length_nil, List.cons_append, List.nil_append, List.replicate_succ, List.replicate_zero, List.append_nil, Nat.reduceAdd, Nat.reduceSub, ne_eq, reduceCtorEq, not_false_eq_true, true_and, and_true, isScal, ex_some, atI0, atI1, atI2, atI3, fr, noOwn, wipeD, backD, Nat.zero_add, if_true, if_false, List.isEmpty_nil, List.isEmpty_cons, Bool.not_true, Bool.not_false, decide_eq_true_eq, beq_iff_eq, Bool.not_eq_true', beq_eq_false_iff_ne, decide_eq_false_iff_not, gCatT, gCatS, callK_ap, scalK_ap, compK_ap, valK_ap, asg2K_ap, asgK_ap, wAsg_C, gconsK_ap, wGCons_C, wGCons_N, parK_ap, wPar_C, appK_ap, wApp_C, wIns_C, insK_ap, wPick_C, wCallV_C, wFunV_C, wActI_C, popAtK_ap, wPopAt_C, wRefI_C, wPar3_C, par3K_ap, wM1_C, m1K_ap, m1bK_ap, wOrS_C, orSK_ap, wSlS, wSlT, wItS, gCatS, gStr, gIntS, gInS, gNotInS, gIxS, gStarts, gSplit, gPart, gJoin, extK_ap, wExt_C, st2K_ap, subK_ap, wSub_C, forK_ap, wFor_C, rng1K_ap, wRng1_C, rng2K_ap, wRng2_C, rng3K_ap, wRng3_C, enumK_ap, wEnum_C, zipK_ap, zipK_ap', wZip_C, revK_ap, wRev_C, itK_ap, wIt_C, itTK_ap, wItT_C, pK_ap, wP_C, op2K_ap, opK_ap, wOp_C, opvK_ap, wOpv_C, unK_ap, wUn_C, wCB1_C, cbK_ap, wCB_C, bK_ap, wB_C, notK_ap, wNot_C, andK_ap, wAnd_C, orK_ap, wOr_C, andVK_ap, wAndV_C, orVK_ap, wOrV_C, notVK_ap, wNotV_C, ifK_ap, wIf_C, ifsK_ap, wIfS_C, cons2K_ap, consK_ap, wCons_C, tupK_ap, wTup_C, lstK_ap, wLst_C, ixvK_ap, wIxv_C, sl3K_ap, sl2K_ap, sl1K_ap, wSl_C, slv2K_ap, slv1K_ap, wSlv_C, partK_ap, wPart_C, argK_ap, wCall_C, argBK_ap, wCallB_C, bvarK_ap, wBVar_C, bconsK_ap, wBCons_C, cmpK_ap, wComp_C, cmpBK_ap, itD_ap, wCompB_C, dropK_ap, wDrop_C, retK_ap, wRet_C, isiK_ap, wIsi_C, isi2K_ap, wIsi2_C, ch3K_ap, chzK_ap, ch2K_ap, ch1K_ap, wChain_C, dsubK_ap, dsub1K_ap, wDSub_C, wNext_C, wNil_C, wBNil_C, wNoPart_C, wRetN_C, wYes_C, wGNil_C, wC_C, wName_C, wV_C, wPV_C, wRetV_C, wLRev_C, lrevK_ap, wCallF_C, argFK_ap, flatK_ap, wOrL_C, orLK_ap, wLamV, wCallC_C, argCK_ap, wCallCW_C, argCWK_ap, retWK_ap, wRetW_C, tw2K_own, twK_own, wTw_C, callWK_ap, argWK_ap, wCallW_C, vwK_ap, wVW_C, iw0K_ap, wIW0_C, iw1K_ap, wIW1_C, told2K_f, toldK_ap, wTold_C, wTlEnd, wTlOp, wOApp, wOClr, wMv, flatOw, flatL_frs, fndK_ap, wFnd_C, wDIf_C, difK_t, difK_f, dsetK_ap, wDSet_C, dtntK_ap, wDTnt_C, dtupK_ap, wDTup_C, mappK_ap, wMApp_C, wMClr_C, mifK_t, mifK_f, wMIf_C, dmutK_ap, wDMut_C, killD, toldBK_rt, fndO_ap, wFndO, wRetO, startO, difZ_t, difZ_f, wZIf_C, mzK_ap, wZApp_C, zmutK_ap, wZMut_C, ztK_ap, zcK_ap, wZTold_C, zmut2K_ap, wZMut2_C, wCopy, lendEK_ap, wCallLendE_C])
local macro_rules | `(tactic| walk_at "wz") => `(tactic| (walk_at "wc"; repeat ((first | with_reducible refine seqWK_nx' ?_ | with_reducible refine wSeqW' ?_ | with_reducible refine seqOK_nx' ?_ | with_reducible refine wSeqO' ?_ | with_reducible refine seqK_nx' ?_ | with_reducible refine seqK_rt' ?_ | with_reducible refine seqK_bk' ?_ | with_reducible refine seqK_ct' ?_ | with_reducible refine wSeq_K' ?_); walk_at "wc")))
local macro_rules | `(tactic| walk_at "wq") => `(tactic| simp (config := {failIfUnchanged := false, maxSteps := 1000000}) only [wNext, wSeq_K, wRet, wRetV, wRetN, wIfS, wDrop, wAsg, wName, wTupT, wTupL, wDSub, lkD, kyD, wGNil, wGCons, wPar, wApp, wClear, wEach, wOwns, eachW, wExt, wPop, wSub, setSt, wFor, wIt, wItT, wRng1, wRng2, wRng3, wEnum, wZip, wRev, wV, wPV, wC, wP, wOp, wOpv, wRef, has, frz, pick, blank, wUn, gI, gIC, gAdd, gMin, gMul, gDiv, gMod, gPow, gLt, gLe, gGt, gGe, gNeg, gEq, gNe, gEqE, gNeE, gIn, gInT, gNotIn, wRevL, gIsN, gNotN, gIsB, gNotB, wB, wNot, wAnd, wOr, wAndV, wOrV, wNotV, wIf, wNil, wCons, wTup, wLst, wCB, wCB1, gIx, stIx, wIxv, wSl, wSlv, wNoPart, wPart, gLen, gList, gTuple, gCat, gRep, gAbs, gInt, gMax2, gMin2, gAll, gAny, wIsi, wIsi2, wCall_K, wCallLend_K, wCallB_K, wBNil, wBVar, wBCons, wRaise, wComp_K, wYes, kBody, start_, at_, List.set, Sl.d, wChain, List.map_cons, List.map_nil, List.length_cons, List.length_nil, List.cons_append, List.nil_append, List.replicate_succ, List.replicate_zero, List.append_nil, Nat.reduceAdd, Nat.reduceSub, ne_eq, reduceCtorEq, not_false_eq_true, true_and, and_true, isScal, ex_some, atI0, atI1, atI2, atI3, fr, noOwn, wipeD, backD, Nat.zero_add, if_true, if_false, List.isEmpty_nil, List.isEmpty_cons, Bool.not_true, Bool.not_false, decide_eq_true_eq, beq_iff_eq, Bool.not_eq_true', beq_eq_false_iff_ne, decide_eq_false_iff_not, gCatT, gCatS, wCompB, callK_ap, scalK_ap, compK_ap, seqK_nx, seqK_rt, seqK_bk, seqK_ct])
def StOk (x : Int) (b : Bool) : Prop := 0 ≤ x ∧ (∃ n, n ≤ 1048576 ∧ x.natAbs < 2 ^ n) ∧ (b = false → x < 2147483647)
theorem lt_of_bits {z : Int} {n : Nat} (h : PySem.Builtin.Int.intBits z ≤ n) : z.natAbs < 2 ^ n := by
  unfold PySem.Builtin.Int.intBits at h
  split at h
  · rename_i h0
    have : z.natAbs = 0 := by simpa using h0
    rw [this]
    exact Nat.two_pow_pos n
  · rename_i h0
    exact (Nat.log2_lt (by simpa using h0)).mp (by omega)
theorem getD_el {α : Type} {l : List α} {i : Nat} (h : i < l.length) {d : α} : l.getD i d = l[i] := by simp [h]
def ownIf (o : Bool) (l : List D) : Sl := if o = true then .own l else .val (.lst l)
theorem szT (n : Nat) : (n ≤ sizeLine) = (n ≤ 16777216) := rfl
theorem szL (n : Nat) : (n < sizeLine) = (n < 16777216) := rfl
theorem atI_mem {α : Type} {l : List α} {i : Int} (h0 : 0 ≤ i) (h1 : i < l.length) : ∃ x ∈ l, atI l i = some x := by
  obtain ⟨n, rfl⟩ := Int.eq_ofNat_of_zero_le h0
  have hn : n < l.length := by omega
  exact ⟨l[n], List.getElem_mem hn, by rw [atI_nat' hn, List.getElem?_eq_getElem hn]⟩
theorem eqOk_bl (b : Bool) : EqOk (.bl b) := rfl
theorem eqv_bl (b : Bool) : (D.bl b).eqv (D.bl b) = true := by cases b <;> rfl
theorem isBool (b : Bool) : isTy (.bl b) "bool" = true := by show tyB "bool" "bool" = true; decide
theorem eqOk_one (i : Int) : EqOk (.lst [.int i]) := Nice.eqOk (n := 1) ⟨by show 1 < sizeLine; decide, fun d hd => by simp at hd; subst hd; exact trivial⟩ (by decide)
theorem eqv_one (i : Int) : (D.lst [.int i]).eqv (.lst [.int i]) = true := Nice.eqv (n := 1) ⟨by show 1 < sizeLine; decide, fun d hd => by simp at hd; subst hd; exact trivial⟩
theorem gEq_one {i : Int} {k : Sl → Prop} (h : k (.val (.bl true))) : gEq (.lst [.int i]) (.lst [.int i]) k := ⟨⟨eqOk_one i, eqOk_one i⟩, by rw [eqv_one]; exact h⟩
theorem gNe_one {i : Int} {k : Sl → Prop} (h : k (.val (.bl false))) : gNe (.lst [.int i]) (.lst [.int i]) k := ⟨⟨eqOk_one i, eqOk_one i⟩, by rw [eqv_one]; exact h⟩
theorem at_frs {l : List Rat} {i : Nat} (h : i < l.length) : atI (l.map fr) (i : Int) = some (fr (l.getD i 0)) := by
  rw [atI_nat' (by simpa using h), List.getElem?_map, List.getElem?_eq_getElem h, getD_el h]
  rfl
theorem cfS_pos {n : Nat} {f : List Rat} (h : CfS n f) : 0 < n := by
  have h1 := (h 0).2
  have h2 := (f.getD 0 0).den_nz
  rcases Nat.eq_zero_or_pos n with z | z
  · subst z
    omega
  · exact z
theorem nice_frl {l : List Rat} (h : l.length < sizeLine) : Nice 2 (.lst (l.map fr)) := ⟨by simpa using h, fun d hd => by obtain ⟨q, _, rfl⟩ := List.mem_map.mp hd; exact nice_fr q⟩
def sg (f : Nat → Rat) : Nat → Rat
  | 0 => 0
  | n + 1 => sg f n + f n
theorem sg_congr {f g : Nat → Rat} : ∀ n, (∀ h, h < n → f h = g h) → sg f n = sg g n
  | 0, _ => rfl
  | n + 1, e => by unfold sg; rw [sg_congr n (fun h hh => e h (by omega)), e n (by omega)]
theorem sg_add {f g : Nat → Rat} : ∀ n, sg (fun i => f i + g i) n = sg f n + sg g n
  | 0 => by simp only [sg]; grind
  | n + 1 => by simp only [sg]; rw [sg_add n]; grind
theorem sg_mul {f : Nat → Rat} (c : Rat) : ∀ n, sg (fun i => f i * c) n = sg f n * c
  | 0 => by simp only [sg]; grind
  | n + 1 => by simp only [sg]; rw [sg_mul c n]; grind
theorem sg_zero {f : Nat → Rat} : ∀ n, (∀ i, i < n → f i = 0) → sg f n = 0
  | 0, _ => rfl
  | n + 1, h => by rw [sg, sg_zero n (fun i hi => h i (by omega)), h n (by omega)]; grind
theorem sg_more {f : Nat → Rat} {n : Nat} : ∀ m, (∀ i, n ≤ i → i < n + m → f i = 0) → sg f (n + m) = sg f n
  | 0, _ => rfl
  | m + 1, h => by rw [← Nat.add_assoc, sg, sg_more m (fun i h1 h2 => h i h1 (by omega)), h (n + m) (by omega) (by omega)]; grind
theorem sg_sz {f : Nat → Rat} {b : Nat} : ∀ n, (∀ i, i < n → Sz b (f i)) → Sz (1 + n * (b + 1)) (sg f n)
  | 0, _ => sz_zero.mono (by omega)
  | n + 1, h => by
    have := sz_add (sg_sz n fun i hi => h i (by omega)) (h n (by omega))
    exact this.mono (by rw [Nat.add_mul]; omega)
theorem sg_sumQ (f : Nat → Rat) : ∀ n, sumQ ((List.range n).map f) = sg f n
  | 0 => rfl
  | n + 1 => by rw [List.range_succ, List.map_append, List.map_cons, List.map_nil, sumQ_snoc, sg_sumQ f n]; rfl
theorem sg_shift {f : Nat → Rat} : ∀ n, sg f (n + 1) = f 0 + sg (fun i => f (i + 1)) n
  | 0 => by simp only [sg]; grind
  | n + 1 => by rw [sg, sg_shift n]; simp only [sg]; grind
theorem sg_swap {a : Nat → Rat} {f : Nat → Nat → Rat} {N : Nat} : ∀ n, sg (fun j => a j * sg (fun i => f i j) n) N = sg (fun i => sg (fun j => a j * f i j) N) n
  | 0 => by
    refine sg_zero N fun i _ => ?_
    show a i * sg _ 0 = 0
    simp only [sg]
    grind
  | n + 1 => by
    have e : (fun j => a j * sg (fun i => f i j) (n + 1)) = fun j => a j * sg (fun i => f i j) n + a j * f n j := by
      funext j
      simp only [sg]
      grind
    rw [e, sg_add, sg_swap n]
    rfl
def evP : List Rat → Rat → Rat
  | [], _ => 0
  | a :: l, x => evP l x * x + a
theorem sz_ev {n m : Nat} {l : List Rat} {x : Rat} (hl : ∀ q ∈ l, Sz n q) (hx : Sz m x) : Sz (1 + l.length * (n + m + 1)) (evP l x) := by
  induction l with
  | nil => simpa [evP] using sz_zero
  | cons a l ih =>
    have h1 := ih fun q hq => hl q (List.mem_cons_of_mem _ hq)
    have := sz_add (sz_mul h1 hx) (hl a (List.mem_cons_self ..))
    refine this.mono ?_
    rw [List.length_cons, Nat.add_mul]
    omega
def isWh : D → Bool
  | .int _ => true
  | _ => false
theorem is_whole_spec {d : D} {s : S} {k xq} (hd : notScr d) (h : k (.val (.bl (isWh d))) s) : F_is_whole [d] s k xq := by
  refine ⟨rfl, ?_⟩
  unfold BF_is_whole
  cases d with
  | scr ns => exact hd.elim
  | st a => exact hd.elim
  | exc a => exact hd.elim
  | fn _ _ _ _ => exact hd.elim
  | _ => exact ⟨trivial, by first | exact h | exact ⟨trivial, h⟩⟩
theorem divisor_go (ft : FT) (fb : FS) (K : Fl → Prop) (s : S) (g : Nat) (hK : ∀ a : Int, a.natAbs = g → K (.nx [.val (.int a), .val (.int 0)] s))
    (hft : ft = wB (wOpv gNe 1 (wP (wC (.int 0))))) (hfb : fb = wPar 0 1 (wCons (wV 1) (wCons (wOpv gMod 0 (wPV 1)) wNil))) :
    ∀ (n : Nat) (a b : Int), b.natAbs < n → Int.gcd a b = g → whileW ft fb K n [.val (.int a), .val (.int b)] s := by
  subst hft hfb
  intro n
  induction n with
  | zero => intro a b h; omega
  | succ n ih =>
    intro a b h hg
    unfold whileW
    walk_at "wp"
    by_cases hb : b = 0
    · rw [if_neg (by simp [hb])]
      subst hb
      exact hK a (by simpa using hg)
    · rw [if_pos hb]
      have h1 := fmod_lt (a := a) hb
      exact ⟨hb, ih b (a.fmod b) (by omega) (by rw [gcd_fmod]; exact hg)⟩
theorem divisor_spec {a b : Int} {s : S} {k xq} (h : k (.val (.int (Int.gcd a b))) s) : F_divisor [.int a, .int b] s k xq := by
  refine ⟨rfl, ?_⟩
  unfold BF_divisor
  walk_at "wp"
  refine ⟨b.natAbs + 1, divisor_go _ _ _ s (Int.gcd a b) (fun c hc => ?_) rfl rfl _ a b (Nat.lt_succ_self _) rfl⟩
  walk_at "wp"
  have e : (if c < 0 then -c else c) = (Int.gcd a b : Int) := by
    rw [← hc]
    split <;> omega
  rw [e]
  exact h
def isFr : D → Bool
  | .tup [.int a, .int b] => decide (0 < b) && (Int.gcd a b == 1)
  | _ => false
theorem isFr_fr (q : Rat) : isFr (fr q) = true := by
  have h1 := q.den_nz
  have h2 : Int.gcd q.num (q.den : Int) = 1 := q.reduced
  unfold isFr fr
  simp [h2]
  omega
theorem isFr_fr' (q : Rat) : isFr (.tup [.int q.num, .int q.den]) = true := isFr_fr q
theorem isFr_elim {d : D} (h : isFr d = true) : ∃ q, d = fr q := by
  unfold isFr at h
  split at h
  · rename_i a b
    rw [Bool.and_eq_true] at h
    have hb : 0 < b := of_decide_eq_true h.1
    have hg : Int.gcd a b = 1 := by simpa using h.2
    have e1 : ((b.toNat : Nat) : Int) = b := by omega
    refine ⟨⟨a, b.toNat, by omega, ?_⟩, ?_⟩
    · show Nat.gcd a.natAbs b.toNat = 1
      have : b.toNat = b.natAbs := by omega
      rw [this]
      exact hg
    · unfold fr
      rw [e1]
  · exact absurd h (by simp)
def Pl (d : D) : Prop := notScr d ∧ ∀ ds, d = .tup ds → ∀ e ∈ ds, notScr e
theorem pl_fr (q : Rat) : Pl (fr q) := ⟨trivial, fun ds h e he => by
  unfold fr at h
  injection h with h
  subst h
  simp at he
  rcases he with rfl | rfl <;> exact trivial⟩
theorem is_fraction_spec {d : D} {s : S} {k xq} (hd : Pl d) (h : k (.val (.bl (isFr d))) s) : F_is_fraction [d] s k xq := by
  refine ⟨rfl, ?_⟩
  unfold BF_is_fraction
  obtain ⟨h1, h2⟩ := hd
  cases d with
  | scr ns => exact h1.elim
  | st a => exact h1.elim
  | exc a => exact h1.elim
  | fn _ _ _ _ => exact h1.elim
  | tup ds =>
    have t1 : isTy (.tup ds) "tuple" = true := by show tyB "tuple" "tuple" = true; decide
    walk_at "wp"
    simp only [t1, notScr, true_and, Bool.not_true, Bool.false_eq_true, if_false]
    match ds, h2, h with
    | [], h2, h => simpa [isFr] using h
    | [a], h2, h => simpa [isFr] using h
    | [a, b], h2, h =>
      have ha := h2 _ rfl a (by simp)
      have hb := h2 _ rfl b (by simp)
      simp only [List.length_cons, List.length_nil]
      rw [if_neg (by simp)]
      walk_at "wp"
      refine is_whole_spec ha ?_
      walk_at "wp"
      by_cases wa : isWh a = true
      · rw [if_neg (by simp [wa])]
        refine is_whole_spec hb ?_
        walk_at "wp"
        by_cases wb : isWh b = true
        · rw [if_neg (by simp [wb])]
          cases a with
          | int i =>
            cases b with
            | int j =>
              walk_at "wp"
              unfold isFr at h
              by_cases hj : 0 < j
              · rw [if_pos hj]
                refine divisor_spec ?_
                walk_at "wp"
                simp only [decide_eq_true hj, Bool.true_and] at h
                have e : (((Int.gcd i j : Nat) : Int) == 1) = (Int.gcd i j == 1) := by
                  rw [Bool.eq_iff_iff, beq_iff_eq, beq_iff_eq]
                  omega
                rw [e]
                exact h
              · rw [if_neg hj]
                simp only [decide_eq_false hj, Bool.false_and] at h
                exact h
            | _ => exact absurd wb (by simp [isWh])
          | _ => exact absurd wa (by simp [isWh])
        · rw [if_pos (by simp [wb])]
          have : isFr (.tup [a, b]) = false := by
            cases b <;> first | exact absurd rfl wb | (cases a <;> rfl)
          rw [this] at h
          exact h
      · rw [if_pos (by simp [wa])]
        have : isFr (.tup [a, b]) = false := by
          cases a <;> first | exact absurd rfl wa | rfl
        rw [this] at h
        exact h
    | a :: b :: c :: r, h2, h =>
      have e : ¬ (((a :: b :: c :: r).length : Nat) : Int) = 2 := by simp only [List.length_cons]; omega
      rw [if_pos e]
      have : isFr (.tup (a :: b :: c :: r)) = false := by cases a <;> first | rfl | (cases b <;> rfl)
      rw [this] at h
      exact h
  | _ =>
    exact ⟨trivial, h⟩
theorem rat_lt_iff (p q : Rat) : p.num * q.den < q.num * p.den ↔ p < q := (Rat.lt_iff p q).symm
theorem is_less_spec {p q : Rat} {s : S} {k xq n m} (hp : Sz n p) (hq : Sz m q) (hz : n + m ≤ 100000) (h : k (.val (.bl (decide (p < q)))) s) : F_is_less [fr p, fr q] s k xq := by
  refine ⟨rfl, ?_⟩
  unfold BF_is_less
  walk_at "wp"
  have dp : ((p.den : Int)).natAbs < 2 ^ n := by simpa using hp.2
  have dq : ((q.den : Int)).natAbs < 2 ^ m := by simpa using hq.2
  refine ⟨mulOk hp.1 dq (by omega), mulOk hq.1 dp (by omega), ?_⟩
  have e : decide (p.num * (q.den : Int) < q.num * (p.den : Int)) = decide (p < q) := by
    rw [Bool.eq_iff_iff, decide_eq_true_iff, decide_eq_true_iff]
    exact rat_lt_iff p q
  rw [e]
  exact h
def sgn (q : Rat) : Int := (if 0 < q.num then 1 else 0) - (if q.num < 0 then 1 else 0)
theorem sign_of_spec {q : Rat} {s : S} {k xq} (h : k (.val (.int (sgn q))) s) : F_sign_of [fr q] s k xq := by
  refine ⟨rfl, ?_⟩
  unfold BF_sign_of
  walk_at "wp"
  exact h
theorem sgn_neg0 (q : Rat) : sgn q < 0 ↔ q < 0 := by
  unfold sgn
  have h1 : q < 0 ↔ q.num < 0 := by
    have := Rat.lt_iff q 0
    simpa using this
  rw [h1]
  split <;> split <;> omega
theorem sgn_zero0 (q : Rat) : sgn q = 0 ↔ q = 0 := by
  have e : q = 0 ↔ q.num = 0 := Rat.num_eq_zero.symm
  rw [e]
  unfold sgn
  split <;> split <;> omega
def isSpot : D → Bool
  | .tup [a, b] => isFr a && isFr b && (match b with | .tup (.int n :: _) => decide (0 < n) | _ => false)
  | _ => false
theorem isSpot_fr (q w : Rat) : isSpot (.tup [fr q, fr w]) = decide (0 < w.num) := by
  unfold isSpot
  simp only [isFr_fr, Bool.true_and]
  rfl
theorem isSpot_elim {d : D} (h : isSpot d = true) : ∃ p : Rat × Rat, d = crD p ∧ 0 < p.2.num := by
  unfold isSpot at h
  split at h
  · rename_i a b
    rw [Bool.and_eq_true, Bool.and_eq_true] at h
    obtain ⟨q, rfl⟩ := isFr_elim h.1.1
    obtain ⟨w, rfl⟩ := isFr_elim h.1.2
    exact ⟨(q, w), rfl, of_decide_eq_true h.2⟩
  · exact absurd h (by simp)
def SpOk (d : D) : Prop := notScr d ∧ (∀ ds, d = .tup ds → ∀ e ∈ ds, Pl e) ∧ ∀ p, d = crD p → Sz 2000 p.1
theorem sgn_pos (q : Rat) : (0 < sgn q) = (0 < q.num) := by
  unfold sgn
  rw [eq_iff_iff]
  split <;> split <;> omega
theorem is_spot_spec {d : D} {s : S} {k xq} (hd : SpOk d) (h : k (.val (.bl (isSpot d))) s) : F_is_spot [d] s k xq := by
  refine ⟨rfl, ?_⟩
  unfold BF_is_spot
  obtain ⟨h1, h2, -⟩ := hd
  cases d with
  | scr ns => exact h1.elim
  | st a => exact h1.elim
  | exc a => exact h1.elim
  | fn _ _ _ _ => exact h1.elim
  | tup ds =>
    have t1 : isTy (.tup ds) "tuple" = true := by show tyB "tuple" "tuple" = true; decide
    walk_at "wp"
    simp only [t1, notScr, true_and, Bool.not_true, Bool.false_eq_true, if_false]
    match ds, h2, h with
    | [], h2, h => simpa [isSpot] using h
    | [a], h2, h => simpa [isSpot] using h
    | [a, b], h2, h =>
      have ha := h2 _ rfl a (by simp)
      have hb := h2 _ rfl b (by simp)
      simp only [List.length_cons, List.length_nil]
      rw [if_neg (by simp)]
      walk_at "wp"
      refine is_fraction_spec ha ?_
      walk_at "wp"
      by_cases wa : isFr a = true
      · rw [if_neg (by simp [wa])]
        refine is_fraction_spec hb ?_
        walk_at "wp"
        by_cases wb : isFr b = true
        · rw [if_neg (by simp [wb])]
          obtain ⟨q, rfl⟩ := isFr_elim wa
          obtain ⟨w, rfl⟩ := isFr_elim wb
          refine sign_of_spec ?_
          walk_at "wp"
          rw [isSpot_fr] at h
          simp only [sgn_pos]
          exact h
        · rw [if_pos (by simp [wb])]
          have : isSpot (.tup [a, b]) = false := by
            unfold isSpot
            simp only [wb, Bool.and_false, Bool.false_and]
          rw [this] at h
          exact h
      · rw [if_pos (by simp [wa])]
        have : isSpot (.tup [a, b]) = false := by
          unfold isSpot
          simp only [wa, Bool.false_and]
        rw [this] at h
        exact h
    | a :: b :: c :: r, h2, h =>
      have e : ¬ (((a :: b :: c :: r).length : Nat) : Int) = 2 := by simp only [List.length_cons]; omega
      rw [if_pos e]
      exact h
  | _ => exact ⟨trivial, h⟩
def spotQ : D → Rat
  | .tup (.tup [.int a, .int b] :: _) => (a : Rat) / (b : Rat)
  | _ => 0
theorem spotQ_crD (p : Rat × Rat) : spotQ (crD p) = p.1 := by
  show (p.1.num : Rat) / ((p.1.den : Int) : Rat) = p.1
  rw [← Rat.divInt_eq_div, Rat.num_divInt_den]
def risen (ds : List D) : Bool := (ds.zip (ds.drop 1)).all fun p => decide (spotQ p.1 < spotQ p.2)
def isCrowd : D → Bool
  | .lst ds => ds.all isSpot && risen ds
  | _ => false
theorem isCrowd_lst (ds : List D) : isCrowd (.lst ds) = (ds.all isSpot && risen ds) := rfl
def CrOk (d : D) : Prop := notScr d ∧ ∀ ds, d = .lst ds → ds.length < 1000 ∧ ∀ e ∈ ds, SpOk e
theorem all_spot : ∀ {ds : List D}, ds.all isSpot = true → ∃ c : List (Rat × Rat), ds = c.map crD ∧ ∀ p ∈ c, 0 < p.2.num
  | [], _ => ⟨[], rfl, by simp⟩
  | d :: ds, h => by
    rw [List.all_cons, Bool.and_eq_true] at h
    obtain ⟨p, rfl, hp⟩ := isSpot_elim h.1
    obtain ⟨c, rfl, hc⟩ := all_spot h.2
    refine ⟨p :: c, rfl, fun x hx => ?_⟩
    rcases List.mem_cons.mp hx with z | z
    · exact z ▸ hp
    · exact hc x z
theorem risen_fr (c : List (Rat × Rat)) : risen (c.map crD) = (c.zip (c.drop 1)).all fun p => decide (p.1.1 < p.2.1) := by
  unfold risen
  rw [← List.map_drop, List.zip_map, List.all_map]
  congr 1
  funext p
  show decide (spotQ (crD p.1) < spotQ (crD p.2)) = _
  rw [spotQ_crD, spotQ_crD]
theorem risen_iff (c : List (Rat × Rat)) : ((c.zip (c.drop 1)).all fun p => decide (p.1.1 < p.2.1)) = true ↔ ∀ i (h : i + 1 < c.length), c[i].1 < c[i + 1].1 := by
  rw [List.all_eq_true]
  constructor
  · intro h i hi
    have hl : i < (c.zip (c.drop 1)).length := by simp; omega
    have := h _ (List.getElem_mem hl)
    simp only [List.getElem_zip, List.getElem_drop] at this
    have := of_decide_eq_true this
    simpa [Nat.add_comm] using this
  · intro h p hp
    obtain ⟨i, hi, rfl⟩ := List.mem_iff_getElem.mp hp
    simp only [List.getElem_zip, List.getElem_drop]
    have hi' : i + 1 < c.length := by simp at hi; omega
    have := h i hi'
    simpa [Nat.add_comm] using this
theorem cut_1 (c : List (Rat × Rat)) : cutD (c.map crD) (some 1) none = (c.drop 1).map crD := by
  unfold cutD HT.sIx
  simp
  cases c with
  | nil => rfl
  | cons p c => simp [List.take_of_length_le]
theorem is_crowd_spec {d : D} {s : S} {k xq} (hd : CrOk d) (h : k (.val (.bl (isCrowd d))) s) : F_is_crowd [d] s k xq := by
  refine ⟨rfl, ?_⟩
  unfold BF_is_crowd
  obtain ⟨h1, h2⟩ := hd
  cases d with
  | scr ns => exact h1.elim
  | st a => exact h1.elim
  | exc a => exact h1.elim
  | fn _ _ _ _ => exact h1.elim
  | lst ds =>
    obtain ⟨hl, h3⟩ := h2 ds rfl
    have sb := size_big
    have t1 : isTy (.lst ds) "list" = true := by show tyB "list" "list" = true; decide
    walk_at "wp"
    simp only [t1, notScr, true_and, Bool.true_eq_false, if_false]
    refine ⟨by omega, ?_⟩
    refine compW_mapD (g := fun d => .bl (isSpot d)) ds [] ?_ ?_
    · intro d hd K hK
      walk_at "wp"
      refine is_spot_spec (h3 d hd) ?_
      walk_at "wp"
      exact hK
    · walk_at "wp"
      refine ⟨ds.map isSpot, by simp, ?_⟩
      have e : (ds.map isSpot).all id = ds.all isSpot := by simp [List.all_map]
      rw [e]
      by_cases ha : ds.all isSpot = true
      · rw [if_neg (by simp [ha])]
        rw [isCrowd_lst, ha, Bool.true_and] at h
        obtain ⟨c, rfl, hc⟩ := all_spot ha
        walk_at "wp"
        have ez : zipD (c.map crD) (cutD (c.map crD) (some 1) none) = (c.zip (c.drop 1)).map fun p => .tup [crD p.1, crD p.2] := by
          rw [cut_1]
          unfold zipD
          rw [List.zip_map, List.map_map]
          rfl
        rw [ez]
        refine ⟨by simp at hl ⊢; omega, ?_⟩
        refine compW_map (g := fun p => .bl (decide (p.1.1 < p.2.1))) _ [] ?_ ?_
        · intro p hp K hK
          have m1 : p.1 ∈ c := (List.of_mem_zip hp).1
          have m2 : p.2 ∈ c := List.mem_of_mem_drop (List.of_mem_zip hp).2
          have z1 := (h3 _ (List.mem_map.mpr ⟨_, m1, rfl⟩)).2.2 _ rfl
          have z2 := (h3 _ (List.mem_map.mpr ⟨_, m2, rfl⟩)).2.2 _ rfl
          unfold crD
          walk_at "wp"
          refine is_less_spec z1 z2 (by decide) ?_
          walk_at "wp"
          exact hK
        · walk_at "wp"
          refine ⟨(c.zip (c.drop 1)).map fun p => decide (p.1.1 < p.2.1), by simp, ?_⟩
          rw [risen_fr] at h
          have e2 : ((c.zip (c.drop 1)).map fun p => decide (p.1.1 < p.2.1)).all id = (c.zip (c.drop 1)).all fun p => decide (p.1.1 < p.2.1) := by
            rw [List.all_map]
            rfl
          rw [e2]
          exact h
      · rw [if_pos (by simpa using ha)]
        have ha' : ds.all isSpot = false := by simpa using ha
        rw [isCrowd_lst, ha', Bool.false_and] at h
        exact h
  | _ => exact ⟨trivial, h⟩
def isPoly : D → Bool
  | .lst ds => ds.all isFr && (ds.isEmpty || !(match ds.getLast? with | some d => d.eqv (fr 0) | none => false))
  | _ => false
def PlL (d : D) : Prop := Pl d ∧ ∀ ds, d = .lst ds → ds.length < sizeLine ∧ ∀ e ∈ ds, Pl e
theorem all_fr : ∀ {ds : List D}, ds.all isFr = true → ∃ l : List Rat, ds = l.map fr
  | [], _ => ⟨[], rfl⟩
  | d :: ds, h => by
    rw [List.all_cons, Bool.and_eq_true] at h
    obtain ⟨q, rfl⟩ := isFr_elim h.1
    obtain ⟨l, rfl⟩ := all_fr h.2
    exact ⟨q :: l, rfl⟩
theorem isPoly_lst (ds : List D) : isPoly (.lst ds) = (ds.all isFr && (ds.isEmpty || !(match ds.getLast? with | some d => d.eqv (fr 0) | none => false))) := rfl
theorem isPoly_fr (l : List Rat) : isPoly (.lst (l.map fr)) = true ↔ Clean l := by
  have h1 : (l.map fr).all isFr = true := by simp [isFr_fr]
  have h0 : (l.map fr).isEmpty = l.isEmpty := by cases l <;> rfl
  unfold isPoly Clean
  simp only [h1, h0, List.getLast?_map, Bool.true_and]
  cases hl : l.getLast? with
  | none =>
    have : l = [] := by simpa using hl
    simp [this]
  | some q =>
    have : l ≠ [] := by intro z; subst z; simp at hl
    simp [this, eqv_fr]
theorem last_ix {l : List Rat} (h : l ≠ []) : ∃ q, l.getLast? = some q ∧ atI (l.map fr) (-1) = some (fr q) := by
  refine ⟨l.getLast h, List.getLast?_eq_some_getLast h, ?_⟩
  have hl : 0 < l.length := List.length_pos_iff.mpr h
  unfold atI ixN
  rw [if_neg (by decide)]
  simp only [List.length_map]
  rw [if_pos (by omega)]
  have e : ((l.length : Int) + -1).toNat = l.length - 1 := by omega
  rw [Int.add_comm] at e
  simp [e, List.getLast_eq_getElem, hl]
  exact ⟨_, List.getElem?_eq_getElem (by omega), rfl⟩
theorem gNe_zero {q : Rat} {p : Prop} (h : p) : (EqOk (fr q) ∧ EqOk (.tup [.int 0, .int 1])) ∧ p :=
  ⟨⟨(nice_fr q).eqOk (by decide), (nice_fr 0).eqOk (by decide)⟩, h⟩
theorem is_polynomial_spec {d : D} {s : S} {k xq} (hd : PlL d) (h : k (.val (.bl (isPoly d))) s) : F_is_polynomial [d] s k xq := by
  refine ⟨rfl, ?_⟩
  unfold BF_is_polynomial
  obtain ⟨h1, h2⟩ := hd
  cases d with
  | scr ns => exact h1.1.elim
  | st a => exact h1.1.elim
  | exc a => exact h1.1.elim
  | fn _ _ _ _ => exact h1.1.elim
  | lst ds =>
    obtain ⟨hl, h3⟩ := h2 ds rfl
    have t1 : isTy (.lst ds) "list" = true := by show tyB "list" "list" = true; decide
    walk_at "wp"
    simp only [t1, notScr, true_and, Bool.true_eq_false, if_false]
    refine ⟨hl, ?_⟩
    refine compW_mapD (g := fun d => .bl (isFr d)) ds [] ?_ ?_
    · intro d hd K hK
      walk_at "wp"
      refine is_fraction_spec (h3 d hd) ?_
      walk_at "wp"
      exact hK
    · walk_at "wp"
      refine ⟨ds.map isFr, by simp, ?_⟩
      have e : (ds.map isFr).all id = ds.all isFr := by simp [List.all_map]
      rw [e]
      by_cases ha : ds.all isFr = true
      · rw [if_neg (by simp [ha])]
        obtain ⟨l, rfl⟩ := all_fr ha
        by_cases hn : l = []
        · subst hn
          walk_at "wp"
          exact ⟨by decide, h⟩
        · have e0 : (l.map fr).isEmpty = false := by simpa using hn
          obtain ⟨q, q1, q2⟩ := last_ix hn
          walk_at "wp"
          refine ⟨by decide, ?_⟩
          rw [if_neg (by simp [e0])]
          refine ⟨_, q2, ?_⟩
          refine gNe_zero ?_
          simp only [isPoly_lst, ha, e0, List.getLast?_map, q1, Option.map_some, Bool.true_and, Bool.false_or] at h
          exact h
      · rw [if_pos (by simpa using ha)]
        have ha' : ds.all isFr = false := by simpa using ha
        rw [isPoly_lst, ha', Bool.false_and] at h
        exact h
  | _ => exact ⟨trivial, h⟩
def iT (n : Int) : Str := (toString n : String)
theorem tl_nat (n : Nat) : TL.tl (iT (n : Nat)) = TL.numL n := TL.tl_num n
theorem slen (x y : Str) : (x ++ y).length = x.length + y.length := by
  show (x.cps ++ y.cps).size = _
  exact Array.size_append
theorem tl_len (x : Str) : (TL.tl x).length = x.length := Array.length_toList
theorem tl_negT (m : Nat) : TL.tl (iT (Int.negSucc m)) = 45 :: TL.numL (m + 1) := by
  have e : toString (Int.negSucc m) = "-" ++ toString ((m + 1 : Nat) : Int) := rfl
  show TL.tl (Str.ofString (toString (Int.negSucc m))) = _
  rw [e, TL.tl_ofString, String.toList_append, List.map_append, ← TL.tl_ofString, ← TL.tl_ofString]
  show _ ++ TL.tl (iT ((m + 1 : Nat) : Int)) = _
  rw [tl_nat]
  rfl
theorem log_lt {z : Int} {n : Nat} (h : z.natAbs < 2 ^ n) (hn : n ≤ 1900) : z.natAbs.log2 < 1920 := by
  by_cases h0 : z.natAbs = 0
  · rw [h0]; decide
  · exact Nat.lt_of_lt_of_le ((Nat.log2_lt h0).mpr h) (by omega)
def frT (q : Rat) : Str := if q.den = 1 then iT q.num else iT q.num ++ ("/" : String) ++ iT (q.den : Nat)
theorem need_text_spec {x : Str} {s : S} {k xq} (h : k (.val .non) s) : F_need_text [.str x] s k xq := by
  refine ⟨rfl, ?_⟩
  unfold BF_need_text
  walk_at "wz"
  have t : isTy (.str x) "str" = true := by show tyB "str" "str" = true; decide
  refine ⟨trivial, ?_⟩
  rw [t, if_neg (by simp)]
  exact h
open NumText in
theorem int_back (z : Int) (hl : (iT z).length ≤ 4300) : PySem.intText? (iT z) = some z := by
  cases z with
  | ofNat n =>
    have e : (iT (Int.ofNat n)).cps.toList = TL.numL n := tl_nat n
    rw [intText_digits (x := iT (Int.ofNat n)) (by rw [e]; exact TL.numL_digits n) (by rw [e]; exact TL.numL_ne n) hl, e, TL.numL_val]
    rfl
  | negSucc m =>
    have e : (iT (Int.negSucc m)).cps.toList = 45 :: TL.numL (m + 1) := tl_negT m
    rw [intText_neg e (TL.numL_digits (m + 1)) (TL.numL_ne (m + 1)) hl, TL.numL_val]
    rfl
theorem numL_head : ∀ n : Nat, (TL.numL n).length > 1 → ∃ c r, TL.numL n = c :: r ∧ c ≠ 48 := by
  intro n
  induction n using Nat.strongRecOn with
  | _ n ih =>
    intro h
    by_cases h10 : n < 10
    · rw [TL.numL_lt h10] at h
      simp at h
    · rw [TL.numL_step (by omega)] at h ⊢
      by_cases h1 : n / 10 < 10
      · rw [TL.numL_lt h1]
        exact ⟨48 + n / 10, [48 + n % 10], rfl, by omega⟩
      · obtain ⟨c, r, e, hc⟩ := ih (n / 10) (by omega) (by
          rw [TL.numL_step (by omega), List.length_append]
          have := List.length_pos_iff.mpr (TL.numL_ne (n / 10 / 10))
          simp
          omega)
        exact ⟨c, r ++ [48 + n % 10], by rw [e]; rfl, hc⟩
theorem starts_one (x : Str) (c : Nat) : Txt.startswith x ⟨#[c]⟩ = (TL.tl x).head?.any (· == c) := by
  unfold Txt.startswith
  rw [Bool.eq_iff_iff]
  cases e : TL.tl x with
  | nil =>
    have : x.length = 0 := by rw [← tl_len, e]; rfl
    have h1 : (⟨#[c]⟩ : Str).length = 1 := rfl
    simp [this, h1]
  | cons a r =>
    have : x.length = r.length + 1 := by rw [← tl_len, e]; rfl
    have h1 : (⟨#[c]⟩ : Str).length = 1 := rfl
    simp [this, h1]
    have e' : x.cps.toList = a :: r := e
    rw [PySem.StrLaws.subAt_eq, e', h1]
    simp
theorem mk_one (s : String) (c : Char) (h : s.toList = [c]) : Str.ofString s = ⟨#[c.toNat]⟩ := by
  have e : TL.tl (Str.ofString s) = [c.toNat] := by rw [TL.tl_ofString, h]; rfl
  have : (Str.ofString s).cps = #[c.toNat] := Array.toList_inj.mp e
  cases hs : Str.ofString s with
  | mk a => rw [hs] at this; simp only at this; rw [this]
theorem dash_nat (n : Nat) : Txt.startswith (iT (n : Nat)) (Str.ofString "-") = false := by
  rw [mk_one "-" '-' rfl, starts_one, tl_nat]
  cases e : TL.numL n with
  | nil => rfl
  | cons a r =>
    have := TL.numL_digits n a (by rw [e]; exact List.mem_cons_self ..)
    show (a == 45) = false
    simp
    omega
theorem dash_neg (m : Nat) : Txt.startswith (iT (Int.negSucc m)) (Str.ofString "-") = true := by
  rw [mk_one "-" '-' rfl, starts_one, tl_negT]
  rfl
theorem eqOk_str {x : Str} (h : ∀ c ∈ TL.tl x, c < 0x110000) : EqOk (.str x) := Nice.eqOk (n := 0) (show PyData.strOk x = true by
  unfold PyData.strOk
  rw [← Array.all_toList, List.all_eq_true]
  exact fun c hc => decide_eq_true (h c hc)) (by decide)
theorem str_ext {x y : Str} (h : TL.tl x = TL.tl y) : x = y := by
  cases x
  cases y
  exact congrArg Str.mk (Array.toList_inj.mp h)
theorem eqv_str (x y : Str) : (D.str x).eqv (.str y) = decide (TL.tl x = TL.tl y) := by
  show PyData.eqv (.str x) (.str y) = _
  by_cases h : TL.tl x = TL.tl y
  · have := str_ext h
    subst this
    simp [PyData.eqv]
  · have : x ≠ y := fun e => h (by rw [e])
    rw [decide_eq_false h]
    simp [PyData.eqv, this]
theorem whole_in_spec {z : Int} {s : S} {k xq} (hl : (iT z).length ≤ 640) (h : k (.val (.int z)) s) : F_whole_in [.str (iT z)] s k xq := by
  have sb := size_big
  have hb := int_back z (by omega)
  have okE : EqOk (.str (Str.ofString "")) := Nice.eqOk (n := 0) (show PyData.strOk (Str.ofString "") = true by decide +kernel) (by decide)
  have ok0 : EqOk (.str (Str.ofString "0")) := Nice.eqOk (n := 0) (show PyData.strOk (Str.ofString "0") = true by decide +kernel) (by decide)
  have okM : EqOk (.str (Str.ofString "-0")) := Nice.eqOk (n := 0) (show PyData.strOk (Str.ofString "-0") = true by decide +kernel) (by decide)
  have dig : ∀ n c, c ∈ TL.numL n → 48 ≤ c ∧ c < 58 := fun n c hc => by
    have := TL.numL_digits n c hc
    omega
  have fin : ∀ (n : Nat) (F : Str), TL.tl F = TL.numL n → F.length ≤ 640 → seqK (wSeq (wIfS (wOr (wB (wOpv gEq 1 (wP (wC (.str (Str.ofString "")))))) (wNot (wB (wCB1 gAll (wP (wComp (wItS (wV 1)) (wName 2) wYes (wOpv gInS 2 (wP (wC (.str (Str.ofString "0123456789"))))) [2]))))))
  (wRaise xq (Str.ofString "NoText"))
  wNext)
  (wSeq (wIfS (wAnd (wB (wOp gEq (wOp gIxS (wV 1) (wP (wC (.int 0)))) (wP (wC (.str (Str.ofString "0")))))) (wB (wOp gGt (wCB1 gLen (wPV 1)) (wP (wC (.int 1))))))
  (wRaise xq (Str.ofString "NoText"))
  wNext)
  (wRet (wCB1 gIntS (wPV 0))))) (kBody k) (.nx [.val (.str (iT z)), .val (.str F), .no] s) := by
    intro n F hF hFl
    walk_at "wz"
    refine ⟨⟨eqOk_str fun c hc => ?_, okE⟩, ?_⟩
    · rw [hF] at hc
      have := dig n c hc
      omega
    rw [eqv_str, hF, decide_eq_false (fun e => TL.numL_ne n (by rw [e]; rfl)), if_neg (by decide)]
    have hcl : (chars F).length = F.length := by
      unfold chars
      rw [List.length_map, ← tl_len]
    refine ⟨by omega, ?_⟩
    refine compW_mapD (g := fun _ => .bl true) (chars F) [] (fun e he K hK => ?_) ?_
    · unfold chars at he
      obtain ⟨c, hc, rfl⟩ := List.mem_map.mp he
      have hc2 : c ∈ TL.numL n := by rw [← hF]; exact hc
      have := dig n c hc2
      walk_at "wz"
      refine ⟨c, rfl, ?_⟩
      have e10 : TL.tl (Str.ofString "0123456789") = [48, 49, 50, 51, 52, 53, 54, 55, 56, 57] := by rw [TL.tl_ofString]; rfl
      have ein : c ∈ (Str.ofString "0123456789").cps.toList := by
        show c ∈ TL.tl (Str.ofString "0123456789")
        rw [e10]
        simp only [List.mem_cons, List.not_mem_nil, or_false]
        omega
      rw [decide_eq_true ein]
      exact hK
    walk_at "wz"
    refine ⟨(chars F).map fun _ => true, by simp, ?_⟩
    rw [show ((chars F).map fun _ => true).all id = true by simp, if_neg (by decide)]
    walk_at "wz"
    refine ⟨by omega, ?_⟩
    have fin2 : seqK (wRet (wCB1 gIntS (wPV 0))) (kBody k) (.nx [.val (.str (iT z)), .val (.str F), .no] s) := by
      walk_at "wz"
      exact ⟨z, hb, hl, h⟩
    have e00 : TL.tl (Str.ofString "0") = [48] := by rw [TL.tl_ofString]; rfl
    cases hc : TL.numL n with
    | nil => exact absurd hc (TL.numL_ne n)
    | cons c r =>
      rw [hc] at hF
      have hFl2 : F.length = r.length + 1 := by rw [← tl_len, hF]; rfl
      have eF : F.cps.toList = c :: r := hF
      refine ⟨c, by rw [eF, show (0 : Int) = ((0 : Nat) : Int) from rfl, atI_nat' (by simp)]; rfl, ⟨eqOk_str fun d hd => ?_, ok0⟩, ?_⟩
      · have : d = c := by
          have : TL.tl (⟨#[c]⟩ : Str) = [c] := rfl
          rw [this] at hd
          exact List.mem_singleton.mp hd
        have := dig n c (by rw [hc]; exact List.mem_cons_self ..)
        omega
      have e1 : TL.tl (⟨#[c]⟩ : Str) = [c] := rfl
      rw [eqv_str, e1, e00]
      by_cases h48 : c = 48
      · rw [h48, decide_eq_true rfl, if_pos rfl]
        have hr : r.length = 0 := by
          refine Classical.byContradiction fun w => ?_
          obtain ⟨c', r', e', hne⟩ := numL_head n (by rw [hc]; simp; omega)
          rw [hc] at e'
          injection e' with e' _
          omega
        refine ⟨by omega, ?_⟩
        rw [if_neg (by omega)]
        exact fin2
      · rw [decide_eq_false (fun e => by injection e with e _; exact h48 e), if_neg (by decide)]
        exact fin2
  refine ⟨rfl, ?_⟩
  unfold BF_whole_in
  walk_at "wz"
  cases z with
  | ofNat n =>
    have e1 : Txt.startswith (iT (Int.ofNat n)) (Str.ofString "-") = false := dash_nat n
    rw [e1, if_neg (by decide)]
    exact fin n _ (tl_nat n) hl
  | negSucc m =>
    have e1 : Txt.startswith (iT (Int.negSucc m)) (Str.ofString "-") = true := dash_neg m
    rw [e1, if_pos rfl]
    walk_at "wz"
    have hT := tl_negT m
    have hlen : (iT (Int.negSucc m)).length = (TL.numL (m + 1)).length + 1 := by rw [← tl_len, hT]; rfl
    refine ⟨⟨eqOk_str fun c hc => ?_, okM⟩, ?_⟩
    · rw [hT] at hc
      rcases List.mem_cons.mp hc with rfl | hc
      · decide
      · have := dig _ c hc
        omega
    have em : TL.tl (Str.ofString "-0") = [45, 48] := by rw [TL.tl_ofString]; rfl
    have hne : ¬ 45 :: TL.numL (m + 1) = [45, 48] := fun e => by
      injection e with _ e
      have e2 : TL.numL 0 = [48] := TL.numL_lt (by decide)
      have := TL.numL_inj (e.trans e2.symm)
      omega
    rw [eqv_str, hT, em, decide_eq_false hne, if_pos rfl]
    refine ⟨by omega, ?_⟩
    have hcut : TL.tl (cutS (iT (Int.negSucc m)) (some 1) none) = TL.numL (m + 1) := by
      unfold cutS
      show (((iT (Int.negSucc m)).cps.toList.drop _).take _).toArray.toList = _
      have eT : (iT (Int.negSucc m)).cps.toList = 45 :: TL.numL (m + 1) := hT
      have s1 : HT.sIx (iT (Int.negSucc m)).length 0 (some 1) = 1 := by
        have := HT.sIx_nat (iT (Int.negSucc m)).length 0 1
        rw [show ((1 : Nat) : Int) = 1 from rfl] at this
        rw [this]
        omega
      have s2 : HT.sIx (iT (Int.negSucc m)).length (iT (Int.negSucc m)).length none = (iT (Int.negSucc m)).length := rfl
      rw [s1, s2, eT, List.drop_succ_cons, List.drop_zero, List.take_of_length_le (by omega)]
    refine fin (m + 1) _ hcut ?_
    rw [← tl_len, hcut]
    omega
theorem _law_cell_at_spec {ns : List Int} {i : Nat} {s : S} {k xq} {p : Int → Prop} (h0 : p 0) (hp : ∀ z ∈ ns, p z) (h : ∀ z, p z → k (.val (.int z)) s) : F__law_cell_at [.scr ns, .int i] s k xq := by
  refine ⟨rfl, ?_⟩
  unfold BF__law_cell_at
  walk_at "wp"
  by_cases hi : (i : Int) < ns.length
  · rw [if_pos hi]
    have hi' : i < ns.length := by omega
    refine ⟨ns[i], ?_, h _ (hp _ (List.getElem_mem hi'))⟩
    rw [atI_nat' hi', List.getElem?_eq_getElem hi']
  · rw [if_neg hi]
    exact h _ h0
theorem _law_state_spec {ns : List Int} {i : Nat} {s : S} {k xq} (hb : ∀ z ∈ ns, PySem.Builtin.Int.intBits z ≤ 1048576) (h : ∀ x b, StOk x b → k (.own [.int x, .bl b]) s) : F__law_state [.scr ns, .int i] s k xq := by
  refine ⟨rfl, ?_⟩
  unfold BF__law_state
  walk_at "wp"
  refine _law_cell_at_spec (p := fun z => PySem.Builtin.Int.intBits z ≤ 1048576) (by decide) hb fun z hz => ?_
  walk_at "wp"
  have e : (10 : Int) ^ (18 : Int).toNat = 1000000000000000000 := by decide
  rw [e]
  refine ⟨⟨by decide, by decide, by decide⟩, ?_⟩
  by_cases hi : (1000000000000000000 : Int) ≤ z
  · rw [if_pos hi]
    refine ⟨⟨by decide, by decide, by decide⟩, by show 2 ≤ sizeLine; decide, h _ _ ⟨by omega, ?_, by simp⟩⟩
    exact ⟨1048576, Nat.le_refl _, Nat.lt_of_le_of_lt (by omega) (lt_of_bits hz)⟩
  · rw [if_neg hi]
    have h1 := Int.fmod_nonneg_of_pos z (show (0 : Int) < 2147483647 by decide)
    have h2 := Int.fmod_lt_of_pos z (show (0 : Int) < 2147483647 by decide)
    refine ⟨by decide, by show 2 ≤ sizeLine; decide, h _ _ ⟨h1, ⟨31, by decide, ?_⟩, fun _ => h2⟩⟩
    omega
theorem _law_take_spec {x : Int} {b : Bool} {a : Addr} {m : Int} {k xq} (hx : StOk x b) (hm : 0 < m) (hm2 : m < 2 ^ 40) (h : ∀ r x', 0 ≤ r → r < m → StOk x' b → k (.val (.int r)) (some ⟨x', b, a⟩)) : F__law_take [.st a, .int m] (some ⟨x, b, a⟩) k xq := by
  refine ⟨rfl, ?_⟩
  unfold BF__law_take
  walk_at "wp"
  obtain ⟨h1, ⟨n, hn, h2⟩, h3⟩ := hx
  cases b with
  | true =>
    rw [if_pos rfl]
    have e1 := Int.fmod_nonneg_of_pos x hm
    have e2 := Int.fmod_lt_of_pos x hm
    have e3 : x.fdiv m = x / m := Int.fdiv_eq_ediv_of_nonneg _ (by omega)
    have e4 : 0 ≤ x / m := Int.ediv_nonneg h1 (by omega)
    have e5 : (x / m).natAbs ≤ x.natAbs := Int.natAbs_ediv_le_natAbs _ _
    refine ⟨by omega, divOk (n := 40) (by omega) (by omega) (by decide), h _ _ e1 e2 ⟨by rw [e3]; exact e4, ⟨n, hn, by rw [e3]; omega⟩, by simp⟩⟩
  | false =>
    simp only [Bool.false_eq_true, if_false]
    have h3 := h3 rfl
    have hx1 : x.natAbs < 2 ^ 31 := by omega
    generalize hA : (x * 48271 + 29).fmod 2147483647 = A
    have a1 : 0 ≤ A := by rw [← hA]; exact Int.fmod_nonneg_of_pos _ (by decide)
    have a2 : A < 2147483647 := by rw [← hA]; exact Int.fmod_lt_of_pos _ (by decide)
    have a3 : A.natAbs < 2 ^ 31 := by omega
    generalize hB : (A * A + 39373 * A + 7).fmod 2147483629 = B
    have b1 : 0 ≤ B := by rw [← hB]; exact Int.fmod_nonneg_of_pos _ (by decide)
    have b2 : B < 2147483629 := by rw [← hB]; exact Int.fmod_lt_of_pos _ (by decide)
    have b3 : B.natAbs < 2 ^ 31 := by omega
    generalize hC : (B * B + 16807 * B).fmod 2147483587 = C
    refine ⟨mulOk hx1 (m := 16) (by decide) (by decide), by decide, mulOk a3 a3 (by decide), mulOk (n := 16) (by decide) a3 (by decide), by decide, mulOk b3 b3 (by decide), mulOk (n := 16) (by decide) b3 (by decide), by decide, divOk (n := 20) (by decide) (by decide) (by decide), by omega, ?_⟩
    exact h _ _ (Int.fmod_nonneg_of_pos _ hm) (Int.fmod_lt_of_pos _ hm) ⟨a1, ⟨31, by decide, a3⟩, fun _ => a2⟩
theorem _law_divisor_go (ft : FT) (fb : FS) (K : Fl → Prop) (s : S) (g : Nat) (hK : ∀ a : Int, a.natAbs = g → K (.nx [.val (.int a), .val (.int 0)] s))
    (hft : ft = wB (wOpv gNe 1 (wP (wC (.int 0))))) (hfb : fb = wPar 0 1 (wCons (wV 1) (wCons (wOpv gMod 0 (wPV 1)) wNil))) :
    ∀ (n : Nat) (a b : Int), b.natAbs < n → Int.gcd a b = g → whileW ft fb K n [.val (.int a), .val (.int b)] s := by
  subst hft hfb
  intro n
  induction n with
  | zero => intro a b h; omega
  | succ n ih =>
    intro a b h hg
    unfold whileW
    walk_at "wp"
    by_cases hb : b = 0
    · rw [if_neg (by simp [hb])]
      subst hb
      exact hK a (by simpa using hg)
    · rw [if_pos hb]
      have h1 := fmod_lt (a := a) hb
      exact ⟨hb, ih b (a.fmod b) (by omega) (by rw [gcd_fmod]; exact hg)⟩
theorem _law_divisor_spec {a b : Int} {s : S} {k xq} (h : k (.val (.int (Int.gcd a b))) s) : F__law_divisor [.int a, .int b] s k xq := by
  refine ⟨rfl, ?_⟩
  unfold BF__law_divisor
  walk_at "wp"
  refine ⟨b.natAbs + 1, _law_divisor_go _ _ _ s (Int.gcd a b) (fun c hc => ?_) rfl rfl _ a b (Nat.lt_succ_self _) rfl⟩
  walk_at "wp"
  have e : (if c < 0 then -c else c) = (Int.gcd a b : Int) := by
    rw [← hc]
    split <;> omega
  rw [e]
  exact h
theorem _law_low_spec {t b : Int} {s : S} {k xq} (hb : b ≠ 0) {n : Nat} (hz : b.natAbs < 2 ^ n) (hn : n ≤ 60000000) (h : k (.val (fr ((t : Rat) / (b : Rat)))) s) : F__law_low [.int t, .int b] s k xq := by
  refine ⟨rfl, ?_⟩
  unfold BF__law_low
  walk_at "wp"
  refine _law_divisor_spec ?_
  walk_at "wp"
  rw [fr_ratio hb] at h
  have h1 := gcd_ok (t := t) hb hz hn
  by_cases hlt : b < 0
  · rw [if_pos hlt, if_pos hlt] at h
    rw [if_pos hlt]
    exact ⟨(h1 t).2, (h1 b).2, by show 2 ≤ sizeLine; decide, h⟩
  · rw [if_neg hlt, if_neg hlt] at h
    rw [if_neg hlt]
    exact ⟨(h1 t).1, (h1 b).1, by show 2 ≤ sizeLine; decide, h⟩
theorem _law_small_spec {x : Int} {b : Bool} {a : Addr} {k xq} (hx : StOk x b) (h : ∀ q x', Six 36 q → StOk x' b → k (.val (fr q)) (some ⟨x', b, a⟩)) : F__law_small [.st a] (some ⟨x, b, a⟩) k xq := by
  refine ⟨rfl, ?_⟩
  unfold BF__law_small
  walk_at "wp"
  refine _law_take_spec hx (by decide) (by decide) fun t x1 t0 t1 h1 => ?_
  walk_at "wp"
  refine _law_take_spec h1 (by decide) (by decide) fun u x2 u0 u1 h2 => ?_
  walk_at "wp"
  refine ⟨by show 3 ≤ sizeLine; decide, ?_⟩
  refine _law_take_spec h2 (by decide) (by decide) fun v x3 v0 v1 h3 => ?_
  walk_at "wp"
  have : v = 0 ∨ v = 1 ∨ v = 2 := by omega
  rcases this with rfl | rfl | rfl
  · refine ⟨_, atI0, ?_⟩
    walk_at "wp"
    exact _law_low_spec (n := 3) (by decide) (by decide) (by decide) (h _ _ (six_div (m := 6) (by decide) (by omega)) h3)
  · refine ⟨_, atI1, ?_⟩
    walk_at "wp"
    exact _law_low_spec (n := 3) (by decide) (by decide) (by decide) (h _ _ (six_div (m := 6) (by decide) (by omega)) h3)
  · refine ⟨_, atI2, ?_⟩
    walk_at "wp"
    exact _law_low_spec (n := 3) (by omega) (by omega) (by decide) (h _ _ (six_div (m := 6) (by omega) (by omega)) h3)
theorem _law_above_spec {x : Int} {b : Bool} {a : Addr} {k xq} (hx : StOk x b) (h : ∀ q x', Six 36 q → 0 < q → StOk x' b → k (.val (fr q)) (some ⟨x', b, a⟩)) : F__law_above [.st a] (some ⟨x, b, a⟩) k xq := by
  refine ⟨rfl, ?_⟩
  unfold BF__law_above
  walk_at "wp"
  refine _law_take_spec hx (by decide) (by decide) fun t x1 t0 t1 h1 => ?_
  walk_at "wp"
  refine _law_take_spec h1 (by decide) (by decide) fun u x2 u0 u1 h2 => ?_
  walk_at "wp"
  refine ⟨by show 3 ≤ sizeLine; decide, ?_⟩
  refine _law_take_spec h2 (by decide) (by decide) fun v x3 v0 v1 h3 => ?_
  walk_at "wp"
  have hpos : ∀ c : Int, 1 ≤ c → (0 : Rat) < ((1 + t : Int) : Rat) / (c : Rat) := fun c hc => rat_div_pos (by omega) (by omega)
  have : v = 0 ∨ v = 1 ∨ v = 2 := by omega
  rcases this with rfl | rfl | rfl
  · refine ⟨_, atI0, ?_⟩
    walk_at "wp"
    exact _law_low_spec (n := 3) (by decide) (by decide) (by decide) (h _ _ (six_div (m := 6) (by decide) (by omega)) (hpos _ (by decide)) h3)
  · refine ⟨_, atI1, ?_⟩
    walk_at "wp"
    exact _law_low_spec (n := 3) (by decide) (by decide) (by decide) (h _ _ (six_div (m := 6) (by decide) (by omega)) (hpos _ (by decide)) h3)
  · refine ⟨_, atI2, ?_⟩
    walk_at "wp"
    exact _law_low_spec (n := 3) (by omega) (by omega) (by decide) (h _ _ (six_div (m := 6) (by omega) (by omega)) (hpos _ (by omega)) h3)
theorem _law_plus_spec {p q : Rat} {s : S} {k xq n m} (hp : Sz n p) (hq : Sz m q) (hz : n + m ≤ 60000000) (h : k (.val (fr (p + q))) s) : F__law_plus [fr p, fr q] s k xq := by
  refine ⟨rfl, ?_⟩
  unfold BF__law_plus
  walk_at "wp"
  have hp0 := p.den_nz
  have hq0 := q.den_nz
  have dp : ((p.den : Int)).natAbs < 2 ^ n := by simpa using hp.2
  have dq : ((q.den : Int)).natAbs < 2 ^ m := by simpa using hq.2
  refine ⟨mulOk hp.1 dq (by omega), mulOk hq.1 dp (by omega), mulOk dp dq (by omega), _law_low_spec (Int.mul_ne_zero (by omega) (by omega)) (natAbs_mul_lt dp dq) hz ?_⟩
  rw [rat_add]
  exact h
def Crowd (m : Nat) (c : List (Rat × Rat)) : Prop := c.length ≤ m ∧ (∀ p ∈ c, Six (36 + 36 * m) p.1 ∧ Six 36 p.2 ∧ 0 < p.2) ∧ c.Pairwise (fun p q => p.1 < q.1)
theorem _law_crowd_spec {x : Int} {b : Bool} {a : Addr} {m : Nat} {k xq} (hx : StOk x b) (hm : m < 1000) (h : ∀ c x', Crowd m c → StOk x' b → k (.own (c.map crD)) (some ⟨x', b, a⟩)) : F__law_crowd [.st a, .int m] (some ⟨x, b, a⟩) k xq := by
  refine ⟨rfl, ?_⟩
  unfold BF__law_crowd
  walk_at "wp"
  refine ⟨by show 0 ≤ sizeLine; decide, ?_⟩
  refine _law_small_spec hx fun q0 x1 z0 h1 => ?_
  walk_at "wp"
  refine _law_take_spec h1 (by omega) (by omega) fun n x2 n0 n1 h2 => ?_
  walk_at "wp"
  refine ⟨⟨by omega, by omega⟩, ?_⟩
  refine forW_rng (fun i env s => ∃ c q x' v, env = [.val (.st a), .val (.int m), .own (c.map crD), .val (fr q), v] ∧ s = some ⟨x', b, a⟩ ∧ StOk x' b ∧ Six (36 + 36 * i) q ∧ c.length = i ∧ (∀ p ∈ c, p.1 < q ∧ Six (36 + 36 * m) p.1 ∧ Six 36 p.2 ∧ 0 < p.2) ∧ c.Pairwise (fun p q => p.1 < q.1))
    ?_ ⟨[], q0, x2, .no, rfl, rfl, h2, z0.mono (by omega), rfl, by simp, .nil⟩ ?_
  · rintro i hi env s ⟨c, q, x', v, rfl, rfl, hx', hq, hl, hc, hp⟩ KN hk
    walk_at "wp"
    refine _law_above_spec hx' fun w x3 hw w0 h3 => ?_
    walk_at "wp"
    refine ⟨by show 2 ≤ sizeLine; decide, ?_, ?_⟩
    · simp only [List.length_map]
      have := size_big
      omega
    refine _law_above_spec h3 fun u x4 hu u0 h4 => ?_
    walk_at "wp"
    refine _law_plus_spec (n := 20) (m := 20) (hq.sz (by omega) (by decide)) (hu.sz (by decide) (by decide)) (by decide) ?_
    walk_at "wp"
    refine hk _ _ ⟨c ++ [(q, w)], q + u, x4, .val (.int (i : Nat)), ?_, rfl, h4, (hq.add hu).mono (by omega), by simp [hl], ?_, ?_⟩
    · simp [crD, fr]
    · intro p hp
      rcases List.mem_append.mp hp with h | h
      · exact ⟨by have := (hc p h).1; grind, (hc p h).2⟩
      · simp at h
        subst h
        exact ⟨by grind, hq.mono (by omega), hw, w0⟩
    · rw [List.pairwise_append]
      exact ⟨hp, by simp, fun p hp y hy => by simp at hy; subst hy; exact (hc p hp).1⟩
  · rintro env s ⟨c, q, x', v, rfl, rfl, hx', hq, hl, hc, hp⟩
    walk_at "wp"
    exact h c x' ⟨by omega, fun p hp => (hc p hp).2, hp⟩ hx'
theorem _law_times_spec {p q : Rat} {s : S} {k xq n m} (hp : Sz n p) (hq : Sz m q) (hz : n + m ≤ 60000000) (h : k (.val (fr (p * q))) s) : F__law_times [fr p, fr q] s k xq := by
  refine ⟨rfl, ?_⟩
  unfold BF__law_times
  walk_at "wp"
  have hp0 := p.den_nz
  have hq0 := q.den_nz
  have dp : ((p.den : Int)).natAbs < 2 ^ n := by simpa using hp.2
  have dq : ((q.den : Int)).natAbs < 2 ^ m := by simpa using hq.2
  refine ⟨mulOk hp.1 hq.1 (by omega), mulOk dp dq (by omega), _law_low_spec (Int.mul_ne_zero (by omega) (by omega)) (natAbs_mul_lt dp dq) hz ?_⟩
  rw [rat_mul]
  exact h
theorem _law_crowd_sums_spec {c : List (Rat × Rat)} {n w m : Nat} {s : S} {k xq} (hq : ∀ p ∈ c, Sz n p.1 ∧ Sz w p.2) (hz : (c.length + 1) * (w + 1 + m * n + 1) ≤ 60000000) (hm : m < 1000000) (hl : c.length < 1000000) (h : k (.own (((List.range m).map (sumAt c)).map fr)) s) : F__law_crowd_sums [.lst (c.map crD), .int m] s k xq := by
  refine ⟨rfl, ?_⟩
  unfold BF__law_crowd_sums
  walk_at "wp"
  have sb := size_big
  have hz1 : w + 1 + m * n + 1 ≤ 60000000 := Nat.le_trans (Nat.le_mul_of_pos_left _ (by omega)) hz
  refine ⟨by show 0 ≤ sizeLine; decide, by simp; omega, ?_⟩
  refine compW_fr (g := fun p => p.2 * p.1 ^ 0) ?_ ?_
  · intro p hp K hK
    unfold crD
    walk_at "wp"
    rw [Rat.pow_zero, Rat.mul_one] at hK
    exact hK
  walk_at "wp"
  refine ⟨⟨by omega, by omega⟩, ?_⟩
  refine forW_rng (fun i env s' => ∃ v4 v5 v6, env = [.val (.lst (c.map crD)), .val (.int m), .own (((List.range i).map (sumAt c)).map fr), .own ((c.map fun p => p.2 * p.1 ^ i).map fr), v4, v5, v6, .no, .no, .no] ∧ s' = s) ?_ ⟨_, _, _, rfl, rfl⟩ ?_
  · rintro i hi env s' ⟨v4, v5, v6, rfl, rfl⟩ KN hk
    walk_at "wp"
    have hj2 : i * n ≤ m * n := Nat.mul_le_mul_right _ (by omega)
    refine ⟨by show 2 ≤ sizeLine; decide, ?_⟩
    have ht : ∀ q ∈ (c.map fun p => p.2 * p.1 ^ i), Sz (w + 1 + m * n) q := by
      intro q hq'
      obtain ⟨p, hp, rfl⟩ := List.mem_map.mp hq'
      exact (sz_mul (hq p hp).2 (sz_pow (hq p hp).1 i)).mono (by omega)
    have hs : sumQ (c.map fun p => p.2 * p.1 ^ i) = sumAt c i := rfl
    generalize hL : (c.map fun p => p.2 * p.1 ^ i) = L at ht hs
    have hLl : L.length = c.length := by rw [← hL]; simp
    refine forW_inv (fun j env s'' => ∃ v, env = [.val (.lst (c.map crD)), .val (.int m), .own (((List.range i).map (sumAt c)).map fr), .val (.lst (L.map fr)), .val (.int (i : Nat)), .val (fr (sumQ (L.take j))), v, .no, .no, .no] ∧ s'' = s' ∧ Sz (1 + j * (w + 1 + m * n + 1)) (sumQ (L.take j))) ?_ ⟨v6, rfl, rfl, by simpa [sumQ] using sz_zero⟩ ?_
    · rintro j hj env s' ⟨v, rfl, rfl, hs⟩ KN2 hk2
      walk_at "wp"
      have h1 := ht _ (List.getElem_mem hj)
      have h2 : (j + 1) * (w + 1 + m * n + 1) ≤ c.length * (w + 1 + m * n + 1) := Nat.mul_le_mul_right _ (by omega)
      rw [Nat.add_mul] at h2 hz
      refine _law_plus_spec hs h1 (by omega) ?_
      walk_at "wp"
      refine hk2 _ _ ⟨.val (fr L[j]), ?_, rfl, ?_⟩
      · rw [sumQ_take hj]
        rfl
      · rw [sumQ_take hj]
        exact (sz_add hs h1).mono (by rw [Nat.add_mul]; omega)
    · rintro env s' ⟨v, rfl, rfl, -⟩
      rw [List.take_length, hs]
      walk_at "wp"
      refine ⟨by simp; omega, by simp; omega, by simp [intL]; omega, ?_⟩
      refine compW_rfr (g := fun j => (L.getD j 0) * (c.getD j (0, 0)).1) ?_ ?_
      · intro j hj K hK
        simp only [List.length_map, Int.toNat_natCast] at hj
        have hjL : j < L.length := by omega
        walk_at "wp"
        refine ⟨fr L[j], ?_, crD c[j], ?_, ?_⟩
        · rw [atI_nat' (by simpa using hjL), List.getElem?_map, List.getElem?_eq_getElem hjL]
          rfl
        · rw [atI_nat' (by simpa using hj), List.getElem?_map, List.getElem?_eq_getElem hj]
          rfl
        unfold crD
        walk_at "wp"
        have h1 := ht _ (List.getElem_mem hjL)
        have h2 := (hq _ (List.getElem_mem hj)).1
        have h3 : 0 < m := by omega
        have h4 : (i + 1) * n ≤ m * n := Nat.mul_le_mul_right _ (by omega)
        rw [Nat.add_mul] at h4
        have h5 : w + 1 + m * n + 1 + n ≤ 60000000 := by
          have : 2 * (w + 1 + m * n + 1) ≤ (c.length + 1) * (w + 1 + m * n + 1) := Nat.mul_le_mul_right _ (by omega)
          omega
        refine _law_times_spec h1 h2 (by omega) ?_
        walk_at "wp"
        rw [getD_el hjL, getD_el hj] at hK
        exact hK
      · walk_at "wp"
        refine hk _ _ ⟨.val (.int (i : Nat)), .val (fr (sumAt c i)), v, ?_, rfl⟩
        have e1 : ((List.range (c.map crD).length).map fun j => L.getD j 0 * (c.getD j (0, 0)).1) = c.map fun p => p.2 * p.1 ^ (i + 1) := by
          refine List.ext_getElem (by simp) fun j h1 h2 => ?_
          have hj : j < c.length := by simpa using h2
          have hjL : j < L.length := by omega
          simp only [List.getElem_map, List.getElem_range]
          rw [getD_el hjL, getD_el hj, Rat.pow_succ]
          subst hL
          simp only [List.getElem_map]
          grind
        rw [List.range_succ, List.map_append, List.map_append]
        simp only [Int.toNat_natCast, List.map_cons, List.map_nil]
        rw [e1]
        rfl
  · rintro env s' ⟨v4, v5, v6, rfl, rfl⟩
    walk_at "wp"
    exact h
theorem map_set_fr (S : List Rat) (i : Nat) (q : Rat) : (S.set i q).map fr = (S.map fr).set i (.tup [.int q.num, .int q.den]) := by
  rw [List.map_set]
  rfl
theorem _law_sums_spec {x : Int} {b : Bool} {a : Addr} {k xq} (hx : StOk x b) (h : ∀ S x', SumsOk S → StOk x' b → k (.own (S.map fr)) (some ⟨x', b, a⟩)) : F__law_sums [.st a] (some ⟨x, b, a⟩) k xq := by
  have sb := size_big
  refine ⟨rfl, ?_⟩
  unfold BF__law_sums
  walk_at "wq"
  refine _law_take_spec hx (by decide) (by decide) fun m x1 m0 m1 h1 => ?_
  obtain ⟨m, rfl⟩ := Int.eq_ofNat_of_zero_le m0
  walk_at "wq"
  refine _law_take_spec h1 (by decide) (by decide) fun w x2 w0 w1 h2 => ?_
  walk_at "wq"
  have em : (1 : Int) + (m : Nat) = ((m + 1 : Nat) : Int) := by omega
  rw [em]
  by_cases hw0 : w = 0
  · rw [if_pos hw0]
    refine ⟨⟨by omega, by omega⟩, by simp [intL]; omega, ?_⟩
    unfold intL
    refine compW_invE (fun acc env s => ∃ l x, acc = l.map fr ∧ env = [.val (.st a), .val (.int ((m + 1 : Nat) : Int)), .val (.int w), .no, .no, .no] ∧ s = some ⟨x, b, a⟩ ∧ StOk x b ∧ ∀ q ∈ l, Six 36 q) _ _ _ _ ?_ ⟨[], x2, rfl, rfl, rfl, h2, by simp⟩ ?_
    · rintro j hj acc env s ⟨l, x, rfl, rfl, rfl, hx, hl⟩ K hK
      walk_at "wq"
      refine _law_small_spec hx fun q x2 hq h2 => ?_
      walk_at "wq"
      exact hK _ _ _ ⟨l ++ [q], x2, by simp [fr], rfl, rfl, h2, fun p hp => by
        rcases List.mem_append.mp hp with z | z
        · exact hl p z
        · simp at z
          exact z ▸ hq⟩
    · rintro acc env s ⟨l, x3, rfl, rfl, rfl, h3, hl⟩ hlen
      have hll : l.length = m + 1 := by simpa using hlen
      walk_at "wq"
      exact h l x3 ⟨by omega, by omega, fun q hq => (six_gr11 (hl q hq)).mono (by decide)⟩ h3
  rw [if_neg hw0]
  walk_at "wq"
  by_cases hw1 : w = 1
  · rw [if_pos hw1]
    refine ⟨by decide, by decide, by simp; omega, ?_⟩
    refine _law_small_spec h2 fun q x3 hq h3 => ?_
    walk_at "wq"
    have e1 : (((m + 1 : Nat) : Int) - 1).toNat = m := by omega
    rw [e1]
    refine ⟨by decide, by simp; omega, ?_⟩
    have e2 : (List.replicate m [D.tup [.int 0, .int 1]]).flatten ++ [D.tup [.int q.num, .int q.den]] = (List.replicate m (0 : Rat) ++ [q]).map fr := by
      rw [List.map_append, List.map_replicate]
      congr 1
      clear hw1 m0 m1 em e1
      induction m with
      | zero => rfl
      | succ m ih => rw [List.replicate_succ, List.flatten_cons, List.replicate_succ, ih]; rfl
    rw [e2]
    refine h _ x3 ⟨by simp, by simp; omega, fun p hp => ?_⟩ h3
    rcases List.mem_append.mp hp with z | z
    · rw [(List.mem_replicate.mp z).2]
      exact gr_zero _ _
    · simp at z
      subst z
      exact (six_gr11 hq).mono (by decide)
  rw [if_neg hw1]
  walk_at "wq"
  refine ⟨by decide, ?_⟩
  refine _law_take_spec h2 (by decide) (by decide) fun t x3 t0 t1 h3 => ?_
  walk_at "wq"
  have ht : ∃ u : Nat, u ≤ 5 ∧ atI [D.int 5, D.int 5, D.int 5, D.int 2, D.int 3] t = some (.int (u : Nat)) := by
    have : t = 0 ∨ t = 1 ∨ t = 2 ∨ t = 3 ∨ t = 4 := by omega
    rcases this with rfl | rfl | rfl | rfl | rfl
    · exact ⟨5, by decide, rfl⟩
    · exact ⟨5, by decide, rfl⟩
    · exact ⟨5, by decide, rfl⟩
    · exact ⟨2, by decide, rfl⟩
    · exact ⟨3, by decide, rfl⟩
  obtain ⟨u, hu, eu⟩ := ht
  refine ⟨_, eu, ?_⟩
  walk_at "wq"
  refine _law_crowd_spec h3 (by omega) fun c x4 hc h4 => ?_
  walk_at "wq"
  have hcl : c.length ≤ 5 := Nat.le_trans hc.1 hu
  have hcs : ∀ p ∈ c, Six 216 p.1 ∧ Six 36 p.2 := fun p hp => ⟨(hc.2.1 p hp).1.mono (by omega), (hc.2.1 p hp).2.1⟩
  have hz : (c.length + 1) * (6 + 1 + (m + 1) * 8 + 1) ≤ 60000000 := by
    have : (c.length + 1) * (6 + 1 + (m + 1) * 8 + 1) ≤ 6 * (6 + 1 + 11 * 8 + 1) := Nat.mul_le_mul (by omega) (by omega)
    omega
  refine _law_crowd_sums_spec (n := 8) (w := 6) (fun p hp => ⟨(hcs p hp).1.sz (by decide) (by decide), (hcs p hp).2.sz (by decide) (by decide)⟩) hz (by omega) (by omega) ?_
  walk_at "wq"
  have hS : ∀ q ∈ (List.range (m + 1)).map (sumAt c), Gr 11 (2 ^ 86) q := fun q hq => by
    obtain ⟨j, hj, rfl⟩ := List.mem_map.mp hq
    exact sumAt_gr hcl hcs (by have := List.mem_range.mp hj; omega)
  have hSl : ((List.range (m + 1)).map (sumAt c)).length = m + 1 := by simp
  generalize (List.range (m + 1)).map (sumAt c) = S at hS hSl
  have hso : SumsOk S := ⟨by omega, by omega, fun q hq => (hS q hq).mono (by decide)⟩
  split
  · refine _law_take_spec h4 (by omega) (by omega) fun i x5 i0 i1 h5 => ?_
    obtain ⟨i, rfl⟩ := Int.eq_ofNat_of_zero_le i0
    walk_at "wq"
    have hi : i < S.length := by omega
    refine ⟨_, at_frs hi, ?_⟩
    refine _law_small_spec h5 fun q x6 hq h6 => ?_
    walk_at "wq"
    refine ⟨by decide, by decide, by decide, ?_⟩
    refine _law_take_spec h6 (by decide) (by decide) fun v x7 v0 v1 h7 => ?_
    walk_at "wq"
    have hv : ∃ p : Rat, Six 36 p ∧ atI [D.tup [.int q.num, .int q.den], .tup [.int 1, .int 1], .tup [.int (-1), .int 1]] v = some (fr p) := by
      have : v = 0 ∨ v = 1 ∨ v = 2 := by omega
      rcases this with rfl | rfl | rfl
      · exact ⟨q, hq, rfl⟩
      · exact ⟨1, ⟨6, by decide, by decide +kernel⟩, rfl⟩
      · exact ⟨-1, ⟨-6, by decide, by decide +kernel⟩, rfl⟩
    obtain ⟨p, hp, ep⟩ := hv
    refine ⟨_, ep, ?_⟩
    walk_at "wq"
    refine _law_plus_spec (n := 91) (m := 6) (hso.sz i) (hp.sz (by decide) (by decide)) (by decide) ?_
    walk_at "wq"
    refine ⟨i, ?_, ?_⟩
    · unfold ixN
      rw [if_pos (by omega), if_pos (by rw [List.length_map]; omega)]
      exact congrArg some (by omega)
    rw [← map_set_fr]
    refine h _ x7 ⟨by rw [List.length_set]; omega, by rw [List.length_set]; omega, fun r hr => ?_⟩ h7
    rcases List.mem_or_eq_of_mem_set hr with z | z
    · exact (hS r z).mono (by decide)
    · subst z
      exact ((gr_getD hS i).add (six_gr11 hp)).mono (by decide)
  · walk_at "wq"
    exact h S x4 hso h4
theorem _law_clean_go (ft : FT) (fb : FS) (K : Fl → Prop) (l : List Rat) (v : Sl) (hv : v = .val (.lst (l.map fr)) ∨ v = .own (l.map fr)) (s : S) (hft : ft = wAnd (wB (wOpv gGt 1 (wP (wC (.int 0))))) (wB (wOp gEq (wOp gIx (wIxv 0 (wP (wOpv gMin 1 (wP (wC (.int 1)))))) (wP (wC (.int 0)))) (wP (wC (.int 0))))))
    (hfb : fb = wAsg (wOpv gMin 1 (wP (wC (.int 1)))) (wName 1))
    (hK : ∀ m : Nat, m ≤ l.length → clean l = l.take m → K (.nx [v, .val (.int m)] s)) : ∀ m : Nat, m ≤ l.length → (∀ i, m ≤ i → l.getD i 0 = 0) → whileW ft fb K (m + 1) [v, .val (.int m)] s := by
  subst hft hfb
  intro m
  induction m with
  | zero =>
    intro hm hz
    have := hK 0 hm (clean_take hm hz (.inl rfl))
    rcases hv with rfl | rfl <;> (unfold whileW; walk_at "wp"; simpa using this)
  | succ m ih =>
    intro hm hz
    have hm' : m < l.length := hm
    have e1 : ((m + 1 : Nat) : Int) - 1 = (m : Int) := by omega
    have e2 : atI (l.map fr) (m : Int) = some (fr l[m]) := by
      rw [atI_nat' (by simpa using hm'), List.getElem?_map, List.getElem?_eq_getElem hm']
      rfl
    have hg : l.getD m 0 = l[m] := by simp [hm']
    by_cases h0 : l[m] = 0
    · have ih' := ih (by omega) (fun i hi => by
        rcases Nat.lt_or_eq_of_le hi with h | h
        · exact hz i h
        · subst h
          rw [hg]
          exact h0)
      rcases hv with rfl | rfl <;>
      · unfold whileW
        walk_at "wp"
        rw [if_pos (by omega)]
        refine ⟨fr l[m], by rw [e1]; exact e2, ?_⟩
        walk_at "wp"
        rw [h0, if_pos (by rfl), e1]
        exact ih'
    · have hK' := hK (m + 1) hm (clean_take hm hz (.inr (by simpa [hm'] using h0)))
      rcases hv with rfl | rfl <;>
      · unfold whileW
        walk_at "wp"
        rw [if_pos (by omega)]
        refine ⟨fr l[m], by rw [e1]; exact e2, ?_⟩
        walk_at "wp"
        rw [if_neg (num_ne h0)]
        exact hK'
theorem _law_clean_spec {l : List Rat} {s : S} {k xq} (h : k (.own ((clean l).map fr)) s) : F__law_clean [.lst (l.map fr)] s k xq := by
  refine ⟨rfl, ?_⟩
  unfold BF__law_clean
  walk_at "wp"
  refine ⟨l.length + 1, ?_⟩
  rw [List.length_map]
  refine _law_clean_go _ _ _ l _ (.inl rfl) s rfl rfl (fun m hm hc => ?_) l.length (Nat.le_refl _) (fun i hi => by simp [hi])
  walk_at "wp"
  have e : cutD (l.map fr) none (some (m : Int)) = (clean l).map fr := by
    rw [hc]
    unfold cutD
    simp [HT.sIx, hm]
    rw [if_neg (by omega)]
    omega
  rw [e]
  exact h
theorem _law_polynomial_spec {x : Int} {b : Bool} {a : Addr} {m : Nat} {k xq} (hx : StOk x b) (hm : m < 1000) (h : ∀ l x', l.length ≤ m → Clean l → (∀ q ∈ l, Six 36 q) → StOk x' b → k (.own (l.map fr)) (some ⟨x', b, a⟩)) : F__law_polynomial [.st a, .int m] (some ⟨x, b, a⟩) k xq := by
  refine ⟨rfl, ?_⟩
  unfold BF__law_polynomial
  walk_at "wp"
  refine _law_take_spec hx (by omega) (by omega) fun n x2 n0 n1 h2 => ?_
  obtain ⟨n, rfl⟩ := Int.eq_ofNat_of_zero_le n0
  walk_at "wp"
  have sb := size_big
  refine ⟨⟨by omega, by omega⟩, by simp [intL]; omega, ?_⟩
  unfold intL
  refine compW_inv (fun acc s => ∃ l x', acc = l.map fr ∧ s = some ⟨x', b, a⟩ ∧ StOk x' b ∧ ∀ q ∈ l, Six 36 q) _ _ _ ?_ ⟨[], x2, rfl, rfl, h2, by simp⟩ ?_
  · rintro i hi acc s ⟨l, x', rfl, rfl, hx', hl⟩ K hK
    walk_at "wp"
    refine _law_small_spec hx' fun q x3 hq h3 => ?_
    walk_at "wp"
    refine hK _ _ ⟨l ++ [q], x3, by simp [fr], rfl, h3, ?_⟩
    intro p hp
    rcases List.mem_append.mp hp with z | z
    · exact hl p z
    · simp at z
      exact z ▸ hq
  · rintro acc s ⟨l, x', rfl, rfl, hx', hl⟩ hlen
    walk_at "wp"
    refine _law_clean_spec ?_
    walk_at "wp"
    refine h _ _ ?_ (clean_clean l) (fun q hq => hl q (clean_sub q hq)) hx'
    have := clean_len (l := l)
    simp at hlen
    omega
theorem _law_less_spec {p q : Rat} {s : S} {k xq n m} (hp : Sz n p) (hq : Sz m q) (hz : n + m ≤ 100000) (h : k (.val (.bl (decide (p < q)))) s) : F__law_less [fr p, fr q] s k xq := by
  refine ⟨rfl, ?_⟩
  unfold BF__law_less
  walk_at "wp"
  have dp : ((p.den : Int)).natAbs < 2 ^ n := by simpa using hp.2
  have dq : ((q.den : Int)).natAbs < 2 ^ m := by simpa using hq.2
  refine ⟨mulOk hp.1 dq (by omega), mulOk hq.1 dp (by omega), ?_⟩
  have e : decide (p.num * (q.den : Int) < q.num * (p.den : Int)) = decide (p < q) := by
    rw [Bool.eq_iff_iff, decide_eq_true_iff, decide_eq_true_iff]
    exact rat_lt_iff p q
  rw [e]
  exact h
theorem isTy_lst (ds : List D) : isTy (.lst ds) "tuple" = false ∧ isTy (.lst ds) "list" = true ∧ isTy (.lst ds) "bool" = false := ⟨by show tyB "list" "tuple" = false; decide, by show tyB "list" "list" = true; decide, by show tyB "list" "bool" = false; decide⟩
theorem isTy_tup (ds : List D) : isTy (.tup ds) "tuple" = true ∧ isTy (.tup ds) "list" = false ∧ isTy (.tup ds) "bool" = false := ⟨by show tyB "tuple" "tuple" = true; decide, by show tyB "tuple" "list" = false; decide, by show tyB "tuple" "bool" = false; decide⟩
theorem isTy_non : isTy .non "tuple" = false ∧ isTy .non "list" = false := ⟨by decide, by decide⟩
theorem isTy_bl (b : Bool) : isTy (.bl b) "tuple" = false ∧ isTy (.bl b) "list" = false := ⟨by show tyB "bool" "tuple" = false; decide, by show tyB "bool" "list" = false; decide⟩
theorem isTy_int (i : Int) : isTy (.int i) "tuple" = false ∧ isTy (.int i) "list" = false := ⟨by show tyB "int" "tuple" = false; decide, by show tyB "int" "list" = false; decide⟩
theorem isTy_str (x : Str) : isTy (.str x) "tuple" = false ∧ isTy (.str x) "list" = false := ⟨by show tyB "str" "tuple" = false; decide, by show tyB "str" "list" = false; decide⟩
theorem same_zip {ds : List D} {F : Fn} {s : S} {kk : List D → EnvD → S → Prop} (ih : ∀ d ∈ ds, ∀ (s : S) (k : Sl → S → Prop) (xq : Str → S → Prop), k (.val (.bl true)) s → F [d, d] s k xq) {a b : D}
    (h : kk (List.map D.bl (List.replicate ds.length true)) [.val a, .val b, .no, .no] s) :
    compW (wTupT 2 (wGCons (wName 2) (wGCons (wName 3) wGNil))) wYes (wCallB F xq0 (wBVar 2 (wBVar 3 wBNil))) [2, 3] kk (zipD ds ds) [] [.val a, .val b, .no, .no] s := by
  have e : zipD ds ds = ds.map fun d => .tup [d, d] := by
    clear h ih
    unfold zipD
    induction ds with
    | nil => rfl
    | cons d ds ihh => simpa using ihh
  rw [e]
  refine compW_map (g := fun _ => .bl true) ds [] ?_ ?_
  · intro d hd K hK
    walk_at "wp"
    refine ih d hd _ _ _ ?_
    walk_at "wp"
    exact hK
  · have e2 : ([] ++ ds.map fun _ => D.bl true) = List.map D.bl (List.replicate ds.length true) := by
      rw [List.map_replicate, List.nil_append]
      exact List.map_const' ..
    rw [e2]
    exact h
theorem all_true (n : Nat) : (List.replicate n true).all id = true := by simp
theorem _law_same_go : ∀ (n : Nat) {d : D} {s : S} {k : Sl → S → Prop} {xq : Str → S → Prop}, Nice n d → n ≤ 50 → k (.val (.bl true)) s → F__law_same_ (n + 1) [d, d] s k xq := by
  intro n
  induction n with
  | zero =>
    intro d s k xq h hn hk
    refine ⟨rfl, ?_⟩
    unfold BF__law_same
    have h1 := h.eqOk (by omega)
    have h2 := h.eqv
    cases d with
    | non => walk_at "wp"; simpa [notScr, isTy_non.1, isTy_non.2, eqOk_bl, eqv_bl, h1, h2] using hk
    | bl b => walk_at "wp"; simpa [notScr, (isTy_bl b).1, (isTy_bl b).2, eqOk_bl, eqv_bl, h1, h2] using hk
    | int b => walk_at "wp"; simpa [notScr, (isTy_int b).1, (isTy_int b).2, eqOk_bl, eqv_bl, h1, h2] using hk
    | str b => walk_at "wp"; simpa [notScr, (isTy_str b).1, (isTy_str b).2, eqOk_bl, eqv_bl, h1, h2] using hk
    | _ => exact h.elim
  | succ n ih =>
    intro d s k xq h hn hk
    refine ⟨rfl, ?_⟩
    unfold BF__law_same
    have h1 := h.eqOk (by omega)
    have h2 := h.eqv
    cases d with
    | non => walk_at "wp"; simpa [notScr, isTy_non.1, isTy_non.2, eqOk_bl, eqv_bl, h1, h2] using hk
    | bl b => walk_at "wp"; simpa [notScr, (isTy_bl b).1, (isTy_bl b).2, eqOk_bl, eqv_bl, h1, h2] using hk
    | int b => walk_at "wp"; simpa [notScr, (isTy_int b).1, (isTy_int b).2, eqOk_bl, eqv_bl, h1, h2] using hk
    | str b => walk_at "wp"; simpa [notScr, (isTy_str b).1, (isTy_str b).2, eqOk_bl, eqv_bl, h1, h2] using hk
    | lst ds =>
      walk_at "wp"
      simp only [notScr, (isTy_lst ds).1, (isTy_lst ds).2.1, eqOk_bl, eqv_bl, Bool.or_true, Bool.true_or, if_true, true_and, Bool.true_eq_false, if_false, not_true_eq_false, and_true]
      refine ⟨by simpa [zipD] using h.1, same_zip (fun d hd s k xq hk => ih (h.2 d hd) (by omega) hk) ⟨_, rfl, ?_⟩⟩
      rw [all_true]
      exact hk
    | tup ds =>
      walk_at "wp"
      simp only [notScr, (isTy_tup ds).1, (isTy_tup ds).2.1, eqOk_bl, eqv_bl, Bool.or_true, Bool.true_or, if_true, true_and, Bool.true_eq_false, if_false, not_true_eq_false, and_true]
      refine ⟨by simpa [zipD] using h.1, same_zip (fun d hd s k xq hk => ih (h.2 d hd) (by omega) hk) ⟨_, rfl, ?_⟩⟩
      rw [all_true]
      exact hk
    | _ => exact h.elim
theorem _law_same_spec {d : D} {s : S} {k xq} (h : Nice 11 d) (hk : k (.val (.bl true)) s) : F__law_same [d, d] s k xq := _law_same_go 11 h (by decide) hk
theorem _law_word_spec {q : Rat} {n : Nat} {s : S} {k xq} (hq : Sz n q) (hn : n ≤ 1900) (hl : (frT q).length ≤ 100000) (h : k (.val (.str (frT q))) s) : F__law_word [fr q] s k xq := by
  have sb := size_big
  have h1 := log_lt hq.1 hn
  have h2 : ((q.den : Nat) : Int).natAbs.log2 < 1920 := log_lt (n := n) (by simpa using hq.2) hn
  refine ⟨rfl, ?_⟩
  unfold BF__law_word
  unfold frT at h hl
  walk_at "wz"
  split
  · rename_i z
    have z : q.den = 1 := by omega
    rw [if_pos z] at h
    refine ⟨h1, ?_⟩
    walk_at "wz"
    exact h
  · rename_i z
    have z : ¬ q.den = 1 := by omega
    rw [if_neg z] at h hl
    walk_at "wz"
    rw [slen, slen] at hl
    refine ⟨h1, ?_, h2, ?_, h⟩
    · show (iT q.num).length + _ ≤ _
      omega
    · rw [slen]
      show (iT q.num).length + _ + (iT (q.den : Nat)).length ≤ _
      omega
def IW (W : Nat) (l : List Nat) : Prop := ∀ a u b, l = a ++ u ++ b → 32 ∉ u → u.length ≤ W
theorem IW.mono {W V : Nat} {l : List Nat} (h : IW W l) (e : W ≤ V) : IW V l := fun a u b q f => Nat.le_trans (h a u b q f) e
theorem IW.left {W : Nat} {x y : List Nat} (h : IW W (x ++ y)) : IW W x := fun a u b q f => h a u (b ++ y) (by rw [q, List.append_assoc]) f
theorem IW.right {W : Nat} {x y : List Nat} (h : IW W (x ++ y)) : IW W y := fun a u b q f => h (x ++ a) u b (by rw [q]; simp) f
theorem IW.len {W : Nat} {l : List Nat} (h : l.length ≤ W) : IW W l := fun a u b q _ => by
  rw [q, List.length_append, List.length_append] at h
  omega
theorem IW.mid {W : Nat} {l a u b : List Nat} (h : IW W l) (e : l = a ++ u ++ b) : IW W u := fun a' u' b' q f => h (a ++ a') u' (b' ++ b) (by rw [e, q]; simp) f
theorem IW.all {W : Nat} {l : List Nat} (h : IW W l) (f : 32 ∉ l) : l.length ≤ W := h [] l [] (by simp) f
theorem dig_snoc (l : List Nat) (c : Nat) : NumText.digitsVal (l ++ [c]) = NumText.digitsVal l * 10 + (c - 48) := by simp [NumText.digitsVal]
theorem dig_lt : ∀ (l : List Nat), NumText.AllDigits l → NumText.digitsVal l < 10 ^ l.length := by
  intro l
  induction h : l.length generalizing l with
  | zero =>
    have : l = [] := List.length_eq_zero_iff.mp h
    subst this
    intro _
    decide
  | succ n ih =>
    intro hd
    rcases List.eq_nil_or_concat l with rfl | ⟨i, c, rfl⟩
    · simp at h
    · rw [List.concat_eq_append] at *
      rw [List.length_append] at h
      have := ih i (by simpa using h) fun d hd' => hd d (List.mem_append_left _ hd')
      have hc := hd c (List.mem_append_right _ (List.mem_singleton.mpr rfl))
      rw [dig_snoc, Nat.pow_succ]
      omega
theorem canon : ∀ (n : Nat) (l : List Nat), l.length = n → l ≠ [] → NumText.AllDigits l → (1 < l.length → l.head? ≠ some 48) → l = TL.numL (NumText.digitsVal l) := by
  intro n
  induction n with
  | zero => intro l h hn; exact absurd (List.length_eq_zero_iff.mp h) hn
  | succ n ih =>
    intro l h hn hd h0
    rcases List.eq_nil_or_concat l with rfl | ⟨i, c, rfl⟩
    · exact absurd rfl hn
    rw [List.concat_eq_append] at *
    have hc := hd c (List.mem_append_right _ (List.mem_singleton.mpr rfl))
    rw [List.length_append] at h h0
    rw [dig_snoc]
    by_cases hi : i = []
    · subst hi
      have e : NumText.digitsVal [] * 10 + (c - 48) = c - 48 := by simp [NumText.digitsVal]
      rw [e, TL.numL_lt (by omega), show 48 + (c - 48) = c by omega]
      rfl
    · have hi1 := List.length_pos_iff.mpr hi
      have hh : (i ++ [c]).head? = i.head? := by
        cases i with
        | nil => exact absurd rfl hi
        | cons a r => rfl
      have h1 : i.head? ≠ some 48 := by
        rw [← hh]
        exact h0 (by simp; omega)
      have e := ih i (by simpa using h) hi (fun d hd' => hd d (List.mem_append_left _ hd')) fun _ => h1
      have hv : NumText.digitsVal i ≠ 0 := fun z => by
        rw [z, TL.numL_lt (by decide)] at e
        rw [e] at h1
        exact h1 rfl
      generalize NumText.digitsVal i = v at e hv
      rw [TL.numL_step (by omega), show (v * 10 + (c - 48)) / 10 = v by omega, show (v * 10 + (c - 48)) % 10 = c - 48 by omega, ← e, show 48 + (c - 48) = c by omega]
theorem iT_inj {y z : Int} (h : iT y = iT z) : y = z := by
  have h := congrArg TL.tl h
  have dash : ∀ n r, TL.numL n ≠ 45 :: r := fun n r e => by
    have := TL.numL_digits n 45 (by rw [e]; exact List.mem_cons_self)
    omega
  cases y with
  | ofNat a =>
    have ea : TL.tl (iT (Int.ofNat a)) = TL.numL a := tl_nat a
    cases z with
    | ofNat b =>
      have eb : TL.tl (iT (Int.ofNat b)) = TL.numL b := tl_nat b
      rw [ea, eb] at h
      rw [TL.numL_inj h]
    | negSucc b =>
      rw [ea, tl_negT] at h
      exact absurd h (dash _ _)
  | negSucc a =>
    cases z with
    | ofNat b =>
      have eb : TL.tl (iT (Int.ofNat b)) = TL.numL b := tl_nat b
      rw [eb, tl_negT] at h
      exact absurd h.symm (dash _ _)
    | negSucc b =>
      rw [tl_negT, tl_negT] at h
      injection h with _ h
      have := TL.numL_inj h
      rw [show a = b by omega]
theorem iT_lt (z : Int) : ∀ c ∈ TL.tl (iT z), c < 58 := fun c hc => by
  cases z with
  | ofNat n =>
    have e : TL.tl (iT (Int.ofNat n)) = TL.numL n := tl_nat n
    rw [e] at hc
    have := TL.numL_digits n c hc
    omega
  | negSucc m =>
    rw [tl_negT] at hc
    rcases List.mem_cons.mp hc with rfl | hc
    · decide
    · have := TL.numL_digits _ c hc
      omega
open Classical in
noncomputable def wI (w : Str) : Option Int := if h : ∃ z, w = iT z then some (Classical.choose h) else none
theorem wI_iT (z : Int) : wI (iT z) = some z := by
  unfold wI
  have h : ∃ y, iT z = iT y := ⟨z, rfl⟩
  rw [dif_pos h]
  exact congrArg some (iT_inj (Classical.choose_spec h)).symm
theorem wI_some {w : Str} {z : Int} (h : wI w = some z) : w = iT z := by
  unfold wI at h
  split at h
  · rename_i hw
    injection h with h
    rw [← h]
    exact Classical.choose_spec hw
  · cases h
theorem wI_none {w : Str} (h : ∀ z, w ≠ iT z) : wI w = none := by
  unfold wI
  rw [dif_neg fun ⟨z, e⟩ => h z e]
theorem wI_no {w : Str} (h : wI w = none) : ∀ z, w ≠ iT z := fun z e => by
  rw [e, wI_iT] at h
  cases h
def digs : List Nat := [48, 49, 50, 51, 52, 53, 54, 55, 56, 57]
theorem tl_digs : (Str.ofString "0123456789").cps.toList = digs := by
  show TL.tl (Str.ofString "0123456789") = digs
  rw [TL.tl_ofString]
  rfl
theorem mem_digs (c : Nat) : c ∈ digs ↔ 48 ≤ c ∧ c ≤ 57 := by
  simp only [digs, List.mem_cons, List.not_mem_nil, or_false]
  omega
def Asc (w : Str) : Prop := ∀ c ∈ TL.tl w, c < 128
theorem Asc.ok {w : Str} (h : Asc w) : EqOk (.str w) := eqOk_str fun c hc => by have := h c hc; omega
theorem tl_one (c : Nat) : TL.tl (⟨#[c]⟩ : Str) = [c] := rfl
theorem tl_cut1 {w : Str} {c : Nat} {r : List Nat} (h : TL.tl w = c :: r) : TL.tl (cutS w (some 1) none) = r := by
  have hl : w.length = r.length + 1 := by rw [← tl_len, h]; rfl
  unfold cutS
  show ((w.cps.toList.drop _).take _).toArray.toList = _
  have eT : w.cps.toList = c :: r := h
  have s1 : HT.sIx w.length 0 (some 1) = 1 := by
    have := HT.sIx_nat w.length 0 1
    rw [show ((1 : Nat) : Int) = 1 from rfl] at this
    rw [this]
    omega
  have s2 : HT.sIx w.length w.length none = w.length := rfl
  rw [s1, s2, eT, List.drop_succ_cons, List.drop_zero, List.take_of_length_le (by omega)]
theorem whole_in_no {w : Str} {s : S} {k} {xq : Str → S → Prop} (ha : Asc w) (hl : w.length ≤ 100000) (hn : ∀ z, w ≠ iT z) (hx : xq "NoText" s) : F_whole_in [.str w] s k xq := by
  have sb := size_big
  have okE : EqOk (.str (Str.ofString "")) := Nice.eqOk (n := 0) (show PyData.strOk (Str.ofString "") = true by decide +kernel) (by decide)
  have ok0 : EqOk (.str (Str.ofString "0")) := Nice.eqOk (n := 0) (show PyData.strOk (Str.ofString "0") = true by decide +kernel) (by decide)
  have okM : EqOk (.str (Str.ofString "-0")) := Nice.eqOk (n := 0) (show PyData.strOk (Str.ofString "-0") = true by decide +kernel) (by decide)
  have eE : TL.tl (Str.ofString "") = [] := by rw [TL.tl_ofString]; rfl
  have fin : ∀ (F : Str), Asc F → F.length ≤ 100000 → (∀ n, TL.tl F ≠ TL.numL n) → seqK (wSeq (wIfS (wOr (wB (wOpv gEq 1 (wP (wC (.str (Str.ofString "")))))) (wNot (wB (wCB1 gAll (wP (wComp (wItS (wV 1)) (wName 2) wYes (wOpv gInS 2 (wP (wC (.str (Str.ofString "0123456789"))))) [2]))))))
  (wRaise xq (Str.ofString "NoText"))
  wNext)
  (wSeq (wIfS (wAnd (wB (wOp gEq (wOp gIxS (wV 1) (wP (wC (.int 0)))) (wP (wC (.str (Str.ofString "0")))))) (wB (wOp gGt (wCB1 gLen (wPV 1)) (wP (wC (.int 1))))))
  (wRaise xq (Str.ofString "NoText"))
  wNext)
  (wRet (wCB1 gIntS (wPV 0))))) (kBody k) (.nx [.val (.str w), .val (.str F), .no] s) := by
    intro F hF hFl hFn
    walk_at "wz"
    refine ⟨⟨hF.ok, okE⟩, ?_⟩
    rw [eqv_str, eE]
    by_cases h0 : TL.tl F = []
    · rw [decide_eq_true h0, if_pos rfl]
      exact hx
    rw [decide_eq_false h0, if_neg (by decide)]
    have hcl : (chars F).length = F.length := by
      unfold chars
      rw [List.length_map, ← tl_len]
    refine ⟨by omega, ?_⟩
    have ech : chars F = (TL.tl F).map fun c => D.str ⟨#[c]⟩ := rfl
    rw [ech]
    refine compW_map (f := fun c : Nat => D.str ⟨#[c]⟩) (g := fun c : Nat => .bl (decide (c ∈ digs))) (TL.tl F) [] (fun c hc K hK => ?_) ?_
    · walk_at "wz"
      refine ⟨c, rfl, ?_⟩
      rw [tl_digs]
      exact hK
    walk_at "wz"
    refine ⟨(TL.tl F).map fun c => decide (c ∈ digs), by rw [List.map_map]; rfl, ?_⟩
    by_cases hd : NumText.AllDigits (TL.tl F)
    · have e : (((TL.tl F).map fun c => decide (c ∈ digs)).all id) = true := by
        rw [List.all_map, List.all_eq_true]
        exact fun c hc => decide_eq_true ((mem_digs c).mpr (hd c hc))
      rw [e, if_neg (by decide)]
      walk_at "wz"
      refine ⟨by omega, ?_⟩
      have hT : (TL.tl F).length = F.length := tl_len F
      cases ef : TL.tl F with
      | nil => exact absurd ef h0
      | cons c r =>
        have eF : F.cps.toList = c :: r := ef
        refine ⟨c, by rw [eF, show (0 : Int) = ((0 : Nat) : Int) from rfl, atI_nat' (by simp)]; rfl, ⟨eqOk_str fun d hd' => ?_, ok0⟩, ?_⟩
        · rw [tl_one] at hd'
          rw [List.mem_singleton.mp hd']
          have := hF c (by rw [ef]; exact List.mem_cons_self)
          omega
        have e00 : TL.tl (Str.ofString "0") = [48] := by rw [TL.tl_ofString]; rfl
        rw [eqv_str, tl_one, e00]
        have key : c = 48 ∧ 1 < F.length := by
          refine Classical.byContradiction fun z => hFn (NumText.digitsVal (TL.tl F)) (canon _ _ rfl h0 hd fun h1 e1 => z ?_)
          rw [ef] at e1
          exact ⟨by simpa using e1, by omega⟩
        rw [decide_eq_true (by rw [key.1]), if_pos rfl]
        refine ⟨by omega, ?_⟩
        rw [if_pos (by omega)]
        exact hx
    · have e : (((TL.tl F).map fun c => decide (c ∈ digs)).all id) = false := by
        rw [List.all_map, Bool.eq_false_iff]
        intro z
        rw [List.all_eq_true] at z
        exact hd fun c hc => (mem_digs c).mp (of_decide_eq_true (z c hc))
      rw [e, if_pos rfl]
      exact hx
  refine ⟨rfl, ?_⟩
  unfold BF_whole_in
  walk_at "wz"
  rw [mk_one "-" '-' rfl, starts_one]
  cases ew : TL.tl w with
  | nil =>
    rw [if_neg (by simp)]
    exact fin w ha hl fun n e => TL.numL_ne n (e.symm.trans ew)
  | cons c r =>
    by_cases hc : c = 45
    · subst hc
      rw [if_pos (by rfl)]
      walk_at "wz"
      refine ⟨⟨ha.ok, okM⟩, ?_⟩
      have em : TL.tl (Str.ofString "-0") = [45, 48] := by rw [TL.tl_ofString]; rfl
      rw [eqv_str, ew, em]
      by_cases hm : (45 :: r : List Nat) = [45, 48]
      · rw [decide_eq_true hm, if_neg (by decide)]
        refine fin w ha hl fun n e => ?_
        have := TL.numL_digits n 45 (by rw [← e, ew]; exact List.mem_cons_self)
        omega
      · rw [decide_eq_false hm, if_pos rfl]
        have hwl : w.length = r.length + 1 := by rw [← tl_len, ew]; rfl
        refine ⟨by omega, ?_⟩
        have hcut := tl_cut1 ew
        refine fin _ (fun d hd => ?_) ?_ fun n e => ?_
        · rw [hcut] at hd
          exact ha d (by rw [ew]; exact List.mem_cons_of_mem _ hd)
        · rw [← tl_len, hcut]
          omega
        · rw [hcut] at e
          cases n with
          | zero =>
            rw [TL.numL_lt (by decide)] at e
            exact hm (by rw [e])
          | succ m =>
            refine hn (Int.negSucc m) (str_ext ?_)
            rw [tl_negT, ew, e]
    · rw [if_neg (by simp [hc])]
      refine fin w ha hl fun n e => hn (n : Nat) (str_ext ?_)
      rw [tl_nat, e]
def oI : Option Int → D
  | none => .non
  | some z => .int z
open NumText in
theorem _law_whole_in_spec {w : Str} {s : S} {k xq} (ha : Asc w) (hl : w.length ≤ 100000) (hI : IW 560 (TL.tl w)) (h : k (.val (oI (wI w))) s) : F__law_whole_in [.str w] s k xq := by
  have sb := size_big
  have okE : EqOk (.str (Str.ofString "")) := Nice.eqOk (n := 0) (show PyData.strOk (Str.ofString "") = true by decide +kernel) (by decide)
  have okM : EqOk (.str (Str.ofString "-")) := Nice.eqOk (n := 0) (show PyData.strOk (Str.ofString "-") = true by decide +kernel) (by decide)
  have eE : TL.tl (Str.ofString "") = [] := by rw [TL.tl_ofString]; rfl
  have eM : TL.tl (Str.ofString "-") = [45] := by rw [TL.tl_ofString]; rfl
  have fin : ∀ (F : Str) (g : Int), (g = 1 ∨ g = -1) → Asc F → F.length ≤ 100000 → IW 560 (TL.tl F) → (TL.tl F ≠ [] → ∃ c r, TL.tl w = c :: r ∧ g = if c = 45 then -1 else 1) →
      ((TL.tl F = [] ∨ ¬ NumText.AllDigits (TL.tl F)) → wI w = none) → (TL.tl F ≠ [] → NumText.AllDigits (TL.tl F) → ∀ z, w = iT z → z = (NumText.digitsVal (TL.tl F) : Int) * g) → seqK (wSeq (wIfS (wOr (wB (wOpv gEq 1 (wP (wC (.str (Str.ofString "")))))) (wB (wOp gNeE (wComp (wItS (wV 1)) (wName 3) (wB (wOpv gNotInS 3 (wP (wC (.str (Str.ofString "0123456789")))))) (wV 3) [3]) (wP (wLst wNil)))))
  (wRet (wC .non))
  wNext)
  (wSeq (wAsg (wOp gMul (wCB1 gIntS (wPV 1)) (wP (wOp gIx (wLst (wCons (wC (.int 1)) (wCons (wUn gNeg (wP (wC (.int 1)))) wNil))) (wP (wCB1 gInt (wP (wOp gEq (wOp gIxS (wV 0) (wP (wC (.int 0)))) (wP (wC (.str (Str.ofString "-")))))))))) ) (wName 2))
  (wRet (wIf (wB (wOp gEq (wCB1 gStr (wPV 2)) (wPV 0))) (wV 2) (wC .non))))) (kBody k) (.nx [.val (.str w), .val (.str F), .no, .no] s) := by
    intro F g hg hF hFl hFI h1 h2 h3
    walk_at "wz"
    refine ⟨⟨hF.ok, okE⟩, ?_⟩
    rw [eqv_str, eE]
    by_cases h0 : TL.tl F = []
    · rw [decide_eq_true h0, if_pos rfl]
      rw [h2 (.inl h0)] at h
      exact h
    rw [decide_eq_false h0, if_neg (by decide)]
    have hcl : (chars F).length = F.length := by
      unfold chars
      rw [List.length_map, ← tl_len]
    refine ⟨by omega, ?_⟩
    have ech : chars F = (TL.tl F).map fun c => D.str ⟨#[c]⟩ := rfl
    rw [ech]
    refine compW_filter (f := fun c : Nat => D.str ⟨#[c]⟩) (g := fun c : Nat => D.str ⟨#[c]⟩) (p := fun c => !(decide (c ∈ digs))) (TL.tl F) [] (fun c hc K1 K2 k1 k2 => ?_) ?_
    · walk_at "wz"
      refine ⟨c, rfl, ?_⟩
      rw [tl_digs]
      by_cases hcd : c ∈ digs
      · rw [if_neg (by simp [hcd])]
        exact k2 (by rw [decide_eq_true hcd]; rfl)
      · rw [if_pos (by simp [hcd])]
        exact k1 (by rw [decide_eq_false hcd]; rfl)
    walk_at "wz"
    by_cases hd : NumText.AllDigits (TL.tl F)
    · have hFl : F.length ≤ 560 := by
        rw [← tl_len]
        exact hFI.all fun z => by have := hd 32 z; omega
      have e : (TL.tl F).filter (fun c => !(decide (c ∈ digs))) = [] := by
        rw [List.filter_eq_nil_iff]
        intro c hc
        rw [decide_eq_true ((mem_digs c).mpr (hd c hc))]
        decide
      rw [e]
      walk_at "wz"
      refine ⟨by omega, ?_⟩
      walk_at "wz"
      refine ⟨_, intText_digits hd h0 (by omega), by omega, ?_⟩
      obtain ⟨c, r, e1, e2⟩ := h1 h0
      have eW : w.cps.toList = c :: r := e1
      have h3' := h3 h0 hd
      have hv := dig_lt _ hd
      have hv : digitsVal F.cps.toList < 10 ^ 560 := Nat.lt_of_lt_of_le hv (Nat.pow_le_pow_right (by decide) (by rw [tl_len]; exact hFl))
      have hv : digitsVal F.cps.toList < 2 ^ 1861 := Nat.lt_of_lt_of_le hv (by decide +kernel)
      have h3' : ∀ z, w = iT z → z = (digitsVal F.cps.toList : Int) * g := h3'
      generalize digitsVal F.cps.toList = v at hv h3' ⊢
      refine ⟨by omega, by omega, c, by rw [eW, show (0 : Int) = ((0 : Nat) : Int) from rfl, atI_nat' (by simp)]; rfl, ⟨eqOk_str fun d hd' => ?_, okM⟩, ?_⟩
      · rw [tl_one] at hd'
        rw [List.mem_singleton.mp hd']
        have := ha c (by rw [e1]; exact List.mem_cons_self)
        omega
      rw [eqv_str, tl_one, eM]
      have eg : atI [D.int 1, D.int (-1)] (if decide ([c] = [45]) = true then 1 else 0) = some (.int g) := by
        rw [e2]
        by_cases hc : c = 45
        · rw [if_pos hc, if_pos (by rw [hc]; rfl)]
          rfl
        · rw [if_neg hc, if_neg (by simp [hc])]
          rfl
      rw [eg]
      refine ⟨_, rfl, ?_⟩
      show DL.MulOk (v : Int) g ∧ _
      have hw : (((v : Nat) : Int) * g).natAbs < 2 ^ 1861 := by
        rcases hg with rfl | rfl
        · rw [Int.mul_one, Int.natAbs_natCast]; exact hv
        · rw [Int.mul_neg, Int.mul_one, Int.natAbs_neg, Int.natAbs_natCast]; exact hv
      refine ⟨mulOk (n := 1861) (m := 20) (by rw [Int.natAbs_natCast]; exact hv) (by rcases hg with rfl | rfl <;> decide) (by decide), ?_⟩
      walk_at "wz"
      generalize ((v : Nat) : Int) * g = z at hw h3' ⊢
      refine ⟨log_lt hw (by decide), ⟨?_, ha.ok⟩, ?_⟩
      · exact eqOk_str fun d hd' => by
          have := iT_lt z d hd'
          omega
      have ez : Str.ofString (toString z) = iT z := rfl
      rw [ez]
      by_cases hz : iT z = w
      · rw [if_pos (by rw [hz, eqv_str, decide_eq_true rfl])]
        rw [← hz, wI_iT] at h
        exact h
      · rw [if_neg (by
          rw [eqv_str, decide_eq_false fun e => hz (str_ext e)]
          decide)]
        rw [wI_none fun y hy => hz (by rw [← h3' y hy, hy])] at h
        exact h
    · have e : ((TL.tl F).filter (fun c => !(decide (c ∈ digs)))) ≠ [] := by
        rw [Ne, List.filter_eq_nil_iff]
        intro z
        refine hd fun c hc => ?_
        have := z c hc
        by_cases hm : c ∈ digs
        · exact (mem_digs c).mp hm
        · rw [decide_eq_false hm] at this
          exact absurd rfl this
      rw [h2 (.inr hd)] at h
      refine ⟨by omega, ?_⟩
      rw [if_pos (by
        cases hh : (TL.tl F).filter (fun c => !(decide (c ∈ digs))) with
        | nil => exact absurd hh e
        | cons a l => rfl)]
      walk_at "wz"
      exact h
  refine ⟨rfl, ?_⟩
  unfold BF__law_whole_in
  walk_at "wz"
  have hcut0 : TL.tl (cutS w none (some 1)) = (TL.tl w).take 1 := by
    unfold cutS
    show ((w.cps.toList.drop _).take _).toArray.toList = _
    have s1 : HT.sIx w.length w.length (some 1) = min 1 w.length := HT.sIx_nat w.length _ 1
    have s2 : HT.sIx w.length 0 none = 0 := rfl
    rw [s1, s2, List.drop_zero, Nat.sub_zero]
    have : TL.tl w = w.cps.toList := rfl
    rcases Nat.lt_or_ge 0 w.length with z | z
    · rw [show min 1 w.length = 1 by omega]
    · have e0 : w.cps.toList = [] := List.length_eq_zero_iff.mp (by have h9 : w.cps.toList.length = w.length := tl_len w; omega)
      rw [this, e0]
      simp
  refine ⟨by omega, ⟨eqOk_str fun c hc => ?_, okM⟩, ?_⟩
  · rw [hcut0] at hc
    have := ha c (List.mem_of_mem_take hc)
    omega
  rw [eqv_str, hcut0, eM]
  cases ew : TL.tl w with
  | nil =>
    rw [if_neg (by simp)]
    refine fin w 1 (.inl rfl) ha hl hI (fun z => absurd ew z) (fun _ => wI_none fun z e => ?_) (fun z => absurd ew z)
    rw [e] at ew
    cases z with
    | ofNat n => exact TL.numL_ne n ((tl_nat n).symm.trans ew)
    | negSucc n =>
      rw [tl_negT] at ew
      cases ew
  | cons c r =>
    by_cases hc : c = 45
    · subst hc
      rw [if_pos (by rfl)]
      have hcut := tl_cut1 ew
      have hwl : w.length = r.length + 1 := by rw [← tl_len, ew]; rfl
      refine ⟨by omega, ?_⟩
      refine fin _ (-1) (.inr rfl) (fun d hd => ?_) ?_ (by rw [hcut]; exact IW.right (x := [45]) (by rw [ew] at hI; exact hI)) (fun _ => ⟨45, r, ew, rfl⟩) (fun hb => wI_none fun z e => ?_) (fun hne hd z e => ?_)
      · rw [hcut] at hd
        exact ha d (by rw [ew]; exact List.mem_cons_of_mem _ hd)
      · rw [← tl_len, hcut]
        omega
      · rw [hcut] at hb
        rw [e] at ew
        cases z with
        | ofNat n =>
          have e2 : TL.tl (iT (Int.ofNat n)) = TL.numL n := tl_nat n
          rw [e2] at ew
          have := TL.numL_digits n 45 (by rw [ew]; exact List.mem_cons_self)
          omega
        | negSucc n =>
          rw [tl_negT] at ew
          injection ew with _ ew
          rw [← ew] at hb
          rcases hb with hb | hb
          · exact TL.numL_ne _ hb
          · exact hb (TL.numL_digits _)
      · rw [hcut]
        rw [e] at ew
        cases z with
        | ofNat n =>
          have e2 : TL.tl (iT (Int.ofNat n)) = TL.numL n := tl_nat n
          rw [e2] at ew
          have := TL.numL_digits n 45 (by rw [ew]; exact List.mem_cons_self)
          omega
        | negSucc n =>
          rw [tl_negT] at ew
          injection ew with _ ew
          rw [← ew, TL.numL_val]
          omega
    · rw [if_neg (by simp [hc])]
      refine fin w 1 (.inl rfl) ha hl hI (fun _ => ⟨c, r, ew, by rw [if_neg hc]⟩) (fun hb => wI_none fun z e => ?_) (fun hne hd z e => ?_)
      · rw [e] at hb ew
        cases z with
        | ofNat n =>
          have e2 : TL.tl (iT (Int.ofNat n)) = TL.numL n := tl_nat n
          rw [e2] at hb
          rcases hb with hb | hb
          · exact TL.numL_ne _ hb
          · exact hb (TL.numL_digits _)
        | negSucc n =>
          rw [tl_negT] at ew
          injection ew with ew _
          exact hc ew.symm
      · rw [e] at ew ⊢
        cases z with
        | ofNat n =>
          have e2 : TL.tl (iT (Int.ofNat n)) = TL.numL n := tl_nat n
          rw [e2, TL.numL_val]
          simp
        | negSucc n =>
          rw [tl_negT] at ew
          injection ew with ew _
          exact absurd ew.symm hc
theorem pre_one (c d : Nat) (r : List Nat) : TL.pre [c] (d :: r) = (d == c) := by
  unfold TL.pre
  simp
theorem spl_joined (c : Nat) : ∀ (l acc : List Nat), TL.spl [c] 0 acc l ≠ [] ∧ TL.joinL [c] (TL.spl [c] 0 acc l) = acc ++ l ∧ (c ∉ acc → ∀ p ∈ TL.spl [c] 0 acc l, c ∉ p)
  | [], acc => by
    rw [TL.spl_nil]
    refine ⟨by simp, by simp [TL.joinL], fun h p hp => ?_⟩
    rw [List.mem_singleton.mp hp]
    exact h
  | d :: r, acc => by
    by_cases hd : d = c
    · subst hd
      have e : TL.spl [d] 0 acc (d :: r) = acc :: TL.spl [d] 0 [] r := TL.spl_hit (by rw [pre_one]; simp)
      obtain ⟨i1, i2, i3⟩ := spl_joined d r []
      rw [e]
      refine ⟨by simp, ?_, fun h p hp => ?_⟩
      · cases hs : TL.spl [d] 0 [] r with
        | nil => exact absurd hs i1
        | cons p ps =>
          rw [hs] at i2
          show acc ++ ([d] ++ TL.joinL [d] (p :: ps)) = _
          rw [i2]
          simp
      · rcases List.mem_cons.mp hp with rfl | hp
        · exact h
        · exact i3 (by simp) p hp
    · have e : TL.spl [c] 0 acc (d :: r) = TL.spl [c] 0 (acc ++ [d]) r := TL.spl_miss (by rw [pre_one]; simp [hd])
      obtain ⟨i1, i2, i3⟩ := spl_joined c r (acc ++ [d])
      rw [e]
      refine ⟨i1, by rw [i2]; simp, fun h => i3 ?_⟩
      intro z
      rcases List.mem_append.mp z with z | z
      · exact h z
      · exact hd (List.mem_singleton.mp z).symm
structure Parts (x y : Str) (c : Nat) (P : List Str) : Prop where
  ne : P ≠ []
  free : ∀ p ∈ P, c ∉ TL.tl p
  eq : TL.tl x = TL.joinL [c] (P.map TL.tl)
theorem parts_of {x y : Str} {c : Nat} (ey : TL.tl y = [c]) (hk : y.cps.all (· < 256) = true) : Parts x y c (Txt.split x y) := by
  have h := TL.split_spl x y (by rw [ey]; simp) (TL.kind_ok hk)
  rw [ey] at h
  obtain ⟨i1, i2, i3⟩ := spl_joined c (TL.tl x) []
  refine ⟨fun e => ?_, fun p hp => ?_, ?_⟩
  · rw [e] at h
    exact i1 h.symm
  · exact i3 (by simp) _ (by rw [← h]; exact List.mem_map_of_mem hp)
  · rw [h, i2]
    rfl
theorem joinL_mem2 {S p : List Nat} : ∀ {ps : List (List Nat)}, p ∈ ps → ∀ c ∈ p, c ∈ TL.joinL S ps
  | [], h, _, _ => by cases h
  | [q], h, c, hc => by
    rw [List.mem_singleton.mp h] at hc
    exact hc
  | q :: r :: t, h, c, hc => by
    show c ∈ q ++ (S ++ TL.joinL S (r :: t))
    rcases List.mem_cons.mp h with rfl | h
    · exact List.mem_append_left _ hc
    · exact List.mem_append_right _ (List.mem_append_right _ (joinL_mem2 h c hc))
theorem joinL_len {S p : List Nat} : ∀ {ps : List (List Nat)}, p ∈ ps → p.length ≤ (TL.joinL S ps).length
  | [], h => by cases h
  | [q], h => by
    rw [List.mem_singleton.mp h]
    exact Nat.le_refl _
  | q :: r :: t, h => by
    show _ ≤ (q ++ (S ++ TL.joinL S (r :: t))).length
    rw [List.length_append, List.length_append]
    rcases List.mem_cons.mp h with rfl | h
    · omega
    · have := joinL_len (S := S) h
      omega
theorem Parts.asc {x y : Str} {c : Nat} {P : List Str} (h : Parts x y c P) (ha : Asc x) {p : Str} (hp : p ∈ P) : Asc p := fun d hd => ha d (by
  rw [h.eq]
  exact joinL_mem2 (List.mem_map_of_mem hp) d hd)
theorem Parts.len {x y : Str} {c : Nat} {P : List Str} (h : Parts x y c P) {p : Str} (hp : p ∈ P) : p.length ≤ x.length := by
  rw [← tl_len, ← tl_len x, h.eq]
  exact joinL_len (List.mem_map_of_mem hp)
theorem joinL_many {c : Nat} : ∀ (ps : List (List Nat)), ps.length ≤ (TL.joinL [c] ps).length + 1
  | [] => by simp
  | [p] => by simp
  | p :: q :: r => by
    have := joinL_many (c := c) (q :: r)
    show _ ≤ (p ++ ([c] ++ TL.joinL [c] (q :: r))).length + 1
    rw [List.length_append, List.length_append]
    simp at this ⊢
    omega
theorem Parts.many {x y : Str} {c : Nat} {P : List Str} (h : Parts x y c P) : P.length ≤ x.length + 1 := by
  rw [← tl_len, h.eq]
  have := joinL_many (c := c) (P.map TL.tl)
  rwa [List.length_map] at this
theorem Parts.one {x y a : Str} {c : Nat} (h : Parts x y c [a]) : x = a := str_ext h.eq
theorem Parts.two {x y a b : Str} {c : Nat} {r : List Str} (ey : TL.tl y = [c]) (h : Parts x y c (a :: b :: r)) : x = a ++ y ++ (⟨(TL.joinL [c] ((b :: r).map TL.tl)).toArray⟩ : Str) := str_ext (by
  rw [TL.tl_append, TL.tl_append, ey, h.eq, List.append_assoc]
  rfl)
theorem joinL_infix {c : Nat} {p : List Nat} : ∀ {ps : List (List Nat)}, p ∈ ps → ∃ a b, TL.joinL [c] ps = a ++ p ++ b
  | [], h => by cases h
  | [q], h => ⟨[], [], by rw [List.mem_singleton.mp h]; show q = _; simp⟩
  | q :: r :: t, h => by
    rcases List.mem_cons.mp h with rfl | h
    · exact ⟨[], [c] ++ TL.joinL [c] (r :: t), by show p ++ ([c] ++ TL.joinL [c] (r :: t)) = _; simp⟩
    · obtain ⟨a, b, e⟩ := joinL_infix (c := c) h
      exact ⟨q ++ ([c] ++ a), b, by show q ++ ([c] ++ TL.joinL [c] (r :: t)) = _; rw [e]; simp⟩
theorem Parts.iw {x y : Str} {c W : Nat} {P : List Str} (h : Parts x y c P) (hI : IW W (TL.tl x)) {p : Str} (hp : p ∈ P) : IW W (TL.tl p) := by
  obtain ⟨a, b, e⟩ := joinL_infix (c := c) (List.mem_map_of_mem (f := TL.tl) hp)
  exact hI.mid (by rw [h.eq, e])
noncomputable def mq (x y : Int) : Option Rat := if h : isFr (.tup [.int x, .int y]) = true then some (Classical.choose (isFr_elim h)) else none
theorem mq_some {x y : Int} {q : Rat} (h : mq x y = some q) : D.tup [.int x, .int y] = fr q := by
  unfold mq at h
  split at h
  · rename_i hf
    injection h with h
    rw [← h]
    exact Classical.choose_spec (isFr_elim hf)
  · cases h
theorem mq_of {x y : Int} (h : isFr (.tup [.int x, .int y]) = true) : ∃ q, mq x y = some q := by
  unfold mq
  rw [dif_pos h]
  exact ⟨_, rfl⟩
theorem mq_no {x y : Int} (h : isFr (.tup [.int x, .int y]) = false) : mq x y = none := by
  unfold mq
  rw [dif_neg (by rw [h]; decide)]
theorem ey_slash : TL.tl (Str.ofString "/") = [47] := by rw [TL.tl_ofString]; rfl
theorem iT_free (k : Nat) (hk : k ≠ 45 ∧ (k < 48 ∨ 57 < k)) (z : Int) : k ∉ TL.tl (iT z) := PyProof.Rows.int_text_free' k hk z
theorem okStr_of (x : String) (h : PyData.strOk (Str.ofString x) = true) : EqOk (.str (Str.ofString x)) := Nice.eqOk (n := 0) h (by decide)
theorem okEmpty : EqOk (.str Str.empty) := eqOk_str fun c hc => by
  have e : TL.tl Str.empty = [] := rfl
  rw [e] at hc; cases hc
noncomputable def fI (w : Str) : Option Rat := match Txt.split w (Str.ofString "/") with
  | [a] => match wI a with
    | some x => mq x 1
    | none => none
  | [a, b] => match wI a, wI b with
    | some x, some y => if 2 ≤ y then mq x y else none
    | _, _ => none
  | _ => none
theorem whole_in_gen {w : Str} {s : S} {k} {xq : Str → S → Prop} (ha : Asc w) (hl : w.length ≤ 100000) (hI : IW 560 (TL.tl w)) (h1 : ∀ z, wI w = some z → k (.val (.int z)) s) (h2 : wI w = none → xq "NoText" s) : F_whole_in [.str w] s k xq := by
  cases h : wI w with
  | none => exact whole_in_no ha (by omega) (wI_no h) (h2 h)
  | some z =>
    have e := wI_some h
    rw [e] at hI ⊢
    exact whole_in_spec (by have := hI.all (iT_free 32 (by decide) z); rw [tl_len] at this; omega) (h1 z h)
theorem fraction_in_gen {w : Str} {s : S} {k} {xq : Str → S → Prop} (ha : Asc w) (hl : w.length ≤ 100000) (hI : IW 560 (TL.tl w)) (h1 : ∀ q, fI w = some q → k (.val (fr q)) s) (h2 : fI w = none → xq "NoText" s) : F_fraction_in [.str w] s k xq := by
  have sb := size_big
  have okE : EqOk (.str (Str.ofString "")) := okStr_of "" (by decide +kernel)
  have okS : EqOk (.str (Str.ofString "/")) := okStr_of "/" (by decide +kernel)
  have eE : TL.tl (Str.ofString "") = [] := by rw [TL.tl_ofString]; rfl
  have P := parts_of (x := w) ey_slash (by decide +kernel)
  unfold fI at h1 h2
  refine ⟨rfl, ?_⟩
  unfold BF_fraction_in
  walk_at "wz"
  refine ⟨⟨by rw [← tl_len, ey_slash]; decide, by omega⟩, ?_⟩
  generalize Txt.split w (Str.ofString "/") = PP at P h1 h2
  match PP, P with
  | [], P => exact absurd rfl P.ne
  | [a], P =>
    have ew := P.one
    subst ew
    rw [TL.partition_none ey_slash (P.free w (List.mem_singleton.mpr rfl))]
    walk_at "wz"
    refine whole_in_gen ha hl hI (fun z hz => ?_) (fun hz => ?_)
    · walk_at "wz"
      refine ⟨by show 2 ≤ sizeLine; decide, ?_⟩
      walk_at "wz"
      refine ⟨⟨okEmpty, okE⟩, ?_⟩
      have e0 : TL.tl Str.empty = [] := rfl
      rw [eqv_str, e0, eE, decide_eq_true rfl, if_neg (by decide)]
      walk_at "wz"
      have hf : isFr (.tup [.int z, .int 1]) = true := by
        unfold isFr
        simp
      obtain ⟨q, hq⟩ := mq_of hf
      rw [mq_some hq]
      exact h1 q (by simp only [hz]; exact hq)
    · exact h2 (by simp only [hz])
  | a :: b :: r, P =>
    have ew := P.two ey_slash
    have hfa := P.free a List.mem_cons_self
    have haa := P.asc ha (p := a) List.mem_cons_self
    have hla := P.len (p := a) List.mem_cons_self
    have hIa := P.iw hI (p := a) List.mem_cons_self
    have hbb : (⟨(TL.joinL [47] ((b :: r).map TL.tl)).toArray⟩ : Str).length ≤ w.length := by
      conv => rhs; rw [ew]
      rw [slen, slen]
      omega
    have hab : Asc (⟨(TL.joinL [47] ((b :: r).map TL.tl)).toArray⟩ : Str) := fun d hd => ha d (by
      rw [ew, TL.tl_append]
      exact List.mem_append_right _ hd)
    have hIb : IW 560 (TL.tl (⟨(TL.joinL [47] ((b :: r).map TL.tl)).toArray⟩ : Str)) := IW.right (x := TL.tl (a ++ Str.ofString "/")) (by rw [← TL.tl_append, ← ew]; exact hI)
    generalize hR : (⟨(TL.joinL [47] ((b :: r).map TL.tl)).toArray⟩ : Str) = R at ew hbb hab hIb
    rw [ew, TL.partition_app ey_slash hfa]
    walk_at "wz"
    refine whole_in_gen haa (by omega) hIa (fun x hx => ?_) (fun hx => ?_)
    · walk_at "wz"
      refine ⟨by show 2 ≤ sizeLine; decide, ?_⟩
      walk_at "wz"
      refine ⟨⟨okS, okE⟩, ?_⟩
      rw [eqv_str, ey_slash, eE, decide_eq_false (by decide), if_pos rfl]
      walk_at "wz"
      have eR : TL.tl R = TL.joinL [47] ((b :: r).map TL.tl) := by rw [← hR]
      refine whole_in_gen hab (by omega) hIb (fun y hy => ?_) (fun hy => ?_)
      · have hr : r = [] := by
          cases r with
          | nil => rfl
          | cons c r =>
            exfalso
            have h47 : 47 ∈ TL.tl R := by
              rw [eR]
              show 47 ∈ TL.tl b ++ ([47] ++ _)
              simp
            rw [wI_some hy] at h47
            exact iT_free 47 (by decide) y h47
        subst hr
        have eb : R = b := str_ext eR
        rw [eb] at hy
        walk_at "wz"
        refine ⟨by show 2 ≤ sizeLine; decide, ?_⟩
        walk_at "wz"
        simp only [hx, hy] at h1 h2
        by_cases h2y : y < 2
        · rw [if_pos h2y]
          exact h2 (by rw [if_neg (by omega)])
        · rw [if_neg h2y]
          rw [if_pos (by omega)] at h1 h2
          refine is_fraction_spec ⟨trivial, fun ds hds e he => ?_⟩ ?_
          · injection hds with hds
            subst hds
            simp at he
            rcases he with rfl | rfl <;> exact trivial
          walk_at "wz"
          cases hf : isFr (.tup [.int x, .int y]) with
          | true =>
            obtain ⟨q, hq⟩ := mq_of hf
            walk_at "wz"
            rw [mq_some hq]
            exact h1 q hq
          | false =>
            walk_at "wz"
            exact h2 (mq_no hf)
      · refine h2 ?_
        cases r with
        | nil =>
          have eb : R = b := str_ext eR
          rw [eb] at hy
          simp only [hx, hy]
        | cons c r => rfl
    · refine h2 ?_
      cases r with
      | nil => simp only [hx]
      | cons c r => rfl
def oF : Option Rat → D
  | none => .non
  | some q => fr q
theorem nice_oI (o : Option Int) : Nice 1 (oI o) := by cases o <;> exact trivial
theorem eqv_oI (o : Option Int) : (oI o).eqv .non = o.isNone := by cases o <;> rfl
theorem _law_fraction_in_spec {w : Str} {s : S} {k xq} (ha : Asc w) (hl : w.length ≤ 100000) (hI : IW 560 (TL.tl w)) (h : k (.val (oF (fI w))) s) : F__law_fraction_in [.str w] s k xq := by
  have sb := size_big
  have P := parts_of (x := w) ey_slash (by decide +kernel)
  unfold fI at h
  refine ⟨rfl, ?_⟩
  unfold BF__law_fraction_in
  walk_at "wz"
  refine ⟨⟨by rw [← tl_len, ey_slash]; decide, by omega⟩, ?_⟩
  generalize Txt.split w (Str.ofString "/") = PP at P h
  have hm := P.many
  refine ⟨by rw [List.length_map]; omega, ?_⟩
  refine compW_map (f := D.str) (g := fun p => oI (wI p)) PP [] (fun p hp K hK => ?_) ?_
  · walk_at "wz"
    refine _law_whole_in_spec (P.asc ha hp) (by have := P.len hp; omega) (P.iw hI hp) ?_
    walk_at "wz"
    exact ⟨by cases wI p <;> exact trivial, hK⟩
  walk_at "wz"
  have NL : Nice 2 (.lst (PP.map fun p => oI (wI p))) := ⟨by rw [List.length_map]; omega, fun d hd => by
    obtain ⟨p, _, rfl⟩ := List.mem_map.mp hd
    exact nice_oI _⟩
  refine ⟨⟨rfl, NL.eqOk (by decide)⟩, ?_⟩
  have eany : ((PP.map fun p => oI (wI p)).any fun z => z.eqv .non) = PP.any fun p => (wI p).isNone := by
    rw [List.any_map]
    exact congrArg (fun g => List.any PP g) (funext fun p => eqv_oI _)
  rw [eany]
  match PP, P with
  | [], P => exact absurd rfl P.ne
  | [a], P =>
    simp only at h
    cases hx : wI a with
    | none =>
      simp only [hx] at h
      rw [if_pos (by simp [hx])]
      exact h
    | some x =>
      simp only [hx] at h
      rw [if_neg (by simp [hx])]
      walk_at "wz"
      rw [if_neg (by decide)]
      walk_at "wz"
      refine ⟨by decide, ?_⟩
      walk_at "wz"
      have hf : isFr (.tup [.int x, .int 1]) = true := by
        unfold isFr
        simp
      obtain ⟨q, hq⟩ := mq_of hf
      rw [hx]
      show k (.val (.tup [.int x, .int 1])) s
      rw [hq] at h
      rw [mq_some hq]
      exact h
  | [a, b], P =>
    simp only at h
    cases hx : wI a with
    | none =>
      simp only [hx] at h
      rw [if_pos (by simp [hx])]
      exact h
    | some x =>
      cases hy : wI b with
      | none =>
        simp only [hx, hy] at h
        rw [if_pos (by simp [hy])]
        exact h
      | some y =>
        simp only [hx, hy] at h
        rw [if_neg (by simp [hx, hy])]
        walk_at "wz"
        rw [if_neg (by decide)]
        walk_at "wz"
        rw [hx, hy, if_neg (by decide)]
        have e1 : oI (some x) = .int x := rfl
        have e2 : oI (some y) = .int y := rfl
        rw [e1, e2]
        walk_at "wz"
        by_cases h2y : y < 2
        · rw [if_pos h2y]
          rw [if_neg (by omega)] at h
          exact h
        · rw [if_neg h2y]
          rw [if_pos (by omega)] at h
          refine _law_divisor_spec ?_
          walk_at "wz"
          have ef : isFr (.tup [.int x, .int y]) = decide (Int.gcd x y = 1) := by
            show (decide (0 < y) && (Int.gcd x y == 1)) = _
            rw [show decide (0 < y) = true from decide_eq_true (by omega), Bool.true_and]
            by_cases hg : Int.gcd x y = 1
            · simp [hg]
            · simp [hg]
          by_cases hg : Int.gcd x y = 1
          · rw [if_neg (by simp [hg])]
            walk_at "wz"
            refine ⟨by decide, ?_⟩
            obtain ⟨q, hq⟩ := mq_of (ef.trans (decide_eq_true hg))
            rw [hq] at h
            rw [mq_some hq]
            exact h
          · rw [if_pos (by intro z; exact hg (by omega))]
            rw [mq_no (ef.trans (decide_eq_false hg))] at h
            exact h
  | a :: b :: c :: r, P =>
    simp only at h
    by_cases hn : ((a :: b :: c :: r).any fun p => (wI p).isNone) = true
    · rw [if_pos hn]
      exact h
    · rw [if_neg hn]
      walk_at "wz"
      rw [if_pos (by simp only [List.length_map, List.length_cons]; omega)]
      exact h
theorem compW_may {α : Type} {f g : α → D} {good : α → Bool} {fg : FG} {fe : FE} {vs : List Nat} {k : List D → EnvD → S → Prop} {env : EnvD} {s : S} :
    ∀ (l : List α) (acc : List D), (∀ a ∈ l, ∀ K : D → EnvD → S → Prop, (good a = true → K (g a) env s) → fg (.val (f a)) env s (fun env1 s1 => fe env1 s1 fun r env3 s3 => K r.d (wipeD env3 vs) s3)) →
    ((∀ a ∈ l, good a = true) → k (acc ++ l.map g) env s) → compW fg wYes fe vs k (l.map f) acc env s
  | [], acc, _, h => by
    have := h (by simp)
    simpa [compW] using this
  | a :: l, acc, hs, h => by
    have := hs a List.mem_cons_self (fun d env' s' => compW fg wYes fe vs k (l.map f) (acc ++ [d]) env' s') fun hg =>
      compW_may l (acc ++ [g a]) (fun b hb => hs b (List.mem_cons_of_mem _ hb)) fun hall => by
        have := h fun b hb => by
          rcases List.mem_cons.mp hb with rfl | hb
          · exact hg
          · exact hall b hb
        simpa using this
    simp only [List.map_cons, compW, wYes, if_true]
    exact this
theorem ey_blank : TL.tl (Str.ofString " ") = [32] := by rw [TL.tl_ofString]; rfl
def wordsS (w : Str) : List Str := Txt.split w (Str.ofString " ")
theorem words_parts (w : Str) : Parts w (Str.ofString " ") 32 (wordsS w) := parts_of ey_blank (by decide +kernel)
structure TextOk (w : Str) : Prop where
  asc : Asc w
  len : w.length ≤ 100000
  wd : ∀ p ∈ wordsS w, p.length ≤ 560
  iw : IW 560 (TL.tl w)
noncomputable def sI (w : Str) : Option (List Rat) := if (wordsS w).any (fun p => (fI p).isNone) then none else some ((wordsS w).map fun p => (fI p).getD 0)
theorem oF_some {o : Option Rat} (h : o.isNone = false) : oF o = fr (o.getD 0) := by
  cases o with
  | none => cases h
  | some q => rfl
theorem read_fraction_gen {w : Str} {s : S} {k} {xq : Str → S → Prop} (ha : Asc w) (hl : w.length ≤ 100000) (hI : IW 560 (TL.tl w)) (h1 : ∀ q, fI w = some q → k (.val (fr q)) s) (h2 : fI w = none → xq "NoText" s) : F_read_fraction [.str w] s k xq := by
  refine ⟨rfl, ?_⟩
  unfold BF_read_fraction
  walk_at "wz"
  refine need_text_spec ?_
  walk_at "wz"
  refine fraction_in_gen ha hl hI (fun q hq => ?_) h2
  walk_at "wz"
  exact h1 q hq
theorem read_sums_gen {w : Str} {s : S} {k} {xq : Str → S → Prop} (ht : TextOk w) (h1 : ∀ l, sI w = some l → k (.own (l.map fr)) s) (h2 : sI w = none → xq "NoText" s) : F_read_sums [.str w] s k xq := by
  have sb := size_big
  have P := words_parts w
  have hwl := ht.len
  have hm := P.many
  have h3 : (Str.ofString " ").length = 1 := by rw [← tl_len, ey_blank]; rfl
  unfold sI at h1 h2
  refine ⟨rfl, ?_⟩
  unfold BF_read_sums
  walk_at "wz"
  refine need_text_spec ?_
  walk_at "wz"
  have es : Txt.split w (Str.ofString " ") = wordsS w := rfl
  rw [es]
  refine ⟨⟨by omega, by omega⟩, by rw [List.length_map]; omega, ?_⟩
  refine compW_may (f := D.str) (g := fun p => oF (fI p)) (good := fun p => !(fI p).isNone) (wordsS w) [] (fun p hp K hK => ?_) fun hall => ?_
  · walk_at "wz"
    refine fraction_in_gen (P.asc ht.asc hp) (by have := ht.wd p hp; omega) (P.iw ht.iw hp) (fun q hq => ?_) (fun hq => ?_)
    · walk_at "wz"
      rw [hq] at hK
      exact hK rfl
    · refine h2 ?_
      rw [if_pos]
      exact List.any_eq_true.mpr ⟨p, hp, by rw [hq]; rfl⟩
  · walk_at "wz"
    have hn : ¬ (wordsS w).any (fun p => (fI p).isNone) = true := fun z => by
      obtain ⟨p, hp, hq⟩ := List.any_eq_true.mp z
      have := hall p hp
      rw [hq] at this
      cases this
    rw [if_neg hn] at h1
    have := h1 _ rfl
    rw [List.map_map] at this
    have e : (wordsS w).map (fun p => oF (fI p)) = (wordsS w).map (fr ∘ fun p => (fI p).getD 0) := List.map_congr_left fun p hp => by
      have := hall p hp
      exact oF_some (by simpa using this)
    rw [e]
    exact this
theorem eqv_oF (o : Option Rat) : (oF o).eqv .non = o.isNone := by cases o <;> rfl
theorem nice_oF (o : Option Rat) : Nice 2 (oF o) := by
  cases o with
  | none => exact trivial
  | some q => exact (nice_fr q).mono (by decide)
theorem _law_sums_in_spec {w : Str} {s : S} {k} {xq : Str → S → Prop} (ht : TextOk w) (h1 : ∀ l, sI w = some l → k (.val (.lst (l.map fr))) s) (h2 : sI w = none → k (.val .non) s) : F__law_sums_in [.str w] s k xq := by
  have sb := size_big
  have P := words_parts w
  have hwl := ht.len
  have hm := P.many
  have h3 : (Str.ofString " ").length = 1 := by rw [← tl_len, ey_blank]; rfl
  unfold sI at h1 h2
  refine ⟨rfl, ?_⟩
  unfold BF__law_sums_in
  walk_at "wz"
  have es : Txt.split w (Str.ofString " ") = wordsS w := rfl
  rw [es]
  refine ⟨⟨by omega, by omega⟩, by rw [List.length_map]; omega, ?_⟩
  refine compW_map (f := D.str) (g := fun p => oF (fI p)) (wordsS w) [] (fun p hp K hK => ?_) ?_
  · walk_at "wz"
    refine _law_fraction_in_spec (P.asc ht.asc hp) (by have := ht.wd p hp; omega) (P.iw ht.iw hp) ?_
    walk_at "wz"
    exact hK
  walk_at "wz"
  have NL : Nice 3 (.lst ((wordsS w).map fun p => oF (fI p))) := ⟨by rw [List.length_map]; omega, fun d hd => by
    obtain ⟨p, _, rfl⟩ := List.mem_map.mp hd
    exact nice_oF _⟩
  refine ⟨⟨rfl, NL.eqOk (by decide)⟩, ?_⟩
  have eany : (((wordsS w).map fun p => oF (fI p)).any fun z => z.eqv .non) = (wordsS w).any fun p => (fI p).isNone := by
    rw [List.any_map]
    exact congrArg (fun g => List.any (wordsS w) g) (funext fun p => eqv_oF _)
  rw [eany]
  by_cases hn : (wordsS w).any (fun p => (fI p).isNone) = true
  · rw [if_pos hn]
    rw [if_pos hn] at h2
    exact h2 rfl
  · rw [if_neg hn]
    rw [if_neg hn] at h1
    have := h1 _ rfl
    rw [List.map_map] at this
    have e : (wordsS w).map (fun p => oF (fI p)) = (wordsS w).map (fr ∘ fun p => (fI p).getD 0) := List.map_congr_left fun p hp => oF_some (by
      rw [Bool.eq_false_iff]
      exact fun z => hn (List.any_eq_true.mpr ⟨p, hp, z⟩))
    rw [e]
    exact this
theorem at_snocD (es : List D) (e : D) : atI (es ++ [e]) (-1) = some e := by
  unfold atI ixN
  rw [if_neg (by decide)]
  simp only [List.length_append, List.length_singleton]
  rw [if_pos (by omega)]
  have e1 : (-1 + ((es.length + 1 : Nat) : Int)).toNat = es.length := by omega
  rw [e1]
  simp
theorem sI_ne {w : Str} {l : List Rat} (h : sI w = some l) : l ≠ [] := by
  unfold sI at h
  split at h
  · cases h
  · injection h with h
    rw [← h]
    intro e
    exact (words_parts w).ne (List.map_eq_nil_iff.mp e)
theorem at_last {l : List Rat} (h : l ≠ []) : atI (l.map fr) (-1) = some (fr (l.getLast h)) := by
  conv => lhs; rw [← List.dropLast_concat_getLast h]
  rw [List.map_append]
  exact at_snocD _ _
open Classical in
noncomputable def pI (w : Str) : Option (List Rat) := if w = Str.ofString "nought" then some [] else match sI w with
  | none => none
  | some l => if Clean l then some l else none
theorem sI_len {w : Str} {l : List Rat} (h : sI w = some l) : l.length = (wordsS w).length := by
  unfold sI at h
  split at h
  · cases h
  · injection h with h
    rw [← h, List.length_map]
theorem read_polynomial_gen {w : Str} {s : S} {k} {xq : Str → S → Prop} (ht : TextOk w) (h1 : ∀ l, pI w = some l → k (.own (l.map fr)) s) (h2 : pI w = none → xq "NoText" s) : F_read_polynomial [.str w] s k xq := by
  have sb := size_big
  have okN : EqOk (.str (Str.ofString "nought")) := okStr_of "nought" (by decide +kernel)
  have P := words_parts w
  have hwl := ht.len
  have hm := P.many
  unfold pI at h1 h2
  refine ⟨rfl, ?_⟩
  unfold BF_read_polynomial
  walk_at "wz"
  refine need_text_spec ?_
  walk_at "wz"
  refine ⟨⟨ht.asc.ok, okN⟩, ?_⟩
  rw [eqv_str]
  by_cases e : w = Str.ofString "nought"
  · rw [if_pos (by rw [e]; exact decide_eq_true rfl)]
    rw [if_pos e] at h1
    refine ⟨by decide, ?_⟩
    walk_at "wz"
    exact h1 [] rfl
  · rw [if_neg (by rw [decide_eq_false fun z => e (str_ext z)]; decide)]
    rw [if_neg e] at h1 h2
    walk_at "wz"
    refine read_sums_gen ht (fun l hl => ?_) (fun hl => ?_)
    · simp only [hl] at h1 h2
      have hln := sI_len hl
      walk_at "wz"
      have hpl : PlL (.lst (l.map fr)) := ⟨⟨trivial, fun ds h => by cases h⟩, fun ds h2 => by
        injection h2 with h2
        subst h2
        refine ⟨by rw [List.length_map]; omega, fun e he => ?_⟩
        obtain ⟨q, _, rfl⟩ := List.mem_map.mp he
        exact pl_fr q⟩
      refine is_polynomial_spec hpl ?_
      by_cases hc : Clean l
      · rw [(isPoly_fr l).mpr hc]
        walk_at "wz"
        exact h1 l (by rw [if_pos hc])
      · have : isPoly (.lst (l.map fr)) = false := by
          rw [Bool.eq_false_iff]
          exact fun z => hc ((isPoly_fr l).mp z)
        rw [this]
        walk_at "wz"
        exact h2 (by rw [if_neg hc])
    · refine h2 ?_
      simp only [hl]
theorem _law_polynomial_in_spec {w : Str} {s : S} {k} {xq : Str → S → Prop} (ht : TextOk w) (h1 : ∀ l, pI w = some l → k (.val (.lst (l.map fr))) s ∧ k (.own (l.map fr)) s) (h2 : pI w = none → k (.val .non) s) : F__law_polynomial_in [.str w] s k xq := by
  have sb := size_big
  have okN : EqOk (.str (Str.ofString "nought")) := okStr_of "nought" (by decide +kernel)
  unfold pI at h1 h2
  refine ⟨rfl, ?_⟩
  unfold BF__law_polynomial_in
  walk_at "wz"
  refine ⟨⟨ht.asc.ok, okN⟩, ?_⟩
  rw [eqv_str]
  by_cases e : w = Str.ofString "nought"
  · rw [if_pos (by rw [e]; exact decide_eq_true rfl)]
    rw [if_pos e] at h1
    refine ⟨by decide, ?_⟩
    walk_at "wz"
    exact (h1 [] rfl).2
  · rw [if_neg (by rw [decide_eq_false fun z => e (str_ext z)]; decide)]
    rw [if_neg e] at h1 h2
    walk_at "wz"
    refine _law_sums_in_spec ht (fun l hl => ?_) (fun hl => ?_)
    · simp only [hl] at h1 h2
      have hne := sI_ne hl
      walk_at "wz"
      rw [if_neg (by intro z; cases z)]
      refine ⟨_, at_last hne, ?_⟩
      show ∃ x, atI [D.int (l.getLast hne).num, D.int ((l.getLast hne).den : Nat)] 0 = some x ∧ _
      refine ⟨_, rfl, ?_⟩
      show if (l.getLast hne).num = 0 then _ else _
      by_cases hz : (l.getLast hne).num = 0
      · rw [if_pos hz]
        have hc : ¬ Clean l := fun z => by
          rcases z with z | z
          · exact hne z
          · rw [List.getLast?_eq_some_getLast hne] at z
            exact z (congrArg some (Rat.num_eq_zero.mp hz))
        exact h2 (by rw [if_neg hc])
      · rw [if_neg hz]
        have hc : Clean l := .inr fun z => by
          rw [List.getLast?_eq_some_getLast hne] at z
          injection z with z
          exact hz (by rw [z]; rfl)
        exact (h1 l (by rw [if_pos hc])).1
    · simp only [hl] at h2
      walk_at "wz"
      exact h2 trivial
theorem ey_colon : TL.tl (Str.ofString ":") = [58] := by rw [TL.tl_ofString]; rfl
noncomputable def cI (p : Str) : Option (Rat × Rat) := match Txt.split p (Str.ofString ":") with
  | [a, b] => match fI a, fI b with
    | some x, some y => some (x, y)
    | _, _ => none
  | _ => none
open Classical in
noncomputable def kI (w : Str) : Option (List (Rat × Rat)) := if w = Str.ofString "none" then some [] else if (wordsS w).any (fun p => (cI p).isNone) then none
  else if isCrowd (.lst (((wordsS w).map fun p => (cI p).getD (0, 0)).map crD)) then some ((wordsS w).map fun p => (cI p).getD (0, 0)) else none
theorem wI_sz {w : Str} {x : Int} (h : wI w = some x) (hl : w.length ≤ 560) : x.natAbs < 2 ^ 1861 := by
  have e := wI_some h
  rw [e] at hl
  have key : ∀ n : Nat, (TL.numL n).length ≤ 560 → n < 2 ^ 1861 := fun n hn => by
    have := dig_lt _ (TL.numL_digits n)
    rw [TL.numL_val] at this
    exact Nat.lt_of_lt_of_le (Nat.lt_of_lt_of_le this (Nat.pow_le_pow_right (by decide) hn)) (by decide +kernel)
  cases x with
  | ofNat n =>
    have e2 : TL.tl (iT (Int.ofNat n)) = TL.numL n := tl_nat n
    rw [← tl_len, e2] at hl
    exact key n hl
  | negSucc n =>
    rw [← tl_len, tl_negT] at hl
    exact key (n + 1) (by simp at hl; omega)
theorem mq_sz {x y : Int} {q : Rat} (h : mq x y = some q) (hx : x.natAbs < 2 ^ 1861) (hy : y.natAbs < 2 ^ 1861) : Sz 1861 q := by
  have e := mq_some h
  unfold fr at e
  injection e with e
  injection e with e1 e
  injection e with e2 _
  injection e1 with e1
  injection e2 with e2
  refine ⟨by rw [← e1]; exact hx, ?_⟩
  rw [e2] at hy
  simpa using hy
theorem fI_sz {w : Str} {q : Rat} (h : fI w = some q) (hl : w.length ≤ 560) : Sz 1861 q := by
  have P := parts_of (x := w) ey_slash (by decide +kernel)
  unfold fI at h
  generalize Txt.split w (Str.ofString "/") = PP at P h
  match PP, P with
  | [], P => exact absurd rfl P.ne
  | [a], P =>
    simp only at h
    cases hx : wI a with
    | none => simp only [hx] at h; cases h
    | some x =>
      simp only [hx] at h
      exact mq_sz h (wI_sz hx (by have := P.len (p := a) List.mem_cons_self; omega)) (by decide +kernel)
  | [a, b], P =>
    simp only at h
    cases hx : wI a with
    | none => simp only [hx] at h; cases h
    | some x =>
      cases hy : wI b with
      | none => simp only [hx, hy] at h; cases h
      | some y =>
        simp only [hx, hy] at h
        split at h
        · exact mq_sz h (wI_sz hx (by have := P.len (p := a) List.mem_cons_self; omega)) (wI_sz hy (by have := P.len (p := b) (by simp); omega))
        · cases h
  | a :: b :: c :: r, P => cases h
theorem fI_free {w : Str} {q : Rat} (h : fI w = some q) : 58 ∉ TL.tl w := by
  have P := parts_of (x := w) ey_slash (by decide +kernel)
  unfold fI at h
  generalize Txt.split w (Str.ofString "/") = PP at P h
  match PP, P with
  | [], P => exact absurd rfl P.ne
  | [a], P =>
    simp only at h
    cases hx : wI a with
    | none => simp only [hx] at h; cases h
    | some x =>
      rw [P.one, wI_some hx]
      exact iT_free 58 (by decide) x
  | [a, b], P =>
    simp only at h
    cases hx : wI a with
    | none => simp only [hx] at h; cases h
    | some x =>
      cases hy : wI b with
      | none => simp only [hx, hy] at h; cases h
      | some y =>
        have ew := P.two ey_slash
        have eb : (⟨(TL.joinL [47] ([b].map TL.tl)).toArray⟩ : Str) = b := str_ext rfl
        rw [eb] at ew
        rw [ew, TL.tl_append, TL.tl_append, ey_slash, wI_some hx, wI_some hy]
        intro z
        rcases List.mem_append.mp z with z | z
        · rcases List.mem_append.mp z with z | z
          · exact iT_free 58 (by decide) x z
          · exact absurd (List.mem_singleton.mp z) (by decide)
        · exact iT_free 58 (by decide) y z
  | a :: b :: c :: r, P => cases h
theorem spot_in_gen {w : Str} {s : S} {k} {xq : Str → S → Prop} (ha : Asc w) (hl : w.length ≤ 560) (h1 : ∀ c, cI w = some c → k (.val (crD c)) s) (h2 : cI w = none → xq "NoText" s) : F_spot_in [.str w] s k xq := by
  have sb := size_big
  have okE : EqOk (.str (Str.ofString "")) := okStr_of "" (by decide +kernel)
  have okC : EqOk (.str (Str.ofString ":")) := okStr_of ":" (by decide +kernel)
  have eE : TL.tl (Str.ofString "") = [] := by rw [TL.tl_ofString]; rfl
  have P := parts_of (x := w) ey_colon (by decide +kernel)
  unfold cI at h1 h2
  refine ⟨rfl, ?_⟩
  unfold BF_spot_in
  walk_at "wz"
  refine ⟨⟨by rw [← tl_len, ey_colon]; decide, by omega⟩, ?_⟩
  generalize Txt.split w (Str.ofString ":") = PP at P h1 h2
  match PP, P with
  | [], P => exact absurd rfl P.ne
  | [a], P =>
    have ew := P.one
    subst ew
    rw [TL.partition_none ey_colon (P.free w (List.mem_singleton.mpr rfl))]
    walk_at "wz"
    refine ⟨⟨okEmpty, okE⟩, ?_⟩
    have e0 : TL.tl Str.empty = [] := rfl
    rw [eqv_str, e0, eE, decide_eq_true rfl, if_pos rfl]
    exact h2 rfl
  | a :: b :: r, P =>
    have ew := P.two ey_colon
    have hfa := P.free a List.mem_cons_self
    have haa := P.asc ha (p := a) List.mem_cons_self
    have hla := P.len (p := a) List.mem_cons_self
    have hbb : (⟨(TL.joinL [58] ((b :: r).map TL.tl)).toArray⟩ : Str).length ≤ w.length := by
      conv => rhs; rw [ew]
      rw [slen, slen]
      omega
    have hab : Asc (⟨(TL.joinL [58] ((b :: r).map TL.tl)).toArray⟩ : Str) := fun d hd => ha d (by
      rw [ew, TL.tl_append]
      exact List.mem_append_right _ hd)
    generalize hR : (⟨(TL.joinL [58] ((b :: r).map TL.tl)).toArray⟩ : Str) = R at ew hbb hab
    have eR : TL.tl R = TL.joinL [58] ((b :: r).map TL.tl) := by rw [← hR]
    rw [ew, TL.partition_app ey_colon hfa]
    walk_at "wz"
    refine ⟨⟨okC, okE⟩, ?_⟩
    rw [eqv_str, ey_colon, eE, decide_eq_false (by decide), if_neg (by decide)]
    walk_at "wz"
    refine fraction_in_gen haa (by omega) (IW.len (by rw [tl_len]; omega)) (fun x hx => ?_) (fun hx => ?_)
    · walk_at "wz"
      refine fraction_in_gen hab (by omega) (IW.len (by rw [tl_len]; omega)) (fun y hy => ?_) (fun hy => ?_)
      · have hr : r = [] := by
          cases r with
          | nil => rfl
          | cons c r =>
            exfalso
            refine fI_free hy ?_
            rw [eR]
            show 58 ∈ TL.tl b ++ ([58] ++ _)
            simp
        subst hr
        have eb : R = b := str_ext eR
        rw [eb] at hy
        walk_at "wz"
        refine ⟨by show 2 ≤ sizeLine; decide, ?_⟩
        exact h1 (x, y) (by simp only [hx, hy])
      · refine h2 ?_
        cases r with
        | nil =>
          have eb : R = b := str_ext eR
          rw [eb] at hy
          simp only [hx, hy]
        | cons c r => rfl
    · refine h2 ?_
      cases r with
      | nil => simp only [hx]
      | cons c r => rfl
theorem cI_sz {w : Str} {c : Rat × Rat} (h : cI w = some c) (hl : w.length ≤ 560) : Sz 1861 c.1 ∧ Sz 1861 c.2 := by
  have P := parts_of (x := w) ey_colon (by decide +kernel)
  unfold cI at h
  generalize Txt.split w (Str.ofString ":") = PP at P h
  match PP, P with
  | [], P => exact absurd rfl P.ne
  | [a], P => cases h
  | [a, b], P =>
    simp only at h
    cases hx : fI a with
    | none => simp only [hx] at h; cases h
    | some x =>
      cases hy : fI b with
      | none => simp only [hx, hy] at h; cases h
      | some y =>
        simp only [hx, hy] at h
        injection h with h
        subst h
        exact ⟨fI_sz hx (by have := P.len (p := a) List.mem_cons_self; omega), fI_sz hy (by have := P.len (p := b) (by simp); omega)⟩
  | a :: b :: c :: r, P => cases h
theorem read_crowd_gen {w : Str} {s : S} {k} {xq : Str → S → Prop} (ht : TextOk w) (hw : (wordsS w).length < 1000) (h1 : ∀ c, kI w = some c → k (.own (c.map crD)) s) (h2 : kI w = none → xq "NoText" s) : F_read_crowd [.str w] s k xq := by
  have sb := size_big
  have okN : EqOk (.str (Str.ofString "none")) := okStr_of "none" (by decide +kernel)
  have P := words_parts w
  have hwl := ht.len
  have h3 : (Str.ofString " ").length = 1 := by rw [← tl_len, ey_blank]; rfl
  unfold kI at h1 h2
  refine ⟨rfl, ?_⟩
  unfold BF_read_crowd
  walk_at "wz"
  refine need_text_spec ?_
  walk_at "wz"
  refine ⟨⟨ht.asc.ok, okN⟩, ?_⟩
  rw [eqv_str]
  by_cases e : w = Str.ofString "none"
  · rw [if_pos (by rw [e]; exact decide_eq_true rfl)]
    rw [if_pos e] at h1
    refine ⟨by decide, ?_⟩
    walk_at "wz"
    exact h1 [] rfl
  · rw [if_neg (by rw [decide_eq_false fun z => e (str_ext z)]; decide)]
    rw [if_neg e] at h1 h2
    walk_at "wz"
    have es : Txt.split w (Str.ofString " ") = wordsS w := rfl
    rw [es]
    refine ⟨⟨by omega, by omega⟩, by rw [List.length_map]; omega, ?_⟩
    refine compW_may (f := D.str) (g := fun p => crD ((cI p).getD (0, 0))) (good := fun p => !(cI p).isNone) (wordsS w) [] (fun p hp K hK => ?_) fun hall => ?_
    · walk_at "wz"
      refine spot_in_gen (P.asc ht.asc hp) (ht.wd p hp) (fun q hq => ?_) (fun hq => ?_)
      · walk_at "wz"
        rw [hq] at hK
        exact hK rfl
      · refine h2 ?_
        rw [if_pos]
        exact List.any_eq_true.mpr ⟨p, hp, by rw [hq]; rfl⟩
    · walk_at "wz"
      have hn : ¬ (wordsS w).any (fun p => (cI p).isNone) = true := fun z => by
        obtain ⟨p, hp, hq⟩ := List.any_eq_true.mp z
        have := hall p hp
        rw [hq] at this
        cases this
      rw [if_neg hn] at h1 h2
      have ec : (wordsS w).map (fun p => crD ((cI p).getD (0, 0))) = ((wordsS w).map fun p => (cI p).getD (0, 0)).map crD := by rw [List.map_map]; rfl
      rw [ec]
      have hok : CrOk (.lst (((wordsS w).map fun p => (cI p).getD (0, 0)).map crD)) := ⟨trivial, fun ds h => by
        injection h with h
        subst h
        refine ⟨by rw [List.length_map, List.length_map]; omega, fun e he => ?_⟩
        obtain ⟨c, hc, rfl⟩ := List.mem_map.mp he
        obtain ⟨p, hp, rfl⟩ := List.mem_map.mp hc
        refine ⟨trivial, fun ds h e he => ?_, fun p' h => ?_⟩
        · unfold crD at h
          injection h with h
          subst h
          simp only [List.mem_cons, List.not_mem_nil, or_false] at he
          rcases he with rfl | rfl <;> exact pl_fr _
        · unfold crD at h
          injection h with h
          injection h with h _
          rw [← fr_inj h]
          cases hq : cI p with
          | none => have := hall p hp; rw [hq] at this; cases this
          | some c => exact (cI_sz hq (ht.wd p hp)).1.mono (by decide)⟩
      refine is_crowd_spec hok ?_
      cases hcr : isCrowd (.lst (((wordsS w).map fun p => (cI p).getD (0, 0)).map crD)) with
      | true =>
        walk_at "wz"
        exact h1 _ (by rw [if_pos hcr])
      | false =>
        walk_at "wz"
        exact h2 (by rw [if_neg (by rw [hcr]; decide)])
theorem isCr_iff (c : List (Rat × Rat)) : isCrowd (.lst (c.map crD)) = true ↔ (∀ p ∈ c, 0 < p.2.num) ∧ ∀ i (h : i + 1 < c.length), c[i].1 < c[i + 1].1 := by
  rw [isCrowd_lst, risen_fr, Bool.and_eq_true, risen_iff, List.all_map, List.all_eq_true]
  constructor
  · rintro ⟨h1, h2⟩
    refine ⟨fun p hp => ?_, h2⟩
    have := h1 p hp
    have e : isSpot (crD p) = decide (0 < p.2.num) := isSpot_fr p.1 p.2
    rw [Function.comp, e] at this
    exact of_decide_eq_true this
  · rintro ⟨h1, h2⟩
    refine ⟨fun p hp => ?_, h2⟩
    have e : isSpot (crD p) = decide (0 < p.2.num) := isSpot_fr p.1 p.2
    rw [Function.comp, e]
    exact decide_eq_true (h1 p hp)
theorem nice_crs {l : List (Rat × Rat)} (h : l.length < 1000000) : Nice 3 (.lst (l.map crD)) := ⟨by have := size_big; simp; omega, fun d hd => by
  obtain ⟨p, _, rfl⟩ := List.mem_map.mp hd
  refine ⟨by show 2 < sizeLine; have := size_big; omega, fun e he => ?_⟩
  simp only [List.mem_cons, List.not_mem_nil, or_false] at he
  rcases he with rfl | rfl <;> exact nice_fr _⟩
theorem _law_crowd_in_spec {w : Str} {s : S} {k} {xq : Str → S → Prop} (ht : TextOk w) (h1 : ∀ c, kI w = some c → k (.own (c.map crD)) s) (h2 : kI w = none → k (.val .non) s) : F__law_crowd_in [.str w] s k xq := by
  have sb := size_big
  have okN : EqOk (.str (Str.ofString "none")) := okStr_of "none" (by decide +kernel)
  have P := words_parts w
  have hwl := ht.len
  have hm := P.many
  have h3 : (Str.ofString " ").length = 1 := by rw [← tl_len, ey_blank]; rfl
  unfold kI at h1 h2
  refine ⟨rfl, ?_⟩
  unfold BF__law_crowd_in
  walk_at "wz"
  refine ⟨⟨ht.asc.ok, okN⟩, ?_⟩
  rw [eqv_str]
  by_cases e : w = Str.ofString "none"
  · rw [if_pos (by rw [e]; exact decide_eq_true rfl)]
    rw [if_pos e] at h1
    refine ⟨by decide, ?_⟩
    walk_at "wz"
    exact h1 [] rfl
  · rw [if_neg (by rw [decide_eq_false fun z => e (str_ext z)]; decide)]
    rw [if_neg e] at h1 h2
    walk_at "wz"
    refine ⟨by decide, ?_⟩
    walk_at "wz"
    have es : Txt.split w (Str.ofString " ") = wordsS w := rfl
    rw [es]
    refine ⟨⟨by omega, by omega⟩, ?_⟩
    generalize hcs : (wordsS w).map (fun p => (cI p).getD (0, 0)) = cs at h1 h2
    have hcl : cs.length = (wordsS w).length := by rw [← hcs, List.length_map]
    refine forW_inv (l := wordsS w) (f := D.str) (fun i env s' => ∃ v2 v3 v4, env = [.val (.str w), .own ((cs.take i).map crD), v2, v3, v4, .no] ∧ s' = s ∧ (∀ j (hj : j < (wordsS w).length), j < i → (cI (wordsS w)[j]).isNone = false) ∧ isCrowd (.lst ((cs.take i).map crD)) = true) ?_ ⟨_, _, _, rfl, rfl, fun j _ hj => absurd hj (by omega), rfl⟩ ?_
    · rintro i hi env s' ⟨v2, v3, v4, rfl, rfl, hgood, hcr⟩ KN hk
      have hp : (wordsS w)[i] ∈ wordsS w := List.getElem_mem hi
      have hci : cs[i]'(by omega) = (cI (wordsS w)[i]).getD (0, 0) := by
        simp only [← hcs, List.getElem_map]
      have ha := P.asc ht.asc hp
      have hl := ht.wd _ hp
      generalize hpe : (wordsS w)[i] = p at hp hci ha hl
      have P2 := parts_of (x := p) ey_colon (by decide +kernel)
      walk_at "wz"
      refine ⟨⟨by rw [← tl_len, ey_colon]; decide, by omega⟩, ?_⟩
      have hcI : cI p = match Txt.split p (Str.ofString ":") with
        | [a, b] => match fI a, fI b with
          | some x, some y => some (x, y)
          | _, _ => none
        | _ => none := rfl
      generalize Txt.split p (Str.ofString ":") = PP at P2 hcI
      have hm2 := P2.many
      walk_at "wz"
      refine ⟨by rw [List.length_map]; omega, ?_⟩
      refine compW_map (f := D.str) (g := fun a => oF (fI a)) PP [] (fun a hap K hK => ?_) ?_
      · walk_at "wz"
        refine _law_fraction_in_spec (P2.asc ha hap) (by have := P2.len hap; omega) (IW.len (by rw [tl_len]; have := P2.len hap; omega)) ?_
        walk_at "wz"
        exact hK
      walk_at "wz"
      have NL : Nice 3 (.lst (PP.map fun p => oF (fI p))) := ⟨by rw [List.length_map]; omega, fun d hd => by
        obtain ⟨p, _, rfl⟩ := List.mem_map.mp hd
        exact nice_oF _⟩
      have eany : ((PP.map fun p => oF (fI p)).any fun z => z.eqv .non) = PP.any fun p => (fI p).isNone := by
        rw [List.any_map]
        exact congrArg (fun g => List.any PP g) (funext fun p => eqv_oF _)
      have bad : cI p = none → k (.val .non) s' := fun z => h2 (by
        rw [if_pos]
        exact List.any_eq_true.mpr ⟨p, hp, by rw [z]; rfl⟩)
      rw [List.length_map]
      by_cases h2p : PP.length = 2
      · rw [if_neg (by simp [h2p])]
        obtain ⟨a, b, rfl⟩ : ∃ a b, PP = [a, b] := by
          match PP, h2p with
          | [a, b], _ => exact ⟨a, b, rfl⟩
        refine ⟨⟨rfl, NL.eqOk (by decide)⟩, ?_⟩
        rw [eany]
        simp only at hcI
        cases hx : fI a with
        | none =>
          rw [if_pos (by simp [hx])]
          exact bad (by rw [hcI]; simp only [hx])
        | some x =>
          cases hy : fI b with
          | none =>
            rw [if_pos (by simp [hy])]
            exact bad (by rw [hcI]; simp only [hx, hy])
          | some y =>
            rw [if_neg (by simp [hx, hy])]
            simp only [hx, hy] at hcI
            have e1 : oF (some x) = fr x := rfl
            have e2 : oF (some y) = fr y := rfl
            simp only [List.map_cons, List.map_nil, hx, hy, e1, e2]
            walk_at "wz"
            have bad2 : ¬ isCrowd (.lst (cs.map crD)) = true → k (.val .non) s' := fun z => h2 (by
              by_cases ha : (wordsS w).any (fun p => (cI p).isNone) = true
              · rw [if_pos ha]
              · rw [if_neg ha, if_neg z])
            have hxy : cs[i]'(by omega) = (x, y) := by rw [hci, hcI]; rfl
            by_cases hy0 : y.num ≤ 0
            · rw [if_pos hy0]
              refine bad2 fun z => ?_
              have := ((isCr_iff cs).mp z).1 _ (List.getElem_mem (show i < cs.length by omega))
              rw [hxy] at this
              have this : 0 < y.num := this
              omega
            · rw [if_neg hy0]
              have etk : cs.take (i + 1) = cs.take i ++ [(x, y)] := by rw [List.take_succ_eq_append_getElem (by omega), hxy]
              have hsx : Sz 1861 x := (cI_sz (hcI ▸ rfl : cI p = some (x, y)) hl).1
              have hg2 : ∀ j (hj : j < (wordsS w).length), j < i + 1 → (cI (wordsS w)[j]).isNone = false := fun j hj hji => by
                by_cases hji' : j < i
                · exact hgood j hj hji'
                · have : j = i := by omega
                  subst this
                  simp only [hpe]
                  rw [hcI]
                  rfl
              have fin : (i ≠ 0 → (cs[i - 1]'(by omega)).1 < x) → KN [.val (.str w), .own ((cs.take (i + 1)).map crD), .val (.str p), .own [.str a, .str b], .own [fr x, fr y], .no] s' := fun hlt => hk _ _ ⟨_, _, _, rfl, rfl, hg2, by
                obtain ⟨c1, c2⟩ := (isCr_iff _).mp hcr
                have hlen : (cs.take i).length = i := by rw [List.length_take]; omega
                refine (isCr_iff _).mpr ⟨fun q hq => ?_, fun j hj => ?_⟩
                · rw [etk] at hq
                  rcases List.mem_append.mp hq with hq | hq
                  · exact c1 q hq
                  · rw [List.mem_singleton.mp hq]
                    show 0 < y.num
                    omega
                · have hj' : j + 1 < i + 1 := by rw [List.length_take] at hj; omega
                  simp only [List.getElem_take]
                  by_cases hji : j + 1 < i
                  · have := c2 j (by omega)
                    simpa only [List.getElem_take] using this
                  · have hji : j + 1 = i := by omega
                    subst hji
                    have := hlt (by omega)
                    simp only [hxy]
                    exact this⟩
              walk_at "wz"
              refine ⟨by omega, ?_⟩
              have hlen : (cs.take i).length = i := by rw [List.length_take]; omega
              have app : (i ≠ 0 → (cs[i - 1]'(by omega)).1 < x) → seqK (wApp 1 (wTup (wCons (wIxv 4 (wP (wC (.int 0)))) (wCons (wIxv 4 (wP (wC (.int 1)))) wNil)))) (fun fl => match fl with
                  | .nx e s2 => KN e s2
                  | .ct e s2 => KN e s2
                  | .bk e s2 => seqK (wRetV 1) (kBody k) (.nx e s2)
                  | .rt r s2 => seqK (wRetV 1) (kBody k) (.rt r s2)) (.nx [.val (.str w), .own ((cs.take i).map crD), .val (.str p), .own [.str a, .str b], .own [fr x, fr y], .no] s') := fun hlt => by
                walk_at "wz"
                refine ⟨by decide, by rw [List.length_map]; omega, ?_⟩
                have := fin hlt
                rw [etk, List.map_append] at this
                exact this
              by_cases hi0 : i = 0
              · subst hi0
                rw [if_neg (by simp)]
                exact app fun z => absurd rfl z
              · rw [if_pos (by
                  cases ht : cs.take i with
                  | nil => rw [ht] at hlen; simp at hlen; omega
                  | cons => rfl)]
                have hi1 : i - 1 < cs.length := by omega
                have esn : cs.take i = cs.take (i - 1) ++ [cs[i - 1]] := by
                  have := List.take_succ_eq_append_getElem hi1
                  rwa [show i - 1 + 1 = i by omega] at this
                have elast : atI ((cs.take i).map crD) (-1) = some (crD cs[i - 1]) := by
                  rw [esn, List.map_append]
                  exact at_snocD _ _
                refine ⟨_, elast, ?_⟩
                show ∃ x_2, atI [fr (cs[i - 1]).1, fr (cs[i - 1]).2] 0 = some x_2 ∧ _
                refine ⟨_, rfl, ?_⟩
                have hsl : Sz 1861 (cs[i - 1]).1 := by
                  have hgi := hgood (i - 1) (by omega) (by omega)
                  have hce : cs[i - 1] = (cI ((wordsS w)[i - 1]'(by omega))).getD (0, 0) := by simp only [← hcs, List.getElem_map]
                  cases hq : cI ((wordsS w)[i - 1]'(by omega)) with
                  | none => rw [hq] at hgi; cases hgi
                  | some c =>
                    rw [hce, hq]
                    exact (cI_sz hq (ht.wd _ (List.getElem_mem _))).1
                refine _law_less_spec hsl hsx (by decide) ?_
                walk_at "wz"
                by_cases hlt : (cs[i - 1]).1 < x
                · rw [if_neg (by simpa using hlt)]
                  exact app fun _ => hlt
                · rw [if_pos hlt]
                  refine bad2 fun z => hlt ?_
                  have := ((isCr_iff cs).mp z).2 (i - 1) (by omega)
                  simp only [show i - 1 + 1 = i by omega, hxy] at this
                  exact this
      · rw [if_pos (by omega)]
        refine bad ?_
        rw [hcI]
        match PP, h2p with
        | [], _ => rfl
        | [a], _ => rfl
        | [a, b], h => exact absurd rfl h
        | a :: b :: c :: r, _ => rfl
    · rintro env s' ⟨v2, v3, v4, rfl, rfl, hgood, hcr⟩
      walk_at "wz"
      have hn : ¬ (wordsS w).any (fun p => (cI p).isNone) = true := fun z => by
        obtain ⟨p, hp, hq⟩ := List.any_eq_true.mp z
        obtain ⟨j, hj, rfl⟩ := List.mem_iff_getElem.mp hp
        rw [hgood j hj hj] at hq
        cases hq
      rw [if_neg hn] at h1
      rw [List.take_of_length_le (by omega)] at hcr ⊢
      exact h1 cs (by rw [if_pos hcr])
theorem IW.app {W V : Nat} {x y : List Nat} (h : IW W x) (h' : IW V y) : IW (W + V) (x ++ y) := fun a u b q f => by
  rcases List.append_eq_append_iff.mp q with ⟨c, e1, e2⟩ | ⟨c, e1, e2⟩
  · rcases List.append_eq_append_iff.mp e1 with ⟨d, e3, e4⟩ | ⟨d, e3, e4⟩
    · have f1 : 32 ∉ d := fun z => f (by rw [e4]; exact List.mem_append_left _ z)
      have f2 : 32 ∉ c := fun z => f (by rw [e4]; exact List.mem_append_right _ z)
      have h1 := h a d [] (by rw [e3]; simp) f1
      have h2 := h' [] c b (by rw [e2]; rfl) f2
      rw [e4, List.length_append]
      omega
    · have h1 := h' d u b (by rw [e2, e4]) f
      omega
  · have h1 := h a u c e1 f
    omega
theorem IW.sep {W : Nat} {x y : List Nat} (h : IW W x) (h' : IW W y) : IW W (x ++ (32 :: y)) := fun a u b q f => by
  rcases List.append_eq_append_iff.mp q with ⟨c, e1, e2⟩ | ⟨c, e1, e2⟩
  · rcases List.append_eq_append_iff.mp e1 with ⟨d, e3, e4⟩ | ⟨d, e3, e4⟩
    · cases c with
      | nil =>
        rw [List.append_nil] at e4
        subst e4
        exact h a u [] (by rw [e3]; simp) f
      | cons z c =>
        injection e2 with e5 _
        exact absurd (by rw [e4, ← e5]; exact List.mem_append_right _ List.mem_cons_self) f
    · cases d with
      | nil =>
        have e4 : c = u := e4
        subst e4
        cases c with
        | nil => exact Nat.zero_le _
        | cons z c =>
          injection e2 with e5 _
          exact absurd (by rw [← e5]; exact List.mem_cons_self) f
      | cons z d =>
        rw [e4] at e2
        injection e2 with _ e5
        exact h' d u b e5 f
  · exact h a u c e1 f
theorem IW.join {W : Nat} : ∀ {ps : List (List Nat)}, (∀ p ∈ ps, p.length ≤ W) → IW W (TL.joinL [32] ps)
  | [], _ => IW.len (Nat.zero_le _)
  | [p], h => IW.len (h p (List.mem_singleton.mpr rfl))
  | p :: q :: r, h => IW.sep (IW.len (h p List.mem_cons_self)) (IW.join (ps := q :: r) fun x hx => h x (List.mem_cons_of_mem _ hx))
structure TxB (L W : Nat) (w : Str) : Prop where
  asc : Asc w
  len : w.length ≤ L
  iw : IW W (TL.tl w)
theorem TxB.wd {L W : Nat} {w : Str} (h : TxB L W w) : ∀ p ∈ wordsS w, p.length ≤ W := fun p hp => by
  have P := words_parts w
  obtain ⟨a, b, e⟩ := joinL_infix (c := 32) (List.mem_map_of_mem (f := TL.tl) hp)
  rw [← tl_len]
  exact h.iw a _ b (by rw [P.eq, e]) (P.free p hp)
theorem TxB.ok {L W : Nat} {w : Str} (h : TxB L W w) (hL : L ≤ 100000) (hW : W ≤ 560) : TextOk w := ⟨h.asc, Nat.le_trans h.len hL, fun p hp => Nat.le_trans (h.wd p hp) hW, h.iw.mono hW⟩
def wt (ps : List Str) : Nat := (ps.map fun p => p.length + 1).sum
theorem wt_app (a b : List Str) : wt (a ++ b) = wt a + wt b := by simp [wt]
theorem wt_one (a : Str) : wt [a] = a.length + 1 := by simp [wt]
theorem wt_cons (a : Str) (l : List Str) : wt (a :: l) = a.length + 1 + wt l := by simp [wt]
theorem wt_join : ∀ {ps : List Str}, ps ≠ [] → (TL.joinL [32] (ps.map TL.tl)).length + 1 = wt ps
  | [], h => absurd rfl h
  | [p], _ => by
    rw [wt_one]
    show (TL.tl p).length + 1 = _
    rw [tl_len]
  | p :: q :: r, _ => by
    have := wt_join (ps := q :: r) (by simp)
    rw [wt_cons, ← this]
    show (TL.tl p ++ ([32] ++ TL.joinL [32] ((q :: r).map TL.tl))).length + 1 = _
    rw [List.length_append, List.length_append, tl_len]
    simp
    omega
theorem wt_take (ps : List Str) (k : Nat) : wt (ps.take k) + wt (ps.drop k) = wt ps := by rw [← wt_app, List.take_append_drop]
theorem wt_drop (ps : List Str) (k : Nat) : wt (ps.drop (k + 1)) ≤ wt (ps.drop k) := by
  rcases Nat.lt_or_ge k ps.length with h | h
  · rw [List.drop_eq_getElem_cons h, wt_cons]
    omega
  · rw [List.drop_eq_nil_of_le (by omega)]
    exact Nat.zero_le _
theorem join_len (y : Str) : ∀ parts : List Str, (Txt.join y parts).length ≤ (parts.map (·.length)).sum + parts.length * y.length
  | [] => by rw [← tl_len, TL.join_eq, TL.tl_join]; simp [TL.joinL]
  | [x] => by
    rw [← tl_len, TL.join_eq, TL.tl_join]
    show (TL.tl x).length ≤ _
    rw [tl_len]
    simp
  | x :: z :: r => by
    have ih := join_len y (z :: r)
    rw [← tl_len, TL.join_eq, TL.tl_join] at ih ⊢
    show (TL.tl x ++ (TL.tl y ++ TL.joinL (TL.tl y) ((z :: r).map TL.tl))).length ≤ _
    rw [List.length_append, List.length_append, tl_len, tl_len]
    simp only [List.map_cons, List.sum_cons, List.length_cons] at ih ⊢
    rw [Nat.add_mul (r.length + 1) 1]
    omega
theorem joinL_mem {S : List Nat} {c : Nat} : ∀ {parts : List (List Nat)}, c ∈ TL.joinL S parts → c ∈ S ∨ ∃ p ∈ parts, c ∈ p
  | [], h => by cases h
  | [p], h => .inr ⟨p, by simp, h⟩
  | p :: q :: r, h => by
    rcases List.mem_append.mp (show c ∈ p ++ (S ++ TL.joinL S (q :: r)) from h) with h | h
    · exact .inr ⟨p, by simp, h⟩
    · rcases List.mem_append.mp h with h | h
      · exact .inl h
      · rcases joinL_mem h with h | ⟨p', h1, h2⟩
        · exact .inl h
        · exact .inr ⟨p', List.mem_cons_of_mem _ h1, h2⟩
theorem join_mem {y : Str} {parts : List Str} {c : Nat} (h : c ∈ TL.tl (Txt.join y parts)) : c ∈ TL.tl y ∨ ∃ p ∈ parts, c ∈ TL.tl p := by
  rw [TL.join_eq, TL.tl_join] at h
  rcases joinL_mem h with h | ⟨p, h1, h2⟩
  · exact .inl h
  · obtain ⟨x, hx, rfl⟩ := List.mem_map.mp h1
    exact .inr ⟨x, hx, h2⟩
theorem join_txb {L W : Nat} {ps : List Str} (hp : ∀ p ∈ ps, p.length ≤ W ∧ Asc p) (hl : wt ps ≤ L + 1) : TxB L W (Txt.join (Str.ofString " ") ps) := by
  have e : TL.tl (Txt.join (Str.ofString " ") ps) = TL.joinL [32] (ps.map TL.tl) := by rw [TL.join_eq, TL.tl_join, ey_blank]
  refine ⟨fun c hc => ?_, ?_, ?_⟩
  · rcases join_mem hc with h | ⟨p, h1, h2⟩
    · rw [ey_blank] at h
      rw [List.mem_singleton.mp h]
      decide
    · exact (hp p h1).2 c h2
  · rw [← tl_len, e]
    by_cases h0 : ps = []
    · subst h0
      exact Nat.zero_le _
    · have := wt_join h0
      omega
  · rw [e]
    refine IW.join fun x hx => ?_
    obtain ⟨p, h1, rfl⟩ := List.mem_map.mp hx
    rw [tl_len]
    exact (hp p h1).1
theorem cut_to {w : Str} {n : Nat} (hn : n ≤ w.length) : TL.tl (cutS w none (some (n : Int))) = (TL.tl w).take n := by
  unfold cutS
  show ((w.cps.toList.drop _).take _).toArray.toList = _
  rw [HT.sIx_nat]
  have s2 : HT.sIx w.length 0 none = 0 := rfl
  rw [s2, List.drop_zero, Nat.sub_zero, Nat.min_eq_left hn]
theorem cut_from {w : Str} {n : Nat} : TL.tl (cutS w (some (n : Int)) none) = (TL.tl w).drop n := by
  unfold cutS
  show ((w.cps.toList.drop _).take _).toArray.toList = _
  rw [HT.sIx_nat]
  have s2 : HT.sIx w.length w.length none = w.length := rfl
  have hl : w.cps.toList.length = w.length := tl_len w
  rw [s2]
  rcases Nat.le_total n w.length with h | h
  · rw [Nat.min_eq_left h, List.take_of_length_le (by rw [List.length_drop]; omega)]
  · rw [Nat.min_eq_right h, List.drop_eq_nil_of_le (show (TL.tl w).length ≤ n by rw [tl_len]; exact h), List.drop_eq_nil_of_le (by omega)]
    simp
theorem asc_of (s : String) (h : (Str.ofString s).cps.toList.all (fun c => decide (c < 128)) = true) : Asc (Str.ofString s) := fun c hc => of_decide_eq_true (List.all_eq_true.mp h c hc)
theorem odd_at : ∀ i : Nat, i < 12 → ∃ y : Str, atI [D.str (Str.ofString "0"), D.str (Str.ofString "-0"), D.str (Str.ofString "01"), D.str (Str.ofString "2/4"), D.str (Str.ofString "1/1"), D.str (Str.ofString "1/0"), D.str (Str.ofString ""), D.str (Str.ofString "nought"), D.str (Str.ofString "none"), D.str (Str.ofString "3/-2"), D.str (Str.ofString "1:0"), D.str (Str.ofString "5:1")] (i : Int) = some (.str y) ∧ y.length ≤ 6 ∧ Asc y
  | 0, _ => ⟨_, rfl, by decide +kernel, asc_of _ (by decide +kernel)⟩
  | 1, _ => ⟨_, rfl, by decide +kernel, asc_of _ (by decide +kernel)⟩
  | 2, _ => ⟨_, rfl, by decide +kernel, asc_of _ (by decide +kernel)⟩
  | 3, _ => ⟨_, rfl, by decide +kernel, asc_of _ (by decide +kernel)⟩
  | 4, _ => ⟨_, rfl, by decide +kernel, asc_of _ (by decide +kernel)⟩
  | 5, _ => ⟨_, rfl, by decide +kernel, asc_of _ (by decide +kernel)⟩
  | 6, _ => ⟨_, rfl, by decide +kernel, asc_of _ (by decide +kernel)⟩
  | 7, _ => ⟨_, rfl, by decide +kernel, asc_of _ (by decide +kernel)⟩
  | 8, _ => ⟨_, rfl, by decide +kernel, asc_of _ (by decide +kernel)⟩
  | 9, _ => ⟨_, rfl, by decide +kernel, asc_of _ (by decide +kernel)⟩
  | 10, _ => ⟨_, rfl, by decide +kernel, asc_of _ (by decide +kernel)⟩
  | 11, _ => ⟨_, rfl, by decide +kernel, asc_of _ (by decide +kernel)⟩
  | n + 12, h => absurd h (by omega)
theorem _law_bent_spec {w : Str} {x : Int} {b : Bool} {a : Addr} {L W : Nat} {k xq} (hx : StOk x b) (h : TxB L W w) (hL : L ≤ 2000) (hW : W ≤ 600) (hW6 : 6 ≤ W) (hk : ∀ r x', TxB (L + W + 8) (2 * W + 1) r → StOk x' b → k (.val (.str r)) (some ⟨x', b, a⟩)) : F__law_bent [.st a, .str w] (some ⟨x, b, a⟩) k xq := by
  have sb := size_big
  have hwl := h.len
  refine ⟨rfl, ?_⟩
  unfold BF__law_bent
  walk_at "wz"
  refine _law_take_spec hx (by decide) (by decide) fun way x1 w0 w1 hx1 => ?_
  walk_at "wz"
  refine ⟨by omega, ?_⟩
  refine _law_take_spec hx1 (by omega) (by omega) fun t x2 t0 t1 hx2 => ?_
  obtain ⟨t, rfl⟩ := Int.eq_ofNat_of_zero_le t0
  walk_at "wz"
  refine _law_take_spec hx2 (by decide) (by decide) fun g x3 g0 g1 hx3 => ?_
  obtain ⟨g, rfl⟩ := Int.eq_ofNat_of_zero_le g0
  walk_at "wz"
  have esg : (Str.ofString "0123 -/:9n+._e7").cps.toList = [48, 49, 50, 51, 32, 45, 47, 58, 57, 110, 43, 46, 95, 101, 55] := by
    show TL.tl (Str.ofString "0123 -/:9n+._e7") = _
    rw [TL.tl_ofString]
    rfl
  have hg15 : g < 15 := by omega
  obtain ⟨ch, hch, hch2⟩ : ∃ ch, ([48, 49, 50, 51, 32, 45, 47, 58, 57, 110, 43, 46, 95, 101, 55] : List Nat)[g]? = some ch ∧ ch < 128 := by
    have : ∀ g, g < 15 → ∃ ch, ch < 128 ∧ ([48, 49, 50, 51, 32, 45, 47, 58, 57, 110, 43, 46, 95, 101, 55] : List Nat)[g]? = some ch := by decide
    obtain ⟨c, c1, c2⟩ := this g hg15
    exact ⟨c, c2, c1⟩
  refine ⟨by rw [← tl_len]; show (Str.ofString "0123 -/:9n+._e7").cps.toList.length ≤ _; rw [esg]; simp; omega, ch, by rw [esg, atI_nat' (by simpa using hg15)]; exact hch, ?_⟩
  walk_at "wz"
  have lch : (⟨#[ch]⟩ : Str).length = 1 := rfl
  have tch : TL.tl (⟨#[ch]⟩ : Str) = [ch] := rfl
  have ht1 : t ≤ w.length := by omega
  have eT := cut_to (w := w) ht1
  have eF := cut_from (w := w) (n := t)
  have eF1 := cut_from (w := w) (n := t + 1)
  have lT : (cutS w none (some (t : Int))).length = t := by rw [← tl_len, eT, List.length_take, tl_len]; omega
  have lF : (cutS w (some (t : Int)) none).length = w.length - t := by rw [← tl_len, eF, List.length_drop, tl_len]
  have lF1 : (cutS w (some ((t + 1 : Nat) : Int)) none).length = w.length - (t + 1) := by rw [← tl_len, eF1, List.length_drop, tl_len]
  have iT' : IW W ((TL.tl w).take t) := IW.left (y := (TL.tl w).drop t) (by rw [List.take_append_drop]; exact h.iw)
  have iF : IW W ((TL.tl w).drop t) := IW.right (x := (TL.tl w).take t) (by rw [List.take_append_drop]; exact h.iw)
  have iF1 : IW W ((TL.tl w).drop (t + 1)) := IW.right (x := (TL.tl w).take (t + 1)) (by rw [List.take_append_drop]; exact h.iw)
  have aT : ∀ c ∈ (TL.tl w).take t, c < 128 := fun c hc => h.asc c (List.mem_of_mem_take hc)
  have aF : ∀ c ∈ (TL.tl w).drop t, c < 128 := fun c hc => h.asc c (List.mem_of_mem_drop hc)
  have aF1 : ∀ c ∈ (TL.tl w).drop (t + 1), c < 128 := fun c hc => h.asc c (List.mem_of_mem_drop hc)
  have i1 : IW 1 [ch] := IW.len (by simp)
  have a1 : ∀ c ∈ [ch], c < 128 := fun c hc => by rw [List.mem_singleton.mp hc]; exact hch2
  by_cases hw3 : way < 3
  · rw [if_pos hw3, show ((t : Nat) : Int) + 1 = ((t + 1 : Nat) : Int) by omega]
    have mk : ∀ r : Str, ∀ m : List Nat, TL.tl r = m → (∀ c ∈ m, c < 128) → m.length ≤ L + W + 8 → IW (2 * W + 1) m → TxB (L + W + 8) (2 * W + 1) r := fun r m e h1 h2 h3 => ⟨fun c hc => h1 c (by rw [← e]; exact hc), by rw [← tl_len, e]; exact h2, by rw [e]; exact h3⟩
    have w3 : way = 0 ∨ way = 1 ∨ way = 2 := by omega
    refine ⟨by omega, by omega, by omega, by omega, by omega, by omega, by rw [slen]; omega, by omega, by omega, by omega, by rw [slen]; omega, by omega, ?_⟩
    rcases w3 with rfl | rfl | rfl
    · refine ⟨_, rfl, ?_⟩
      walk_at "wz"
      refine hk _ _ (mk _ _ (by rw [TL.tl_append, eT, eF1]) (fun c hc => (List.mem_append.mp hc).elim (aT c) (aF1 c)) ?_ ((IW.app iT' iF1).mono (by omega))) hx3
      rw [List.length_append, List.length_take, List.length_drop, tl_len]
      omega
    · refine ⟨_, rfl, ?_⟩
      walk_at "wz"
      refine hk _ _ (mk _ _ (by rw [TL.tl_append, TL.tl_append, eT, eF, tch]) (fun c hc => (List.mem_append.mp hc).elim (fun z => (List.mem_append.mp z).elim (aT c) (a1 c)) (aF c)) ?_ ((IW.app (IW.app iT' i1) iF).mono (by omega))) hx3
      rw [List.length_append, List.length_append, List.length_take, List.length_drop, tl_len]
      simp
      omega
    · refine ⟨_, rfl, ?_⟩
      walk_at "wz"
      refine hk _ _ (mk _ _ (by rw [TL.tl_append, TL.tl_append, eT, eF1, tch]) (fun c hc => (List.mem_append.mp hc).elim (fun z => (List.mem_append.mp z).elim (aT c) (a1 c)) (aF1 c)) ?_ ((IW.app (IW.app iT' i1) iF1).mono (by omega))) hx3
      rw [List.length_append, List.length_append, List.length_take, List.length_drop, tl_len]
      simp
      omega
  · rw [if_neg hw3]
    have P := words_parts w
    have hm := P.many
    have hwd := h.wd
    have h3 : (Str.ofString " ").length = 1 := by rw [← tl_len, ey_blank]; rfl
    have hwt := wt_join P.ne
    rw [← P.eq, tl_len] at hwt
    walk_at "wz"
    have es : Txt.split w (Str.ofString " ") = wordsS w := rfl
    rw [es]
    refine ⟨⟨by omega, by omega⟩, ?_⟩
    have hasc : ∀ p ∈ wordsS w, Asc p := fun p hp => P.asc h.asc hp
    have hne := List.length_pos_iff.mpr P.ne
    generalize wordsS w = ps at hm hwd hwt hasc hne
    have hlen : ((ps.map D.str).length : Int) = (ps.length : Int) := by rw [List.length_map]
    walk_at "wz"
    refine _law_take_spec hx3 (by omega) (by omega) fun q x4 q0 q1 hx4 => ?_
    obtain ⟨q, rfl⟩ := Int.eq_ofNat_of_zero_le q0
    have hq : q < ps.length := by omega
    walk_at "wz"
    have fin : ∀ (ys : List Str) (v7 : Sl) (x : Int), (∀ p ∈ ys, p.length ≤ W ∧ Asc p) → wt ys ≤ L + W + 9 → StOk x b → seqK (wRet (wM1 gJoin (wC (.str (Str.ofString " "))) (wPV 5))) (kBody k) (.nx [.val (.st a), .val (.str w), .val (.int way), .val (.int (t : Nat)), .val (.str ⟨#[ch]⟩), .own (ys.map D.str), .val (.int (q : Nat)), v7] (some ⟨x, b, a⟩)) := by
      intro ys v7 x hy hw hx
      walk_at "wz"
      have hsum : ∀ ys : List Str, (ys.map (·.length)).sum + ys.length * 1 ≤ wt ys := fun ys => by
        induction ys with
        | nil => simp [wt]
        | cons y ys ih =>
          rw [wt_cons, List.map_cons, List.sum_cons, List.length_cons]
          omega
      have := hsum ys
      refine ⟨ys, rfl, by rw [h3]; omega, ?_⟩
      exact hk _ _ ((join_txb (L := L + W + 8) (W := 2 * W + 1) (fun p hp => ⟨by have := (hy p hp).1; omega, (hy p hp).2⟩) (by omega))) hx
    have hall : ∀ p ∈ ps, p.length ≤ W ∧ Asc p := fun p hp => ⟨hwd p hp, hasc p hp⟩
    have insd : ∀ (ys : List Str) (i : Nat) (y : Str), List.take i (ys.map D.str) ++ [D.str y] ++ List.drop i (ys.map D.str) = (ys.take i ++ [y] ++ ys.drop i).map D.str := fun ys i y => by
      rw [List.map_append, List.map_append, List.map_take, List.map_drop]
      rfl
    have inswt : ∀ (ys : List Str) (i : Nat) (y : Str), wt (ys.take i ++ [y] ++ ys.drop i) = wt ys + (y.length + 1) := fun ys i y => by
      rw [wt_app, wt_app, wt_one]
      have := wt_take ys i
      omega
    have insall : ∀ (ys : List Str) (i : Nat) (y : Str), (∀ p ∈ ys, p.length ≤ W ∧ Asc p) → (y.length ≤ W ∧ Asc y) → ∀ p ∈ ys.take i ++ [y] ++ ys.drop i, p.length ≤ W ∧ Asc p := fun ys i y h1 h2 p hp => by
      rcases List.mem_append.mp hp with hp | hp
      · rcases List.mem_append.mp hp with hp | hp
        · exact h1 p (List.mem_of_mem_take hp)
        · rw [List.mem_singleton.mp hp]; exact h2
      · exact h1 p (List.mem_of_mem_drop hp)
    by_cases c3 : way = 3
    · rw [if_pos c3]
      refine ⟨⟨by omega, by omega, by omega⟩, ?_⟩
      have e : (ps.map D.str).eraseIdx (q : Int).toNat = (ps.eraseIdx q).map D.str := by
        rw [Int.toNat_natCast, List.eraseIdx_eq_take_drop_succ, List.eraseIdx_eq_take_drop_succ, List.map_append, List.map_take, List.map_drop]
      rw [e]
      refine fin _ _ _ (fun p hp => hall p (List.mem_of_mem_eraseIdx hp)) ?_ hx4
      rw [List.eraseIdx_eq_take_drop_succ, wt_app]
      have h1 := wt_take ps q
      have h2 := wt_drop ps q
      omega
    rw [if_neg c3]
    by_cases c4 : way = 4
    · rw [if_pos c4]
      refine _law_take_spec hx4 (by omega) (by omega) fun z x5 z0 z1 hx5 => ?_
      obtain ⟨z, rfl⟩ := Int.eq_ofNat_of_zero_le z0
      walk_at "wz"
      refine ⟨.str ps[q], by rw [atI_nat' (by rw [List.length_map]; exact hq), List.getElem?_map, List.getElem?_eq_getElem hq]; rfl, by rw [List.length_map]; omega, ⟨by omega, by omega⟩, ?_⟩
      rw [insd]
      have hy := hall _ (List.getElem_mem hq)
      refine fin _ _ _ (insall ps _ _ hall hy) ?_ hx5
      rw [inswt]
      omega
    rw [if_neg c4]
    by_cases c5 : way = 5
    · rw [if_pos c5]
      walk_at "wz"
      refine ⟨by decide, ?_⟩
      walk_at "wz"
      refine _law_take_spec hx4 (by decide) (by decide) fun z x5 z0 z1 hx5 => ?_
      obtain ⟨z, rfl⟩ := Int.eq_ofNat_of_zero_le z0
      walk_at "wz"
      obtain ⟨y, y1, y2, y3⟩ := odd_at z (by omega)
      refine ⟨_, y1, ?_⟩
      walk_at "wz"
      refine ⟨q, by unfold ixN; rw [List.length_map, if_pos (by omega), if_pos (by omega)]; simp, ?_⟩
      have es : (ps.map D.str).set q (.str y) = (ps.set q y).map D.str := by rw [List.map_set]
      rw [es]
      have eset : ps.set q y = ps.take q ++ [y] ++ ps.drop (q + 1) := by
        rw [List.set_eq_take_append_cons_drop, if_pos hq]
        simp
      refine fin _ _ _ (fun p hp => ?_) ?_ hx5
      · rcases List.mem_or_eq_of_mem_set hp with hp | rfl
        · exact hall p hp
        · exact ⟨by omega, y3⟩
      · rw [eset, wt_app, wt_app, wt_one]
        have h1 := wt_take ps q
        have h2 := wt_drop ps q
        omega
    rw [if_neg c5]
    by_cases c6 : way = 6
    · rw [if_pos c6]
      obtain ⟨ys, y, rfl⟩ : ∃ ys y, ps = ys ++ [y] := by
        rcases List.eq_nil_or_concat ps with rfl | ⟨ys, y, rfl⟩
        · simp at hne
        · exact ⟨ys, y, by rw [List.concat_eq_append]⟩
      refine ⟨.str y, by simp, ?_⟩
      have e : (List.map D.str (ys ++ [y])).dropLast = ys.map D.str := by simp
      rw [e]
      rw [List.length_append] at hm
      rw [List.length_map, List.length_append] at q1
      refine ⟨by rw [List.length_map]; omega, ⟨by omega, by simp at q1; omega⟩, ?_⟩
      rw [insd]
      have hy := hall y (by simp)
      refine fin _ _ _ (insall ys _ y (fun p hp => hall p (List.mem_append_left _ hp)) hy) ?_ hx4
      rw [inswt]
      rw [wt_app, wt_one] at hwt
      omega
    rw [if_neg c6]
    exact fin ps _ _ hall (by omega) hx4
theorem frs_nice {l : List Rat} (h : l.length < 1000000) : Nice 11 (.lst (l.map fr)) := Nice.mono (n := 2) ⟨by have := size_big; simp; omega, fun d hd => by obtain ⟨q, _, rfl⟩ := List.mem_map.mp hd; exact nice_fr q⟩ (by decide)
structure PairOk (T : Str) (s : S) (r o : Fn) (d : D) : Prop where
  nice : Nice 11 d
  own : ∀ (k : Sl → S → Prop) (xq : Str → S → Prop), (∀ sl : Sl, sl ≠ .no → sl.d = d → k sl s) → o [.str T] s k xq
  bad : d = .non → ∀ (k : Sl → S → Prop) (xq : Str → S → Prop), xq "NoText" s → r [.str T] s k xq
  good : d ≠ .non → ∀ (k : Sl → S → Prop) (xq : Str → S → Prop), (∀ sl : Sl, sl ≠ .no → sl.d = d → k sl s) → r [.str T] s k xq
theorem pair_sums {T : Str} {s : S} (ht : TextOk T) (hw : (wordsS T).length < 1000) : ∃ d, PairOk T s F_read_sums F__law_sums_in d := by
  cases h : sI T with
  | none => exact ⟨.non, trivial, fun k xq hk => _law_sums_in_spec ht (fun l hl => by rw [h] at hl; cases hl) (fun _ => hk (.val .non) (by simp) rfl), fun _ k xq hx => read_sums_gen ht (fun l hl => by rw [h] at hl; cases hl) (fun _ => hx), fun z => absurd rfl z⟩
  | some l =>
    have hl := sI_len h
    refine ⟨.lst (l.map fr), frs_nice (by omega), fun k xq hk => _law_sums_in_spec ht (fun l' hl => ?_) (fun z => by rw [h] at z; cases z), fun z => (by cases z), fun _ k xq hk => read_sums_gen ht (fun l' hl => ?_) (fun z => by rw [h] at z; cases z)⟩
    · rw [h] at hl
      injection hl with hl
      subst hl
      exact hk (.val (.lst (l.map fr))) (by simp) rfl
    · rw [h] at hl
      injection hl with hl
      subst hl
      exact hk (.own (l.map fr)) (by simp) rfl
theorem pI_len {T : Str} {l : List Rat} (h : pI T = some l) : l.length ≤ (wordsS T).length := by
  unfold pI at h
  split at h
  · injection h with h
    rw [← h]
    exact Nat.zero_le _
  · cases hs : sI T with
    | none => simp only [hs] at h; cases h
    | some m =>
      simp only [hs] at h
      split at h
      · injection h with h
        rw [← h, sI_len hs]
        exact Nat.le_refl _
      · cases h
theorem pair_poly {T : Str} {s : S} (ht : TextOk T) (hw : (wordsS T).length < 1000) : ∃ d, PairOk T s F_read_polynomial F__law_polynomial_in d := by
  cases h : pI T with
  | none => exact ⟨.non, trivial, fun k xq hk => _law_polynomial_in_spec ht (fun l hl => by rw [h] at hl; cases hl) (fun _ => hk (.val .non) (by simp) rfl), fun _ k xq hx => read_polynomial_gen ht (fun l hl => by rw [h] at hl; cases hl) (fun _ => hx), fun z => absurd rfl z⟩
  | some l =>
    have hl := pI_len h
    refine ⟨.lst (l.map fr), frs_nice (by omega), fun k xq hk => _law_polynomial_in_spec ht (fun l' hl => ?_) (fun z => by rw [h] at z; cases z), fun z => (by cases z), fun _ k xq hk => read_polynomial_gen ht (fun l' hl => ?_) (fun z => by rw [h] at z; cases z)⟩
    · rw [h] at hl
      injection hl with hl
      subst hl
      exact ⟨hk (.val (.lst (l.map fr))) (by simp) rfl, hk (.own (l.map fr)) (by simp) rfl⟩
    · rw [h] at hl
      injection hl with hl
      subst hl
      exact hk (.own (l.map fr)) (by simp) rfl
theorem kI_len {T : Str} {c : List (Rat × Rat)} (h : kI T = some c) : c.length ≤ (wordsS T).length := by
  unfold kI at h
  split at h
  · injection h with h
    rw [← h]
    exact Nat.zero_le _
  · split at h
    · cases h
    · split at h
      · injection h with h
        rw [← h, List.length_map]
        exact Nat.le_refl _
      · cases h
theorem pair_crowd {T : Str} {s : S} (ht : TextOk T) (hw : (wordsS T).length < 1000) : ∃ d, PairOk T s F_read_crowd F__law_crowd_in d := by
  cases h : kI T with
  | none => exact ⟨.non, trivial, fun k xq hk => _law_crowd_in_spec ht (fun l hl => by rw [h] at hl; cases hl) (fun _ => hk (.val .non) (by simp) rfl), fun _ k xq hx => read_crowd_gen ht hw (fun l hl => by rw [h] at hl; cases hl) (fun _ => hx), fun z => absurd rfl z⟩
  | some c =>
    have hl := kI_len h
    refine ⟨.lst (c.map crD), (nice_crs (by omega)).mono (by decide), fun k xq hk => _law_crowd_in_spec ht (fun l' hl => ?_) (fun z => by rw [h] at z; cases z), fun z => (by cases z), fun _ k xq hk => read_crowd_gen ht hw (fun l' hl => ?_) (fun z => by rw [h] at z; cases z)⟩
    · rw [h] at hl
      injection hl with hl
      subst hl
      exact hk (.own (c.map crD)) (by simp) rfl
    · rw [h] at hl
      injection hl with hl
      subst hl
      exact hk (.own (c.map crD)) (by simp) rfl
theorem pair_frac {T : Str} {s : S} (ht : TextOk T) : ∃ d, PairOk T s F_read_fraction F__law_fraction_in d := by
  cases h : fI T with
  | none => exact ⟨.non, trivial, fun k xq hk => _law_fraction_in_spec ht.asc ht.len ht.iw (by rw [h]; exact hk (.val .non) (by simp) rfl), fun _ k xq hx => read_fraction_gen ht.asc ht.len ht.iw (fun l hl => by rw [h] at hl; cases hl) (fun _ => hx), fun z => absurd rfl z⟩
  | some q =>
    refine ⟨fr q, (nice_fr q).mono (by decide), fun k xq hk => _law_fraction_in_spec ht.asc ht.len ht.iw (by rw [h]; exact hk (.val (fr q)) (by simp) rfl), fun z => (by cases z), fun _ k xq hk => read_fraction_gen ht.asc ht.len ht.iw (fun l' hl => ?_) (fun z => by rw [h] at z; cases z)⟩
    rw [h] at hl
    injection hl with hl
    subst hl
    exact hk (.val (fr q)) (by simp) rfl
theorem _law_right_spec {T : Str} {s : S} {k} {xq : Str → S → Prop} (ht : TextOk T) (hw : (wordsS T).length < 1000) (hk : k (.val (.bl true)) s) : F__law_right [.str T] s k xq := by
  have sb := size_big
  obtain ⟨d0, P0⟩ := pair_sums (s := s) ht hw
  obtain ⟨d1, P1⟩ := pair_poly (s := s) ht hw
  obtain ⟨d2, P2⟩ := pair_crowd (s := s) ht hw
  obtain ⟨d3, P3⟩ := pair_frac (s := s) ht
  refine ⟨rfl, fun LI => ?_⟩
  unfold BF__law_right
  walk_at "wz"
  intro r0 R0 o0 O0
  refine ⟨by decide, ?_⟩
  intro r1 R1 o1 O1
  refine ⟨by decide, ?_⟩
  intro r2 R2 o2 O2
  refine ⟨by decide, by decide, ?_⟩
  walk_at "wz"
  intro r3 R3 o3 O3
  refine ⟨by decide, by decide, by decide, ?_⟩
  have hall : ∀ p ∈ ([(0, r0, o0), (2, r1, o1), (4, r2, o2), (6, r3, o3)] : List (Nat × Addr × Addr)), (∀ f o u, LI p.1 p.2.1 f o u) ∧ (∀ f o u, LI (p.1 + 1) p.2.2 f o u) ∧ ∃ d, PairOk T s (fun__law_right p.1) (fun__law_right (p.1 + 1)) d := fun p hp => by
    simp only [List.mem_cons, List.not_mem_nil, or_false] at hp
    rcases hp with rfl | rfl | rfl | rfl
    · exact ⟨R0, O0, d0, P0⟩
    · exact ⟨R1, O1, d1, P1⟩
    · exact ⟨R2, O2, d2, P2⟩
    · exact ⟨R3, O3, d3, P3⟩
  have okn : EqOk (.lst [D.int 7]) := eqOk_one 7
  refine forW_inv (l := [(0, r0, o0), (2, r1, o1), (4, r2, o2), (6, r3, o3)]) (f := fun p : Nat × Addr × Addr => .tup [.st p.2.1, .st p.2.2]) (fun _ env s' => ∃ v2 v3 v4, env = [.val (.str T), .own [.tup [.st r0, .st o0], .tup [.st r1, .st o1], .tup [.st r2, .st o2]], v2, v3, v4] ∧ s' = s) ?_ ⟨_, _, _, rfl, rfl⟩ ?_
  · rintro i hi env s' ⟨v2, v3, v4, rfl, rfl⟩ KN hk'
    obtain ⟨hR, hO, d, P⟩ := hall _ (List.getElem_mem hi)
    generalize ([(0, r0, o0), (2, r1, o1), (4, r2, o2), (6, r3, o3)] : List (Nat × Addr × Addr))[i] = p at hR hO P
    obtain ⟨n, r, o⟩ := p
    simp only at hR hO P ⊢
    walk_at "wz"
    refine ⟨n + 1, o, rfl, hO, ?_⟩
    walk_at "wz"
    refine P.own _ _ fun sl hsl hd => ?_
    walk_at "wz"
    refine ⟨hsl, hsl, ?_⟩
    cases sl with
    | no => exact absurd rfl hsl
    | val e =>
      have hd : e = d := hd
      subst hd
      show if e.isNon = true then _ else _
      by_cases hn : e = .non
      · rw [if_pos (by rw [hn]; rfl)]
        refine ⟨n, r, rfl, hR, ?_⟩
        refine P.bad hn _ _ ⟨7, rfl, by decide, ⟨eqOk_one 7, eqOk_one 7⟩, ?_⟩
        rw [eqv_one, if_neg (by decide)]
        exact hk' _ _ ⟨_, _, _, rfl, rfl⟩
      · rw [if_neg (by
          intro z
          cases e <;> first | exact hn rfl | cases z)]
        refine ⟨n, r, rfl, hR, ?_⟩
        refine P.good hn _ _ fun sl2 hsl2 hd2 => ?_
        walk_at "wz"
        have fin : F__law_same [e, e] s' (scalK (bK (notK (ifsK (wRet (wC (D.bl false))) wNext fun fl => match fl with
            | .nx e s2 => KN e s2
            | .ct e s2 => KN e s2
            | .bk e s2 => seqK (wRet (wC (D.bl true))) (kBody k) (.nx e s2)
            | .rt r s2 => seqK (wRet (wC (D.bl true))) (kBody k) (.rt r s2)))) [.val (.str T), .own [.tup [.st r0, .st o0], .tup [.st r1, .st o1], .tup [.st r2, .st o2]], .val (.st o), .val e, .val (.st r)]) xq := by
          refine _law_same_spec P.nice ?_
          walk_at "wz"
          exact hk' _ _ ⟨_, _, _, rfl, rfl⟩
        cases sl2 with
        | no => exact absurd rfl hsl2
        | val e2 =>
          have hd2 : e2 = e := hd2
          subst hd2
          exact fin
        | own es2 =>
          have hd2 : D.lst es2 = e := hd2
          subst hd2
          exact fin
    | own es =>
      have hd : D.lst es = d := hd
      subst hd
      show if (D.lst es).isNon = true then _ else _
      rw [if_neg (by intro z; cases z)]
      refine ⟨n, r, rfl, hR, ?_⟩
      refine P.good (by intro z; cases z) _ _ fun sl2 hsl2 hd2 => ?_
      walk_at "wz"
      have fin : F__law_same [.lst es, .lst es] s' (scalK (bK (notK (ifsK (wRet (wC (D.bl false))) wNext fun fl => match fl with
          | .nx e s2 => KN e s2
          | .ct e s2 => KN e s2
          | .bk e s2 => seqK (wRet (wC (D.bl true))) (kBody k) (.nx e s2)
          | .rt r s2 => seqK (wRet (wC (D.bl true))) (kBody k) (.rt r s2)))) [.val (.str T), .own [.tup [.st r0, .st o0], .tup [.st r1, .st o1], .tup [.st r2, .st o2]], .val (.st o), .own es, .val (.st r)]) xq := by
        refine _law_same_spec P.nice ?_
        walk_at "wz"
        exact hk' _ _ ⟨_, _, _, rfl, rfl⟩
      cases sl2 with
      | no => exact absurd rfl hsl2
      | val e2 =>
        have hd2 : e2 = .lst es := hd2
        subst hd2
        exact fin
      | own es2 =>
        have hd2 : D.lst es2 = .lst es := hd2
        injection hd2 with hd2
        subst hd2
        exact fin
  · rintro env s' ⟨v2, v3, v4, rfl, rfl⟩
    walk_at "wz"
    exact hk
theorem need_text_no {d : D} {s : S} {k} {xq : Str → S → Prop} (h : isTy d "str" = false) (hn : notScr d) (hx : xq "NoText" s) : F_need_text [d] s k xq := by
  refine ⟨rfl, ?_⟩
  unfold BF_need_text
  walk_at "wz"
  refine ⟨hn, ?_⟩
  rw [h, if_pos (by simp)]
  exact hx
theorem fun_no (n : Nat) (hn : n < 4) {d : D} {s : S} {k} {xq : Str → S → Prop} (h : isTy d "str" = false) (hs : notScr d) (hx : xq "NoText" s) : fun_law n [d] s k xq := by
  match n, hn with
  | 0, _ =>
    refine ⟨rfl, ?_⟩
    unfold BF_read_sums
    walk_at "wz"
    exact need_text_no h hs hx
  | 1, _ =>
    refine ⟨rfl, ?_⟩
    unfold BF_read_polynomial
    walk_at "wz"
    exact need_text_no h hs hx
  | 2, _ =>
    refine ⟨rfl, ?_⟩
    unfold BF_read_crowd
    walk_at "wz"
    exact need_text_no h hs hx
  | 3, _ =>
    refine ⟨rfl, ?_⟩
    unfold BF_read_fraction
    walk_at "wz"
    exact need_text_no h hs hx
theorem numL_len : ∀ (k n : Nat), n < 10 ^ (k + 1) → (TL.numL n).length ≤ k + 1
  | 0, n, h => by
    rw [TL.numL_lt (by simpa using h)]
    simp
  | k + 1, n, h => by
    by_cases h10 : n < 10
    · rw [TL.numL_lt h10]
      simp
    · have ih := numL_len k (n / 10) (by
        rw [Nat.div_lt_iff_lt_mul (by decide)]
        rwa [Nat.pow_succ] at h)
      rw [TL.numL_step (by omega), List.length_append]
      simp
      omega
theorem iT_len {z : Int} {k : Nat} (h : z.natAbs < 10 ^ (k + 1)) : (iT z).length ≤ k + 2 := by
  rw [← tl_len]
  cases z with
  | ofNat n =>
    have e : TL.tl (iT (Int.ofNat n)) = TL.numL n := tl_nat n
    rw [e]
    have := numL_len k n h
    omega
  | negSucc m =>
    rw [tl_negT]
    have := numL_len k (m + 1) h
    simp
    omega
theorem frT_len {q : Rat} {n k : Nat} (h : Sz n q) (hp : 2 ^ n ≤ 10 ^ (k + 1)) : (frT q).length ≤ 2 * k + 4 := by
  have h1 := iT_len (z := q.num) (k := k) (Nat.lt_of_lt_of_le h.1 hp)
  have h2 := numL_len k q.den (Nat.lt_of_lt_of_le h.2 hp)
  have h3 : (iT (q.den : Nat)).length ≤ k + 1 := by rw [← tl_len, tl_nat]; exact h2
  have e3 : (Str.ofString "/").length = 1 := by rw [← tl_len, ey_slash]; rfl
  unfold frT
  split
  · omega
  · show (iT q.num ++ Str.ofString "/" ++ iT (q.den : Nat)).length ≤ _
    rw [slen, slen]
    omega
theorem iT_asc (z : Int) : Asc (iT z) := fun c hc => Nat.lt_trans (iT_lt z c hc) (by decide)
theorem asc_app {x y : Str} (h : Asc x) (h' : Asc y) : Asc (x ++ y) := fun c hc => by
  rw [TL.tl_append] at hc
  exact (List.mem_append.mp hc).elim (h c) (h' c)
theorem frT_asc (q : Rat) : Asc (frT q) := by
  unfold frT
  split
  · exact iT_asc _
  · exact asc_app (asc_app (iT_asc _) (asc_of "/" (by decide +kernel))) (iT_asc _)
def bL : Nat → Nat
  | 0 => 531
  | 1 => 597
  | 2 => 722
  | 3 => 965
  | _ => 1444
def bW : Nat → Nat
  | 0 => 58
  | 1 => 117
  | 2 => 235
  | 3 => 471
  | _ => 943
theorem bd_step : ∀ j, j < 4 → bL j + bW j + 8 ≤ bL (j + 1) ∧ 2 * bW j + 1 ≤ bW (j + 1) ∧ bL j ≤ 965 ∧ bW j ≤ 471 ∧ 6 ≤ bW j := by decide
theorem TxB.mono {L W L' W' : Nat} {w : Str} (h : TxB L W w) (hL : L ≤ L') (hW : W ≤ W') : TxB L' W' w := ⟨h.asc, Nat.le_trans h.len hL, h.iw.mono hW⟩
theorem odd_no : ∀ i : Nat, i < 7 → ∃ y : D, atI [D.non, D.int 7, D.tup [D.str (Str.ofString "1")], D.lst [D.str (Str.ofString "1")], D.bl true, D.dic, D.tup [D.int 1, D.int 1]] (i : Int) = some y ∧ isTy y "str" = false ∧ notScr y
  | 0, _ => ⟨_, rfl, by decide, trivial⟩
  | 1, _ => ⟨_, rfl, by decide, trivial⟩
  | 2, _ => ⟨_, rfl, by decide, trivial⟩
  | 3, _ => ⟨_, rfl, by decide, trivial⟩
  | 4, _ => ⟨_, rfl, by decide, trivial⟩
  | 5, _ => ⟨_, rfl, by decide, trivial⟩
  | 6, _ => ⟨_, rfl, by decide, trivial⟩
  | n + 7, h => absurd h (by omega)
theorem wt_map {α : Type} (f : α → Str) (m : Nat) : ∀ l : List α, (∀ a ∈ l, (f a).length ≤ m) → wt (l.map f) ≤ l.length * (m + 1)
  | [], _ => Nat.zero_le _
  | a :: l, h => by
    have ih := wt_map f m l fun b hb => h b (List.mem_cons_of_mem _ hb)
    have := h a List.mem_cons_self
    rw [List.map_cons, wt_cons, List.length_cons, Nat.add_mul]
    omega
theorem wt_sum (l : List Str) : (l.map (·.length)).sum + l.length * 1 = wt l := by
  induction l with
  | nil => rfl
  | cons y ys ih =>
    rw [wt_cons, List.map_cons, List.sum_cons, List.length_cons]
    omega
theorem row_txb {α : Type} (f : α → Str) (m c : Nat) {l : List α} (h : ∀ a ∈ l, (f a).length ≤ m ∧ Asc (f a)) (hc : l.length ≤ c) (hm : m ≤ 58) (hb : c * (m + 1) ≤ 531) : TxB 531 58 (Txt.join (Str.ofString " ") (l.map f)) := by
  have h1 := wt_map f m l fun a ha => (h a ha).1
  have := Nat.mul_le_mul_right (m + 1) hc
  refine join_txb (fun p hp => ?_) (by omega)
  obtain ⟨a, ha, rfl⟩ := List.mem_map.mp hp
  exact ⟨Nat.le_trans (h a ha).1 hm, (h a ha).2⟩
theorem law_true (ns : List Int) (hl : ns.length ≤ 63) (hb : ∀ z ∈ ns, PySem.Builtin.Int.intBits z ≤ 1048576) : Mi.F_law [.scr ns] none (fun r _ => r.d = .bl true) (fun _ _ => False) := by
  refine ⟨rfl, fun LI => ?_⟩
  unfold BF_law
  walk_at "wz"
  generalize hn : (if (if (8 : Int) < ns.length then (8 : Int) else ns.length) > 1 then (if (8 : Int) < ns.length then (8 : Int) else ns.length) else 1) = n
  have h1 : 1 ≤ n ∧ n ≤ 8 := by split at hn <;> split at hn <;> omega
  refine ⟨⟨by omega, by omega⟩, ?_⟩
  have sb := size_big
  refine forW_rng (fun i env s => ∃ v1 v2 v3 v4 v5 v6 v7, env = [.val (.scr ns), v1, v2, v3, v4, v5, v6, v7, .no, .no, .no, .no] ∧ s = none) ?_ ⟨_, _, _, _, _, _, _, rfl, rfl⟩ ?_
  · rintro i hi env s ⟨v1, v2, v3, v4, v5, v6, v7, rfl, rfl⟩ KN hk
    walk_at "wz"
    refine _law_state_spec hb fun x b hx => ?_
    walk_at "wz"
    intro a
    refine _law_crowd_spec (m := 5) hx (by decide) fun c x1 hc hx1 => ⟨x1, b, rfl, ?_⟩
    walk_at "wz"
    intro a2
    refine _law_sums_spec hx1 fun S x2 hS hx2 => ⟨x2, b, rfl, ?_⟩
    walk_at "wz"
    have ec : cutD (S.map fr) none (some 9) = (S.take 9).map fr := by
      unfold cutD
      rw [show (9 : Int) = ((9 : Nat) : Int) from rfl, HT.sIx_nat]
      simp [HT.sIx]
    rw [ec]
    have hS2 := hS.2.1
    have hSz : ∀ q ∈ S.take 9, Sz 91 q := fun q hq => (hS.2.2 q (List.mem_of_mem_take hq)).sz (by decide) (by decide) (by decide)
    have hcz : ∀ p ∈ c, Sz 9 p.1 ∧ Sz 6 p.2 := fun p hp => by
      obtain ⟨s1, s2, s3⟩ := hc.2.1 p hp
      exact ⟨s1.sz (by decide) (by decide), s2.sz (by decide) (by decide)⟩
    have hcl := hc.1
    have hSl : (S.take 9).length ≤ 9 := by rw [List.length_take]; omega
    generalize S.take 9 = S9 at hSz hSl ⊢
    have p91 : 2 ^ 91 ≤ 10 ^ (27 + 1) := by decide
    have p9 : 2 ^ 9 ≤ 10 ^ (2 + 1) := by decide
    have p6 : 2 ^ 6 ≤ 10 ^ (1 + 1) := by decide
    have fS : ∀ q ∈ S9, (frT q).length ≤ 58 ∧ Asc (frT q) := fun q hq => ⟨frT_len (hSz q hq) p91, frT_asc q⟩
    have eb : (Str.ofString " ").length = 1 := by rw [← tl_len, ey_blank]; rfl
    refine ⟨by rw [List.length_map]; omega, ?_⟩
    refine compW_map (g := fun q => .str (frT q)) S9 [] (fun q hq K hK => ?_) ?_
    · walk_at "wz"
      refine _law_word_spec (hSz q hq) (by decide) (by have := (fS q hq).1; omega) ?_
      walk_at "wz"
      exact hK
    walk_at "wz"
    refine ⟨S9.map frT, by simp, by rw [eb]; have := wt_map frT 58 S9 fun q hq => (fS q hq).1; have := wt_sum (S9.map frT); omega, ?_⟩
    walk_at "wz"
    have T1 : TxB 531 58 (Txt.join (Str.ofString " ") (S9.map frT)) := row_txb frT 58 9 fS hSl (by decide) (by decide)
    generalize Txt.join (Str.ofString " ") (S9.map frT) = t1 at T1 ⊢
    intro a3
    refine _law_small_spec hx2 fun q x3 hq hx3 => ⟨x3, b, rfl, ?_⟩
    walk_at "wz"
    have hq6 : Sz 6 q := hq.sz (by decide) (by decide)
    have hq7 := frT_len hq6 p6
    refine _law_word_spec hq6 (by decide) (by omega) ?_
    have T2 : TxB 531 58 (frT q) := ⟨frT_asc q, by omega, IW.len (by rw [tl_len]; omega)⟩
    generalize frT q = t2 at T2 ⊢
    walk_at "wz"
    refine ⟨by show 2 ≤ sizeLine; decide, ?_⟩
    walk_at "wz"
    intro a4
    refine _law_polynomial_spec (m := 6) hx3 (by decide) fun f x4 f1 f2 f3 hx4 => ⟨x4, b, rfl, ?_⟩
    walk_at "wz"
    have hfz : ∀ q ∈ f, Sz 6 q := fun q hq => (f3 q hq).sz (by decide) (by decide)
    have fF : ∀ q ∈ f, (frT q).length ≤ 6 ∧ Asc (frT q) := fun q hq => ⟨frT_len (hfz q hq) p6, frT_asc q⟩
    refine ⟨by rw [List.length_map]; omega, ?_⟩
    refine compW_map (g := fun q => .str (frT q)) f [] (fun q hq K hK => ?_) ?_
    · walk_at "wz"
      refine _law_word_spec (hfz q hq) (by decide) (by have := (fF q hq).1; omega) ?_
      walk_at "wz"
      exact hK
    walk_at "wz"
    refine ⟨f.map frT, by simp, by rw [eb]; have := wt_map frT 6 f fun q hq => (fF q hq).1; have := wt_sum (f.map frT); omega, ?_⟩
    walk_at "wz"
    have T3 : TxB 531 58 (Txt.join (Str.ofString " ") (f.map frT)) := row_txb frT 6 6 fF f1 (by decide) (by decide)
    generalize Txt.join (Str.ofString " ") (f.map frT) = t3 at T3 ⊢
    have T0 : TxB 531 58 (Str.ofString "nought") := ⟨asc_of _ (by decide +kernel), by decide +kernel, IW.len (by rw [tl_len]; decide +kernel)⟩
    refine ⟨by have := T3.len; omega, ?_⟩
    generalize hG : seqK _ _ = KG
    have fin : ∀ y, TxB 531 58 y → KG (.nx [.val (.scr ns), .val (.int (i : Nat)), .own [.int x4, .bl b], .own (c.map crD), .own [.str t1, .str t2, .str y], v5, v6, v7, .no, .no, .no, .no] none) := by
      intro t3 T3
      subst hG
      walk_at "wz"
      refine ⟨by rw [List.length_map]; omega, ?_⟩
      have fC : ∀ p ∈ c, (frT p.1 ++ Str.ofString ":" ++ frT p.2).length ≤ 15 ∧ Asc (frT p.1 ++ Str.ofString ":" ++ frT p.2) := fun p hp => by
        have g1 := frT_len (hcz p hp).1 p9
        have g2 := frT_len (hcz p hp).2 p6
        have g3 : (Str.ofString ":").length = 1 := by rw [← tl_len, ey_colon]; rfl
        refine ⟨by rw [slen, slen]; omega, asc_app (asc_app (frT_asc _) (asc_of ":" (by decide +kernel))) (frT_asc _)⟩
      refine compW_map (f := crD) (g := fun p => .str (frT p.1 ++ Str.ofString ":" ++ frT p.2)) c [] (fun p hp K hK => ?_) ?_
      · have l0 := (fC p hp).1
        rw [slen, slen] at l0
        unfold crD
        walk_at "wz"
        refine _law_word_spec (hcz p hp).1 (by decide) (by omega) ?_
        walk_at "wz"
        refine ⟨by first | omega | (rw [slen]; omega), ?_⟩
        refine _law_word_spec (hcz p hp).2 (by decide) (by omega) ?_
        walk_at "wz"
        refine ⟨by first | omega | (rw [slen]; omega) | (rw [slen, slen]; omega), ?_⟩
        exact hK
      walk_at "wz"
      refine ⟨c.map fun p => frT p.1 ++ Str.ofString ":" ++ frT p.2, by simp, by rw [eb]; have := wt_map _ 15 c fun p hp => (fC p hp).1; have := wt_sum (c.map fun p => frT p.1 ++ Str.ofString ":" ++ frT p.2); omega, ?_⟩
      walk_at "wz"
      have T4 : TxB 531 58 (Txt.join (Str.ofString " ") (c.map fun p => frT p.1 ++ Str.ofString ":" ++ frT p.2)) := row_txb _ 15 5 fC hcl (by decide) (by decide)
      generalize Txt.join (Str.ofString " ") (c.map fun p => frT p.1 ++ Str.ofString ":" ++ frT p.2) = t4 at T4 ⊢
      have T0 : TxB 531 58 (Str.ofString "none") := ⟨asc_of _ (by decide +kernel), by decide +kernel, IW.len (by rw [tl_len]; decide +kernel)⟩
      refine ⟨by have := T4.len; omega, ?_⟩
      generalize hG : seqK _ _ = KG
      have fin : ∀ y, TxB 531 58 y → KG (.nx [.val (.scr ns), .val (.int (i : Nat)), .own [.int x4, .bl b], .own (c.map crD), .own [.str t1, .str t2, .str t3, .str y], v5, v6, v7, .no, .no, .no, .no] none) := by
        intro t4 T4
        subst hG
        walk_at "wz"
        refine ⟨⟨by decide, by decide⟩, ?_⟩
        refine forW_rng (n := 4) (fun j env s => ∃ x ts v5, env = [.val (.scr ns), .val (.int (i : Nat)), .own [.int x, .bl b], .own (c.map crD), .own (ts.map D.str), v5, v6, v7, .no, .no, .no, .no] ∧ s = none ∧ StOk x b ∧ ts.length = 4 ∧ ∀ t ∈ ts, TxB (bL j) (bW j) t) ?_ ⟨_, [t1, t2, t3, t4], _, rfl, rfl, hx4, rfl, ?_⟩ ?_
        · rintro j hj env s ⟨x, ts, v5, rfl, rfl, hx, ht4, hts⟩ KN2 hk2
          obtain ⟨b1, b2, b3, b4, b5⟩ := bd_step j hj
          walk_at "wz"
          refine ⟨by rw [List.length_map]; omega, ?_⟩
          refine compW_filter (f := D.str) (g := D.str) (p := fun _ => false) ts [] (fun t ht K1 K2 h1 h2 => ?_) ?_
          · walk_at "wz"
            have T := hts t ht
            have hm := (words_parts t).many
            have hl' := T.len
            refine _law_right_spec (T.ok (by omega) (by omega)) (by omega) ?_
            walk_at "wz"
            exact h2 rfl
          walk_at "wz"
          have ef : ts.filter (fun _ => false) = [] := by simp
          refine ⟨Nat.zero_le _, ?_⟩
          rw [ef, if_neg (by decide)]
          walk_at "wz"
          refine ⟨by rw [List.length_map]; omega, ?_⟩
          refine compW_invE (f := D.str) (fun acc env s => ∃ l x, acc = l.map D.str ∧ env = [.val (.scr ns), .val (.int (i : Nat)), .own [.int x, .bl b], .own (c.map crD), .no, .val (.int (j : Nat)), v6, v7, .no, .no, .no, .no] ∧ s = none ∧ StOk x b ∧ ∀ t ∈ l, TxB (bL (j + 1)) (bW (j + 1)) t) _ _ _ _ ?_ ⟨[], x, rfl, rfl, rfl, hx, by simp⟩ ?_
          · rintro t ht acc env s ⟨l, x, rfl, rfl, rfl, hx, hl⟩ K hK
            walk_at "wz"
            intro a5
            refine _law_bent_spec hx (hts t ht) (by omega) (by omega) b5 fun r x' hr hx' => ⟨x', b, rfl, ?_⟩
            walk_at "wz"
            exact hK _ _ _ ⟨l ++ [r], x', by simp, rfl, rfl, hx', fun p hp => by
              rcases List.mem_append.mp hp with z | z
              · exact hl p z
              · rw [List.mem_singleton.mp z]
                exact hr.mono b1 b2⟩
          · rintro acc env s ⟨l, x, rfl, rfl, rfl, hx, hl⟩ hlen
            walk_at "wz"
            have hll : l.length = 4 := by
              rw [List.length_map, List.length_nil, Nat.zero_add] at hlen
              omega
            exact hk2 _ _ ⟨x, l, _, rfl, rfl, hx, hll, hl⟩
        · intro t ht
          simp only [List.mem_cons, List.not_mem_nil, or_false] at ht
          rcases ht with rfl | rfl | rfl | rfl <;> assumption
        · rintro env s ⟨x, ts, v5, rfl, rfl, hx, _, _⟩
          walk_at "wz"
          refine ⟨by show 1 ≤ sizeLine; decide, by show 1 ≤ sizeLine; decide, by show 2 ≤ sizeLine; decide, by show 7 ≤ sizeLine; decide, ?_⟩
          intro a6
          refine _law_take_spec hx (by decide) (by decide) fun z x5 z0 z1 hx5 => ⟨x5, b, rfl, ?_⟩
          obtain ⟨z, rfl⟩ := Int.eq_ofNat_of_zero_le z0
          obtain ⟨y, y1, y2, y3⟩ := odd_no z (by omega)
          walk_at "wz"
          refine ⟨y, y1, ?_⟩
          walk_at "wz"
          intro r0 R0
          intro r1 R1
          intro r2 R2
          intro r3 R3
          walk_at "wz"
          refine ⟨by show 4 ≤ sizeLine; decide, ?_⟩
          have hall : ∀ p ∈ ([(0, r0), (1, r1), (2, r2), (3, r3)] : List (Nat × Addr)), (∀ f o u, LI p.1 p.2 f o u) ∧ p.1 < 4 := fun p hp => by
            simp only [List.mem_cons, List.not_mem_nil, or_false] at hp
            rcases hp with rfl | rfl | rfl | rfl
            · exact ⟨R0, (by decide : 0 < 4)⟩
            · exact ⟨R1, (by decide : 1 < 4)⟩
            · exact ⟨R2, (by decide : 2 < 4)⟩
            · exact ⟨R3, (by decide : 3 < 4)⟩
          refine forW_inv (l := [(0, r0), (1, r1), (2, r2), (3, r3)]) (f := fun p : Nat × Addr => .st p.2) (fun _ env s => ∃ v7, env = [.val (.scr ns), .val (.int (i : Nat)), .own [.int x5, .bl b], .own (c.map crD), .own (ts.map D.str), v5, .val y, v7, .no, .no, .no, .no] ∧ s = none) ?_ ⟨_, rfl, rfl⟩ ?_
          · rintro j hj env s ⟨v7, rfl, rfl⟩ KN2 hk2
            obtain ⟨hR, hn4⟩ := hall _ (List.getElem_mem hj)
            generalize ([(0, r0), (1, r1), (2, r2), (3, r3)] : List (Nat × Addr))[j] = p at hR hn4
            obtain ⟨n, r⟩ := p
            simp only at hR hn4 ⊢
            walk_at "wz"
            refine ⟨n, r, rfl, hR, ?_⟩
            refine fun_no n hn4 y2 y3 ⟨7, rfl, by decide, ⟨eqOk_one 7, eqOk_one 7⟩, ?_⟩
            rw [eqv_one, if_neg (by decide)]
            exact hk2 _ _ ⟨_, rfl, rfl⟩
          · rintro env s ⟨v7, rfl, rfl⟩
            walk_at "wz"
            exact hk _ _ ⟨_, _, _, _, _, _, _, rfl, rfl⟩
      split
      · exact ⟨by show 3 < sizeLine; decide, fin _ T0⟩
      · exact ⟨by show 3 < sizeLine; decide, fin _ T4⟩
    split
    · exact ⟨by show 2 < sizeLine; decide, fin _ T0⟩
    · exact ⟨by show 2 < sizeLine; decide, fin _ T3⟩
  · rintro env s ⟨v1, v2, v3, v4, v5, v6, v7, rfl, rfl⟩
    walk_at "wz"
end Ma
set_option Elab.async false
set_option linter.all false
set_option maxRecDepth 100000
set_option maxHeartbeats 0
namespace En
open PySem PySem.Spec PyProof.Rows L2 DL
theorem facts {w : World} {mg : Str → Option Value} {fa : Addr} {h : Heap} (X : hk.says w h) (G : h.Ns mainGlobals mg) (hfa : mg ("law" : Str) = some (.ref fa)) :
    ∃ K : PySem.W.Frag, K.In h ∧ LamX.LawAtS PySem.Challenge.rw_momentwright_k91_texts_that_write_none w K (L2.CX (PySem.Challenge.rw_momentwright_k91_texts_that_write_none).prog w) 37 63 "_law_script" mg fa h := by
  obtain ⟨K, KX, c⟩ := X
  have TX : Txt Wk.bk K mg := Txt.mk' KX G c
  obtain ⟨fd, FD⟩ := TX.fun_ 41 (d := ⟨("law", none), "law", "law", defArgs Wk.s_law, defBody Wk.s_law, defScope Wk.s_law, [], []⟩) rfl
  have e := hfa.symm.trans (TX.glo 41 "law" rfl)
  cases e
  refine ⟨K, KX, fd, Wk.bk.tf.map (He.cT K), spD K (tabT Wk.bk K) (He.ga K) Mi.F_law, fun p hp => ?_, fun p hp => ?_, fun p hp => ?_, ?_, fun H a ns hl hb hT hS => entry (fun p hp => ?_) hS (Ma.law_true ns hl hb), fun base hK hG hTB => ?_⟩
  · obtain ⟨q, hq, rfl⟩ := List.mem_map.mp hp
    exact c.empty q hq
  · obtain ⟨q, hq, rfl⟩ := List.mem_map.mp hp
    exact c.out q hq
  · obtain ⟨q, hq, rfl⟩ := List.mem_map.mp hp
    exact PySem.W.codeHd_of_K KX (c.hd q hq)
  · intro s u
    exact FunD.bindsA (ps := ["_law_script"]) FD (fun _ _ _ _ _ _ us hl => match us, hl with | [_], _ => rfl) s [u] rfl
  · obtain ⟨q, hq, rfl⟩ := List.mem_map.mp hp
    exact hT _ (List.mem_map.mpr ⟨q, hq, rfl⟩)
  · have TX' : Txt Wk.bk K mg := TX
    obtain ⟨fa', fd', h1, h2, h3, h4, oc', od', osl', lk'⟩ := (Wk.ok_law (P := (PySem.Challenge.rw_momentwright_k91_texts_that_write_none).prog) (w := w) (base := base) (T := tabT Wk.bk K) TX' ⟨rfl, fun p hp => hTB _ (List.mem_map.mpr ⟨p, hp, rfl⟩), seerB_ok TX.seer hK hG rfl⟩).ex
    have e1 : fa' = He.ga K "law" := by
      have := h1.symm.trans (TX.glo 41 "law" rfl)
      cases this
      rfl
    subst e1
    obtain ⟨oc, od, dV, kV, doc, pm, an, cdv, ct, osl, e2, lk, hcd, _, _⟩ := FD.ex
    have e3 : fd' = fd := by
      have lk2 : K.lookup (He.ga K "law") = some ⟨oc, od, .func fd, osl⟩ := lk
      rw [lk2] at lk'
      have e4 := Option.some.inj lk'
      injection e4 with _ _ e5 _
      injection e5 with e6
      exact e6.symm
    subst e3
    exact h4
end En
open PySem PySem.W PySem.Calls PyProof.Rows
theorem PySem.Challenge.cw_momentwright_k91_texts_that_write_none_holds : PySem.Challenge.rw_momentwright_k91_texts_that_write_none.Holds :=
by
  w_on; o_law
  refine HandSHeadRun.head_any (r := OpenLaw.row PySem.Challenge.rw_momentwright_k91_texts_that_write_none) (q := view (OpenLaw.row PySem.Challenge.rw_momentwright_k91_texts_that_write_none).prog [61]) (H := En.hk) (ob := En.ob) (M := 17500) (loose := (En.loose0 ++ En.loose1 ++ En.loose2)) (d := HandSHeadRun.topDef (OpenLaw.row PySem.Challenge.rw_momentwright_k91_texts_that_write_none).prog 61) (kwd := []) En.ob_eq
    (by kernel_rfl) (fun s => by kernel_rfl) En.run (by kernel_rfl) (by kernel_rfl) (by kernel_rfl) (by rfl) (by first | assumption | decide +kernel) (by decide +kernel) ⟨rfl, rfl, rfl, rfl, rfl, by decide +kernel⟩ ?hw ?hc
  case hw => w_witness2
  case hc =>
    refine LamX.walk_ofTsE (l := PySem.Challenge.rw_momentwright_k91_texts_that_write_none) (n := 63) (k := 37) (x := "_law_script") (CX := fun w => L2.CX (PySem.Challenge.rw_momentwright_k91_texts_that_write_none).prog w) rfl (by decide) (by kernel_rfl) ⟨rfl, by decide, by decide⟩ ?F (fun w H s e s' z => by
      obtain ⟨_, _, _, _, _, _, _, _, _, _, _, _, z⟩ := z
      exact z)
    intro w mg fa h Y G hmg0
    have hmg : mg ("law" : PySem.Str) = some (.ref fa) := by
      have e : (HandSHeadRun.topDef (OpenLaw.row PySem.Challenge.rw_momentwright_k91_texts_that_write_none).prog 61).name = ("law" : PySem.Str) := by kernel_rfl
      rw [← e]
      exact hmg0
    exact En.facts Y G hmg

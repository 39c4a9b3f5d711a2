import PyProof.Rows.All
import Wide.All
import OpenK.AllK
import Wide.FinOn
import HandS.ForMost
import HandS.Defaults
import HandS.IsInst
import HandS.Wide
import HandS.ForExc
import HandS.Flow
import HandS.TupAny
import HandS.Zip
import HandS.DictComp
import HandS.Iter
import HandS.SortInts
import HandS.RaiseMore
import KE.SortData
import HandS.Text
import HandS.FStr
import HandS.More
import HandS.TupMul
import HandS.Strs
import HandS.SetFor
import HandS.SetBool
import HandS.Conv
import HandS.MakeKw
import HandS.MakeKwOnly
import HandS.ExcOwn
import HandS.ExcInit
import HandS.TryOnly
import HandS.Deep
import HandS.ExcCtx
import HandS.HotCalls
import HandS.ExcIs
import HandS.ExcField
import KE.GoesZip
import KE.GoesMore
import KE.IntTextLaws
import HandS.Lambda
import HandS.EndTab
import KE.SortKeyHeap
import KE.KSortKey
import PySem.Challenge.RW_pagelend_k47_what_is_an_order
set_option Elab.async false
set_option linter.all false
set_option maxRecDepth 100000
set_option maxHeartbeats 1000000
namespace My
open PySem PySem.Spec PyProof.Rows L2
/-! ### exceptions keep that their context is None: L2N's judgements in place of L2's (own work) -/
abbrev CX := @L2N.CX
abbrev Takes := @L2N.Takes
abbrev PMk := @L2N.PMk
abbrev MkP := @L2N.MkP
abbrev Zn := @L2N.Zn
abbrev passAt := @L2N.passAt
abbrev passes_call := @L2N.passes_call
abbrev takes_of := @L2N.takes_of
abbrev ps_raise := @L2N.ps_raise
abbrev pmk_own := @L2N.pmk_own
theorem passL {X : Cx} : Passes (L2N.CX X.prog X.w) X E0 := fun _ _ _ _ _ _ _ h => by
  obtain ⟨_, _, _, _, _, _, _, _, _, _, _, _, z⟩ := h
  exact z.elim

/-! ### data: values as trees, what is changed as numbered objects of a store (own work) -/
inductive D where
  | non | bl (b : Bool) | int (i : Int) | str (x : Str) | tup (xs : List D) | lst (xs : List D) | loc (n : Nat) | ty (n : String) | scr (xs : List D) | dct (ks : List Key) (ds : List D) | cod (q : Str)
instance : Inhabited D := ⟨.non⟩
inductive O where
  | gone | lst (xs : List D) | frz (xs : List D) | dK (kvs : List (Key × D)) | dT (kvs : List (List Key × D)) | ins (c : String) (fs : List (Str × D)) | tab (q : Str)
abbrev Store := List O
structure Err where
  cls : String
  fs : List (Str × D)
inductive R (α : Type) where
  | ok (a : α) (S : Store) | err (x : Err) (S : Store) | no
def R.bind {α β : Type} : R α → (α → Store → R β) → R β
  | .ok a S, f => f a S
  | .err x S, _ => .err x S
  | .no, _ => .no
def R.calm {α : Type} : R α → Prop
  | .err _ _ => False
  | _ => True
theorem R.bind_ok {α β : Type} {a : α} {S : Store} {f : α → Store → R β} : (R.ok a S).bind f = f a S := rfl
theorem R.bind_err {α β : Type} {x : Err} {S : Store} {f : α → Store → R β} : (R.err x S).bind f = .err x S := rfl
theorem R.bind_no {α β : Type} {f : α → Store → R β} : (R.no : R α).bind f = .no := rfl
abbrev DSt := List (Option D)
abbrev DEv := DSt → Store → R D
abbrev DAv := DSt → Store → R (List D)
abbrev DTv := DSt → Store → R Bool

/-! ### how data stand in the abstract heap -/
structure Cfg where
  φ : List Addr
  S : Store
  H : Hp
structure Gam where
  K : PySem.W.Frag
  cm : String → Addr → Prop
  A : Addr → Prop
def Live (c : Cfg) (a : Addr) : Prop := ∃ (n : Nat) (o : O), c.φ[n]? = some a ∧ c.S[n]? = some o ∧ o ≠ O.gone
def Own (G : Gam) (c : Cfg) (a : Addr) : Prop := G.A a ∨ Live c a
mutual
def Rp (G : Gam) (c : Cfg) : D → V → Prop
  | .non, v => v = .non
  | .bl b, v => v = .bl b
  | .int i, v => v = .int i
  | .str x, v => v = .str x ∧ PySem.PyData.strOk x = true ∧ x.length ≤ sizeLine
  | .tup xs, v => ∃ a vs, v = .ref a ∧ ¬ Own G c a ∧ c.H a = some (.tup vs) ∧ RpA G c xs vs
  | .lst xs, v => ∃ a vs, v = .ref a ∧ ¬ Own G c a ∧ c.H a = some (.lst vs) ∧ RpA G c xs vs
  | .loc n, v => ∃ a, v = .ref a ∧ c.φ[n]? = some a
  | .ty n, v => v = .ty n
  | .scr xs, v => ∃ a vs, v = .ref a ∧ ((¬ Own G c a ∧ ∃ o, c.H a = some (.frz o (.lst vs))) ∨ SqL G.K (fun _ => none) a vs) ∧ RpA G c xs vs
  | .cod q, v => ∃ a, v = .ref a ∧ ¬ Own G c a ∧ c.H a = some (LamX.CodeO a q)
  | .dct ks ds, v => ∃ a o kws, v = .ref a ∧ ¬ Own G c a ∧ c.H a = some (.frz o (.dK kws)) ∧ kws.map (·.1) = ks ∧ RpA G c ds (kws.map (·.2))
def RpA (G : Gam) (c : Cfg) : List D → List V → Prop
  | [], vs => vs = []
  | x :: xs, vs => ∃ v r, vs = v :: r ∧ Rp G c x v ∧ RpA G c xs r
end
/-- entries of a dict, attributes -/
def RpK {κ : Type} (G : Gam) (c : Cfg) : List (κ × D) → List (κ × V) → Prop := Paired fun p q => p.1 = q.1 ∧ Rp G c p.2 q.2
def OOk (G : Gam) (c : Cfg) (a : Addr) : O → Prop
  | .gone => True
  | .lst xs => ∃ vs, c.H a = some (.lst vs) ∧ RpA G c xs vs
  | .frz xs => ∃ o vs, c.H a = some (.frz o (.lst vs)) ∧ RpA G c xs vs
  | .dK kvs => ∃ kws, c.H a = some (.dK kws) ∧ RpK G c kvs kws
  | .dT kvs => ∃ kws, c.H a = some (.dT kws) ∧ RpK G c kvs kws
  | .tab q => G.cm "tab" a ∧ ∃ ps : Array Value, c.H a = some (.tbl ps) ∧ TriplesOk ps.toList ∧ ∀ (p : Pos) (cv : Value), codeAmong p ps.toList = some cv → ∃ k, cv = .ref k ∧ Rp G c (.cod q) (.ref k)
  | .ins k fs => ∃ C dx gs, c.H a = some (.ins C dx gs) ∧ G.cm k C ∧ RpK G c fs gs
structure RelC (G : Gam) (c : Cfg) : Prop where
  len : c.φ.length = c.S.length
  nod : c.φ.Nodup
  obj : ∀ (n : Nat) (a : Addr) (o : O), c.φ[n]? = some a → c.S[n]? = some o → OOk G c a o
  apart : ∀ a, Live c a → ¬ G.A a
  dom : ∀ (n : Nat) (a : Addr), c.φ[n]? = some a → ∃ o, c.H a = some o
  domA : ∀ a, G.A a → ∃ o, c.H a = some o
structure Ext (c c' : Cfg) : Prop where
  pre : ∀ (n : Nat) (a : Addr), c.φ[n]? = some a → c'.φ[n]? = some a
  gone : ∀ (n : Nat), c.S[n]? = some .gone → c'.S[n]? = some .gone
  keep : ∀ a o, ¬ Live c a → c.H a = some o → c'.H a = some o ∧ ¬ Live c' a
  new : ∀ (n : Nat) (a : Addr), c'.φ[n]? = some a → c.φ[n]? = some a ∨ c.H a = none
  dom : ∀ a o, c.H a = some o → ∃ o', c'.H a = some o'
theorem Ext.refl (c : Cfg) : Ext c c := ⟨fun _ _ h => h, fun _ h => h, fun _ _ n h => ⟨h, n⟩, fun _ _ h => .inl h, fun _ o h => ⟨o, h⟩⟩
theorem Ext.trans {a b c : Cfg} (x : Ext a b) (y : Ext b c) : Ext a c :=
  ⟨fun n a h => y.pre n a (x.pre n a h), fun n h => y.gone n (x.gone n h), fun a o n h => let ⟨h1, n1⟩ := x.keep a o n h; y.keep a o n1 h1, fun n u h => (y.new n u h).elim (fun h => x.new n u h) fun h => .inr (by
    cases q : a.H u with
    | none => rfl
    | some o =>
      obtain ⟨o', q'⟩ := x.dom u o q
      rw [h] at q'
      cases q'), fun u o h => let ⟨o1, h1⟩ := x.dom u o h; y.dom u o1 h1⟩
theorem Own.not {G : Gam} {c : Cfg} {a : Addr} (h : ¬ Own G c a) : ¬ Live c a := fun l => h (.inr l)
theorem Own.keep {G : Gam} {c c' : Cfg} {a : Addr} {o : HO} (x : Ext c c') (n : ¬ Own G c a) (h : c.H a = some o) : c'.H a = some o ∧ ¬ Own G c' a :=
  let ⟨h1, n1⟩ := x.keep a o (Own.not n) h
  ⟨h1, fun z => z.elim (fun z => n (.inl z)) n1⟩
mutual
theorem Rp.mono {G : Gam} {c c' : Cfg} (x : Ext c c') : ∀ (d : D) (v : V), Rp G c d v → Rp G c' d v
  | .non, _, h => h
  | .bl _, _, h => h
  | .int _, _, h => h
  | .str _, _, h => h
  | .tup xs, _, ⟨a, vs, e, n, h, r⟩ => let ⟨h1, n1⟩ := Own.keep x n h; ⟨a, vs, e, n1, h1, RpA.mono x xs vs r⟩
  | .lst xs, _, ⟨a, vs, e, n, h, r⟩ => let ⟨h1, n1⟩ := Own.keep x n h; ⟨a, vs, e, n1, h1, RpA.mono x xs vs r⟩
  | .loc n, _, ⟨a, e, h⟩ => ⟨a, e, x.pre n a h⟩
  | .ty _, _, h => h
  | .scr xs, _, ⟨a, vs, e, q, r⟩ => ⟨a, vs, e, q.elim (fun ⟨n, o, h⟩ => let ⟨h1, n1⟩ := Own.keep x n h; .inl ⟨n1, o, h1⟩) .inr, RpA.mono x xs vs r⟩
  | .dct ks ds, _, ⟨a, o, kws, e, n, h, ek, r⟩ => let ⟨h1, n1⟩ := Own.keep x n h; ⟨a, o, kws, e, n1, h1, ek, RpA.mono x ds _ r⟩
  | .cod q, _, ⟨a, e, n, h⟩ => let ⟨h1, n1⟩ := Own.keep x n h; ⟨a, e, n1, h1⟩
theorem RpA.mono {G : Gam} {c c' : Cfg} (x : Ext c c') : ∀ (ds : List D) (vs : List V), RpA G c ds vs → RpA G c' ds vs
  | [], _, h => h
  | d :: ds, _, ⟨v, r, e, h, t⟩ => ⟨v, r, e, Rp.mono x d v h, RpA.mono x ds r t⟩
end
mutual
/-- less is kept apart -/
theorem Rp.less {G : Gam} {c : Cfg} {B : Addr → Prop} (x : ∀ a, B a → G.A a) : ∀ (d : D) (v : V), Rp G c d v → Rp ⟨G.K, G.cm, B⟩ c d v
  | .non, _, h => h
  | .bl _, _, h => h
  | .int _, _, h => h
  | .str _, _, h => h
  | .tup xs, _, ⟨a, vs, e, n, h, r⟩ => ⟨a, vs, e, fun z => n (z.elim (fun z => .inl (x a z)) .inr), h, RpA.less x xs vs r⟩
  | .lst xs, _, ⟨a, vs, e, n, h, r⟩ => ⟨a, vs, e, fun z => n (z.elim (fun z => .inl (x a z)) .inr), h, RpA.less x xs vs r⟩
  | .loc n, _, h => h
  | .ty _, _, h => h
  | .scr xs, _, ⟨a, vs, e, q, r⟩ => ⟨a, vs, e, q.elim (fun ⟨n, o, h⟩ => .inl ⟨fun z => n (z.elim (fun z => .inl (x a z)) .inr), o, h⟩) .inr, RpA.less x xs vs r⟩
  | .dct ks ds, _, ⟨a, o, kws, e, n, h, ek, r⟩ => ⟨a, o, kws, e, fun z => n (z.elim (fun z => .inl (x a z)) .inr), h, ek, RpA.less x ds _ r⟩
  | .cod q, _, ⟨a, e, n, h⟩ => ⟨a, e, fun z => n (z.elim (fun z => .inl (x a z)) .inr), h⟩
theorem RpA.less {G : Gam} {c : Cfg} {B : Addr → Prop} (x : ∀ a, B a → G.A a) : ∀ (ds : List D) (vs : List V), RpA G c ds vs → RpA ⟨G.K, G.cm, B⟩ c ds vs
  | [], _, h => h
  | d :: ds, _, ⟨v, r, e, h, t⟩ => ⟨v, r, e, Rp.less x d v h, RpA.less x ds r t⟩
end
mutual
/-- p is new: nothing leans on it -/
theorem Rp.more {G : Gam} {c : Cfg} {p : Addr} (hp : c.H p = none) : ∀ (d : D) (v : V), Rp G c d v → Rp ⟨G.K, G.cm, fun a => G.A a ∨ a = p⟩ c d v
  | .non, _, h => h
  | .bl _, _, h => h
  | .int _, _, h => h
  | .str _, _, h => h
  | .tup xs, _, ⟨a, vs, e, n, h, r⟩ => ⟨a, vs, e, fun z => z.elim (fun z => z.elim (fun z => n (.inl z)) fun z => by rw [z, hp] at h; cases h) fun z => n (.inr z), h, RpA.more hp xs vs r⟩
  | .lst xs, _, ⟨a, vs, e, n, h, r⟩ => ⟨a, vs, e, fun z => z.elim (fun z => z.elim (fun z => n (.inl z)) fun z => by rw [z, hp] at h; cases h) fun z => n (.inr z), h, RpA.more hp xs vs r⟩
  | .loc n, _, h => h
  | .ty _, _, h => h
  | .scr xs, _, ⟨a, vs, e, q, r⟩ => ⟨a, vs, e, q.elim (fun ⟨n, o, h⟩ => .inl ⟨fun z => z.elim (fun z => z.elim (fun z => n (.inl z)) fun z => by rw [z, hp] at h; cases h) fun z => n (.inr z), o, h⟩) .inr, RpA.more hp xs vs r⟩
  | .dct ks ds, _, ⟨a, o, kws, e, n, h, ek, r⟩ => ⟨a, o, kws, e, fun z => z.elim (fun z => z.elim (fun z => n (.inl z)) fun z => by rw [z, hp] at h; cases h) fun z => n (.inr z), h, ek, RpA.more hp ds _ r⟩
  | .cod q, _, ⟨a, e, n, h⟩ => ⟨a, e, fun z => z.elim (fun z => z.elim (fun z => n (.inl z)) fun z => by rw [z, hp] at h; cases h) fun z => n (.inr z), h⟩
theorem RpA.more {G : Gam} {c : Cfg} {p : Addr} (hp : c.H p = none) : ∀ (ds : List D) (vs : List V), RpA G c ds vs → RpA ⟨G.K, G.cm, fun a => G.A a ∨ a = p⟩ c ds vs
  | [], _, h => h
  | d :: ds, _, ⟨v, r, e, h, t⟩ => ⟨v, r, e, Rp.more hp d v h, RpA.more hp ds r t⟩
end
theorem RpK.map {κ : Type} {G G' : Gam} {c c' : Cfg} (f : ∀ d v, Rp G c d v → Rp G' c' d v) {xs : List (κ × D)} {ys : List (κ × V)} (h : RpK G c xs ys) : RpK G' c' xs ys := by
  unfold RpK at h ⊢
  induction h with
  | nil => exact .nil
  | cons p _ ih => exact .cons ⟨p.1, f _ _ p.2⟩ ih
theorem OOk.map {G : Gam} (G' : Gam) {c : Cfg} (c' : Cfg) {a : Addr} (hc : G'.cm = G.cm) (hH : c'.H a = c.H a) (f : ∀ d v, Rp G c d v → Rp G' c' d v) (fA : ∀ d v, RpA G c d v → RpA G' c' d v) : ∀ {o : O}, OOk G c a o → OOk G' c' a o
  | .gone, _ => True.intro
  | .lst _, ⟨vs, h, r⟩ => ⟨vs, hH ▸ h, fA _ _ r⟩
  | .frz _, ⟨o, vs, h, r⟩ => ⟨o, vs, hH ▸ h, fA _ _ r⟩
  | .dK _, ⟨k, h, r⟩ => ⟨k, hH ▸ h, r.map f⟩
  | .dT _, ⟨k, h, r⟩ => ⟨k, hH ▸ h, r.map f⟩
  | .ins _ _, ⟨C, dx, gs, h, m, r⟩ => ⟨C, dx, gs, hH ▸ h, by rw [hc]; exact m, r.map f⟩
  | .tab _, ⟨m, ps, h, t, r⟩ => ⟨by rw [hc]; exact m, ps, hH ▸ h, t, fun p cv e => let ⟨k, e1, e2⟩ := r p cv e; ⟨k, e1, f _ _ e2⟩⟩
theorem live_ne {G : Gam} {c : Cfg} {p a : Addr} (r : RelC G c) (hp : c.H p = none) (l : Live c a) : a ≠ p := fun e => by
  obtain ⟨n, o, h, _⟩ := l
  obtain ⟨u, q⟩ := r.dom n a h
  rw [e, hp] at q
  cases q
theorem phi_ne {G : Gam} {c : Cfg} {p a : Addr} {n : Nat} (r : RelC G c) (hp : c.H p = none) (h : c.φ[n]? = some a) : a ≠ p := fun e => by
  obtain ⟨u, q⟩ := r.dom n a h
  rw [e, hp] at q
  cases q
/-- something new is laid beside the store -/
theorem dom_upd {H : Hp} {p a : Addr} {u o : HO} (h : H a = some o) : ∃ o', upd H p u a = some o' := by
  by_cases e : a = p
  · exact ⟨u, by rw [e]; exact upd_same⟩
  · exact ⟨o, by rw [upd_ne e]; exact h⟩
theorem Ext.lay {G : Gam} {c : Cfg} (r : RelC G c) {p : Addr} {o : HO} (hp : c.H p = none) : Ext c ⟨c.φ, c.S, upd c.H p o⟩ :=
  ⟨fun _ _ h => h, fun _ h => h, fun a u n h => ⟨by show upd c.H p o a = _; rw [upd_ne (ne_of_none h hp)]; exact h, n⟩, fun _ _ h => .inl h, fun _ _ h => dom_upd h⟩
theorem RelC.lay {G : Gam} {c : Cfg} (r : RelC G c) {p : Addr} {o : HO} (hp : c.H p = none) : RelC G ⟨c.φ, c.S, upd c.H p o⟩ := by
  have x : Ext c ⟨c.φ, c.S, upd c.H p o⟩ := Ext.lay r hp
  refine ⟨r.len, r.nod, fun n a u h1 h2 => ?_, r.apart, fun n a h => ?_, fun a h => ?_⟩
  · have ne := phi_ne r hp h1
    exact (r.obj n a u h1 h2).map _ _ rfl (show upd c.H p o a = c.H a from upd_ne ne) (Rp.mono x) (RpA.mono x)
  · obtain ⟨u, q⟩ := r.dom n a h
    exact ⟨u, by show upd c.H p o a = _; rw [upd_ne (phi_ne r hp h)]; exact q⟩
  · obtain ⟨u, q⟩ := r.domA a h
    exact ⟨u, by show upd c.H p o a = _; rw [upd_ne (ne_of_none q hp)]; exact q⟩
theorem own_new {G : Gam} {c : Cfg} (r : RelC G c) {p : Addr} {o : HO} (hp : c.H p = none) : ¬ Own G ⟨c.φ, c.S, upd c.H p o⟩ p := fun z => by
  rcases z with z | ⟨n, u, h, _⟩
  · obtain ⟨u, q⟩ := r.domA p z
    rw [hp] at q
    cases q
  · exact phi_ne r hp h rfl
/-- a new object is laid in the store -/
theorem Ext.push {G : Gam} {c : Cfg} (r : RelC G c) {p : Addr} {u : HO} {o : O} (hp : c.H p = none) : Ext c ⟨c.φ ++ [p], c.S ++ [o], upd c.H p u⟩ := by
  refine ⟨fun n a h => ?_, fun n h => ?_, fun a w n h => ⟨by show upd c.H p u a = _; rw [upd_ne (ne_of_none h hp)]; exact h, fun l => ?_⟩, fun n a h => ?_, fun _ _ h => dom_upd h⟩
  · show (c.φ ++ [p])[n]? = some a
    rw [List.getElem?_append_left (List.getElem?_eq_some_iff.mp h).1]
    exact h
  · show (c.S ++ [o])[n]? = _
    rw [List.getElem?_append_left (List.getElem?_eq_some_iff.mp h).1]
    exact h
  · obtain ⟨m, z, h1, h2, h3⟩ := l
    have h1 : (c.φ ++ [p])[m]? = some a := h1
    have h2 : (c.S ++ [o])[m]? = some z := h2
    by_cases hm : m < c.φ.length
    · rw [List.getElem?_append_left hm] at h1
      rw [List.getElem?_append_left (r.len ▸ hm)] at h2
      exact n ⟨m, z, h1, h2, h3⟩
    · rw [List.getElem?_append_right (Nat.le_of_not_lt hm)] at h1
      have e : a = p := by
        have := List.mem_of_getElem? h1
        simpa using this
      rw [e, hp] at h
      cases h
  · have h : (c.φ ++ [p])[n]? = some a := h
    by_cases hm : n < c.φ.length
    · rw [List.getElem?_append_left hm] at h
      exact .inl h
    · rw [List.getElem?_append_right (Nat.le_of_not_lt hm)] at h
      have e : a = p := by
        have := List.mem_of_getElem? h
        simpa using this
      exact .inr (by rw [e]; exact hp)
theorem RelC.push {G : Gam} {c : Cfg} (r : RelC G c) {p : Addr} {u : HO} {o : O} (hp : c.H p = none) (hA : ¬ G.A p) (new : OOk G ⟨c.φ ++ [p], c.S ++ [o], upd c.H p u⟩ p o) : RelC G ⟨c.φ ++ [p], c.S ++ [o], upd c.H p u⟩ := by
  have x : Ext c ⟨c.φ ++ [p], c.S ++ [o], upd c.H p u⟩ := Ext.push r hp
  have old : ∀ {m a}, (c.φ ++ [p])[m]? = some a → (c.φ[m]? = some a ∧ m < c.φ.length) ∨ (a = p ∧ m = c.φ.length) := fun {m a} h1 => by
    by_cases hm : m < c.φ.length
    · rw [List.getElem?_append_left hm] at h1
      exact .inl ⟨h1, hm⟩
    · rw [List.getElem?_append_right (Nat.le_of_not_lt hm)] at h1
      have l := (List.getElem?_eq_some_iff.mp h1).1
      have e : a = p := by
        have := List.mem_of_getElem? h1
        simpa using this
      exact .inr ⟨e, by simp at l; omega⟩
  refine ⟨by simp [r.len], ?_, fun n a w h1 h2 => ?_, fun a l => ?_, fun n a h => ?_, fun a h => ?_⟩
  · show (c.φ ++ [p]).Nodup
    rw [List.nodup_append]
    refine ⟨r.nod, by simp, fun a ha b hb => ?_⟩
    obtain ⟨n, hn⟩ := List.getElem?_of_mem ha
    have hb : b = p := by simpa using hb
    rw [hb]
    exact phi_ne r hp hn
  · have h2 : (c.S ++ [o])[n]? = some w := h2
    rcases old h1 with ⟨q, hm⟩ | ⟨e, hm⟩
    · rw [List.getElem?_append_left (r.len ▸ hm)] at h2
      exact (r.obj n a w q h2).map _ _ rfl (show upd c.H p u a = c.H a from upd_ne (phi_ne r hp q)) (Rp.mono x) (RpA.mono x)
    · rw [hm, r.len] at h2
      have e2 : w = o := by simpa using h2.symm
      rw [e, e2]
      exact new
  · obtain ⟨m, z, h1, h2, h3⟩ := l
    have h2 : (c.S ++ [o])[m]? = some z := h2
    rcases old h1 with ⟨q, hm⟩ | ⟨e, hm⟩
    · rw [List.getElem?_append_left (r.len ▸ hm)] at h2
      exact r.apart a ⟨m, z, q, h2, h3⟩
    · rw [e]
      exact hA
  · rcases old h with ⟨q, _⟩ | ⟨e, _⟩
    · obtain ⟨w, hw⟩ := r.dom n a q
      exact ⟨w, by show upd c.H p u a = _; rw [upd_ne (phi_ne r hp q)]; exact hw⟩
    · exact ⟨u, by rw [e]; exact upd_same⟩
  · obtain ⟨w, q⟩ := r.domA a h
    exact ⟨w, by show upd c.H p u a = _; rw [upd_ne (ne_of_none q hp)]; exact q⟩
theorem notA_new {G : Gam} {c : Cfg} (r : RelC G c) {p : Addr} (hp : c.H p = none) : ¬ G.A p := fun z => by
  obtain ⟨u, q⟩ := r.domA p z
  rw [hp] at q
  cases q
/-- an object of the store is changed -/
theorem Ext.put {G : Gam} {c : Cfg} (r : RelC G c) {p : Addr} {n : Nat} {u : HO} {o o' : O} (hφ : c.φ[n]? = some p) (hS : c.S[n]? = some o) (ho : o ≠ .gone) : Ext c ⟨c.φ, c.S.set n o', upd c.H p u⟩ := by
  refine ⟨fun _ _ h => h, fun m h => ?_, fun a w l h => ?_, fun _ _ h => .inl h, fun _ _ h => dom_upd h⟩
  · show (c.S.set n o')[m]? = _
    by_cases e : n = m
    · rw [← e, hS] at h
      exact absurd (Option.some.inj h) ho
    · rw [List.getElem?_set_ne e]
      exact h
  · have ne : a ≠ p := fun e => l ⟨n, o, by rw [e]; exact hφ, hS, ho⟩
    refine ⟨by show upd c.H p u a = _; rw [upd_ne ne]; exact h, fun ⟨m, z, h1, h2, h3⟩ => ?_⟩
    have h2 : (c.S.set n o')[m]? = some z := h2
    by_cases e : n = m
    · rw [← e] at h1
      have h1 : c.φ[n]? = some a := h1
      rw [hφ] at h1
      exact ne (Option.some.inj h1).symm
    · rw [List.getElem?_set_ne e] at h2
      exact l ⟨m, z, h1, h2, h3⟩
theorem phi_inj {G : Gam} {c : Cfg} (r : RelC G c) {a : Addr} {m n : Nat} (h : c.φ[m]? = some a) (h' : c.φ[n]? = some a) : m = n := by
  obtain ⟨l1, e1⟩ := List.getElem?_eq_some_iff.mp h
  obtain ⟨l2, e2⟩ := List.getElem?_eq_some_iff.mp h'
  exact (List.getElem_inj r.nod).mp (e1.trans e2.symm)
theorem RelC.put {G : Gam} {c : Cfg} (r : RelC G c) {p : Addr} {n : Nat} {u : HO} {o o' : O} (hφ : c.φ[n]? = some p) (hS : c.S[n]? = some o) (ho : o ≠ .gone) (new : OOk G ⟨c.φ, c.S.set n o', upd c.H p u⟩ p o') : RelC G ⟨c.φ, c.S.set n o', upd c.H p u⟩ := by
  have x : Ext c ⟨c.φ, c.S.set n o', upd c.H p u⟩ := Ext.put r hφ hS ho
  have ln : n < c.S.length := (List.getElem?_eq_some_iff.mp hS).1
  refine ⟨by simp [r.len], r.nod, fun m a w h1 h2 => ?_, fun a l => ?_, fun m a h => ?_, fun a h => ?_⟩
  · have h1 : c.φ[m]? = some a := h1
    have h2 : (c.S.set n o')[m]? = some w := h2
    by_cases e : n = m
    · rw [← e, List.getElem?_set_self ln] at h2
      rw [← e, hφ] at h1
      cases h1
      cases h2
      exact new
    · rw [List.getElem?_set_ne e] at h2
      have ne : a ≠ p := fun z => e (phi_inj r hφ (by rw [← z]; exact h1))
      exact (r.obj m a w h1 h2).map _ _ rfl (show upd c.H p u a = c.H a from upd_ne ne) (Rp.mono x) (RpA.mono x)
  · obtain ⟨m, z, h1, h2, h3⟩ := l
    have h2 : (c.S.set n o')[m]? = some z := h2
    by_cases e : n = m
    · rw [← e] at h1
      exact r.apart a ⟨n, o, h1, hS, ho⟩
    · rw [List.getElem?_set_ne e] at h2
      exact r.apart a ⟨m, z, h1, h2, h3⟩
  · by_cases e : a = p
    · exact ⟨u, by rw [e]; exact upd_same⟩
    · obtain ⟨w, q⟩ := r.dom m a h
      exact ⟨w, by show upd c.H p u a = _; rw [upd_ne e]; exact q⟩
  · by_cases e : a = p
    · exact ⟨u, by rw [e]; exact upd_same⟩
    · obtain ⟨w, q⟩ := r.domA a h
      exact ⟨w, by show upd c.H p u a = _; rw [upd_ne e]; exact q⟩
/-- an object is given up: from now on it is data -/
theorem Ext.drop {c : Cfg} {n : Nat} : Ext c ⟨c.φ, c.S.set n .gone, c.H⟩ := by
  refine ⟨fun _ _ h => h, fun m h => ?_, fun a w l h => ⟨h, fun ⟨m, z, h1, h2, h3⟩ => ?_⟩, fun _ _ h => .inl h, fun _ o h => ⟨o, h⟩⟩
  · show (c.S.set n O.gone)[m]? = _
    by_cases e : n = m
    · rw [← e] at h ⊢
      rw [List.getElem?_set_self (List.getElem?_eq_some_iff.mp h).1]
    · rw [List.getElem?_set_ne e]
      exact h
  · have h2 : (c.S.set n O.gone)[m]? = some z := h2
    by_cases e : n = m
    · rw [← e] at h2
      by_cases ln : n < c.S.length
      · rw [List.getElem?_set_self ln] at h2
        exact h3 (Option.some.inj h2).symm
      · rw [List.getElem?_eq_none (by simp; omega)] at h2
        cases h2
    · rw [List.getElem?_set_ne e] at h2
      exact l ⟨m, z, h1, h2, h3⟩
theorem RelC.drop {G : Gam} {c : Cfg} (r : RelC G c) {n : Nat} : RelC G ⟨c.φ, c.S.set n .gone, c.H⟩ := by
  have x : Ext c ⟨c.φ, c.S.set n .gone, c.H⟩ := Ext.drop
  have lv : ∀ {a}, Live ⟨c.φ, c.S.set n .gone, c.H⟩ a → Live c a := fun {a} ⟨m, z, h1, h2, h3⟩ => by
    have h2 : (c.S.set n O.gone)[m]? = some z := h2
    by_cases e : n = m
    · rw [← e] at h2
      by_cases ln : n < c.S.length
      · rw [List.getElem?_set_self ln] at h2
        exact absurd (Option.some.inj h2).symm h3
      · rw [List.getElem?_eq_none (by simp; omega)] at h2
        cases h2
    · rw [List.getElem?_set_ne e] at h2
      exact ⟨m, z, h1, h2, h3⟩
  refine ⟨by simp [r.len], r.nod, fun m a w h1 h2 => ?_, fun a l => r.apart a (lv l), r.dom, r.domA⟩
  have h1 : c.φ[m]? = some a := h1
  have h2 : (c.S.set n O.gone)[m]? = some w := h2
  by_cases e : n = m
  · rw [← e] at h2
    by_cases ln : n < c.S.length
    · rw [List.getElem?_set_self ln] at h2
      cases h2
      exact True.intro
    · rw [List.getElem?_eq_none (by simp; omega)] at h2
      cases h2
  · rw [List.getElem?_set_ne e] at h2
    exact OOk.map (G := G) (c := c) G ⟨c.φ, c.S.set n .gone, c.H⟩ rfl rfl (Rp.mono x) (RpA.mono x) (r.obj m a w h1 h2)
/-- p, new, is kept apart for a while -/
theorem RelC.more {G : Gam} {c : Cfg} (r : RelC G c) {p : Addr} {o : HO} (hp : c.H p = none) : RelC ⟨G.K, G.cm, fun a => G.A a ∨ a = p⟩ ⟨c.φ, c.S, upd c.H p o⟩ := by
  have x : Ext c ⟨c.φ, c.S, upd c.H p o⟩ := Ext.lay r hp
  refine ⟨r.len, r.nod, fun n a u h1 h2 => ?_, fun a l z => ?_, fun n a h => ?_, fun a h => ?_⟩
  · have ne := phi_ne r hp h1
    exact (r.obj n a u h1 h2).map (G := G) ⟨G.K, G.cm, fun a => G.A a ∨ a = p⟩ ⟨c.φ, c.S, upd c.H p o⟩ rfl (show upd c.H p o a = c.H a from upd_ne ne) (fun d v q => Rp.mono x d v (Rp.more hp d v q)) (fun d v q => RpA.mono x d v (RpA.more hp d v q))
  · rcases z with z | z
    · exact r.apart a l z
    · obtain ⟨n, u, h, _⟩ := l
      exact phi_ne r hp h z
  · obtain ⟨u, q⟩ := r.dom n a h
    exact ⟨u, by show upd c.H p o a = _; rw [upd_ne (phi_ne r hp h)]; exact q⟩
  · rcases h with h | h
    · obtain ⟨u, q⟩ := r.domA a h
      exact ⟨u, by show upd c.H p o a = _; rw [upd_ne (ne_of_none q hp)]; exact q⟩
    · exact ⟨o, by rw [h]; exact upd_same⟩
theorem RelC.less {G : Gam} {c : Cfg} (r : RelC G c) {B : Addr → Prop} (x : ∀ a, B a → G.A a) : RelC ⟨G.K, G.cm, B⟩ c :=
  ⟨r.len, r.nod, fun n a u h1 h2 => OOk.map (G := G) ⟨G.K, G.cm, B⟩ (c := c) c rfl rfl (Rp.less x) (RpA.less x) (r.obj n a u h1 h2), fun a l z => r.apart a l (x a z), r.dom, fun a h => r.domA a (x a h)⟩
/-- what is kept apart is changed -/
theorem Ext.aside {c : Cfg} {p : Addr} {u : HO} (H0 : Hp) (c0 : Cfg) (x : Ext c0 c) (hp : c0.H p = none) : Ext c0 ⟨c.φ, c.S, upd c.H p u⟩ :=
  ⟨x.pre, x.gone, fun a o l h => let ⟨h1, n1⟩ := x.keep a o l h; ⟨by show upd c.H p u a = _; rw [upd_ne (ne_of_none h hp)]; exact h1, n1⟩, x.new, fun a o h => let ⟨_, h1⟩ := x.dom a o h; dom_upd h1⟩
mutual
theorem Rp.aside {G : Gam} {c : Cfg} {p : Addr} {u : HO} (hA : G.A p) : ∀ (d : D) (v : V), Rp G c d v → Rp G ⟨c.φ, c.S, upd c.H p u⟩ d v
  | .non, _, h => h
  | .bl _, _, h => h
  | .int _, _, h => h
  | .str _, _, h => h
  | .tup xs, _, ⟨a, vs, e, n, h, r⟩ => ⟨a, vs, e, n, by show upd c.H p u a = _; rw [upd_ne fun (z : a = p) => n (.inl (by rw [z]; exact hA))]; exact h, RpA.aside hA xs vs r⟩
  | .lst xs, _, ⟨a, vs, e, n, h, r⟩ => ⟨a, vs, e, n, by show upd c.H p u a = _; rw [upd_ne fun (z : a = p) => n (.inl (by rw [z]; exact hA))]; exact h, RpA.aside hA xs vs r⟩
  | .loc n, _, h => h
  | .ty _, _, h => h
  | .scr xs, _, ⟨a, vs, e, q, r⟩ => ⟨a, vs, e, q.elim (fun ⟨n, o, h⟩ => .inl ⟨n, o, by show upd c.H p u a = _; rw [upd_ne fun (z : a = p) => n (.inl (by rw [z]; exact hA))]; exact h⟩) .inr, RpA.aside hA xs vs r⟩
  | .dct ks ds, _, ⟨a, o, kws, e, n, h, ek, r⟩ => ⟨a, o, kws, e, n, by show upd c.H p u a = _; rw [upd_ne fun (z : a = p) => n (.inl (by rw [z]; exact hA))]; exact h, ek, RpA.aside hA ds _ r⟩
  | .cod q, _, ⟨a, e, n, h⟩ => ⟨a, e, n, by show upd c.H p u a = _; rw [upd_ne fun (z : a = p) => n (.inl (by rw [z]; exact hA))]; exact h⟩
theorem RpA.aside {G : Gam} {c : Cfg} {p : Addr} {u : HO} (hA : G.A p) : ∀ (ds : List D) (vs : List V), RpA G c ds vs → RpA G ⟨c.φ, c.S, upd c.H p u⟩ ds vs
  | [], _, h => h
  | d :: ds, _, ⟨v, r, e, h, t⟩ => ⟨v, r, e, Rp.aside hA d v h, RpA.aside hA ds r t⟩
end
theorem RelC.aside {G : Gam} {c : Cfg} (r : RelC G c) {p : Addr} {u : HO} (hA : G.A p) (hl : ∀ n : Nat, c.φ[n]? ≠ some p) : RelC G ⟨c.φ, c.S, upd c.H p u⟩ := by
  refine ⟨r.len, r.nod, fun n a w h1 h2 => ?_, r.apart, fun n a h => ?_, fun a h => ?_⟩
  · have ne : a ≠ p := fun e => hl n (e ▸ h1)
    exact (r.obj n a w h1 h2).map _ _ rfl (show upd c.H p u a = c.H a from upd_ne ne) (Rp.aside hA) (RpA.aside hA)
  · obtain ⟨w, q⟩ := r.dom n a h
    exact ⟨w, by show upd c.H p u a = _; rw [upd_ne fun (e : a = p) => hl n (by rw [← e]; exact h)]; exact q⟩
  · by_cases e : a = p
    · exact ⟨u, by rw [e]; exact upd_same⟩
    · obtain ⟨w, q⟩ := r.domA a h
      exact ⟨w, by show upd c.H p u a = _; rw [upd_ne e]; exact q⟩

/-! ### ends, readings, judgements -/
def ErrR (G : Gam) (c : Cfg) (x : Err) (C : Value) (d : Option Addr) : Prop :=
  ∃ a, C = .ref a ∧ G.cm x.cls a ∧ ((x.fs = [] ∧ d = none) ∨ ∃ p gs, d = some p ∧ ¬ Own G c p ∧ c.H p = some (.xd gs) ∧ RpK G c x.fs gs)
def Post {α β : Type} (G : Gam) (E : XK) (rp : Cfg → α → β → Prop) (c : Cfg) (Q : β → Hp → Prop) : R α → Prop
  | .ok a S => ∀ b c', c'.S = S → Ext c c' → RelC G c' → rp c' a b → Q b c'.H
  | .err x S => ∀ C d c', c'.S = S → Ext c c' → RelC G c' → ErrR G c' x C d → E C d c'.H
  | .no => False
theorem Post.trans {α β : Type} {G : Gam} {E : XK} {rp : Cfg → α → β → Prop} {c c1 : Cfg} {Q : β → Hp → Prop} (x : Ext c c1) : ∀ {r : R α}, Post G E rp c Q r → Post G E rp c1 Q r
  | .ok _ _, h => fun b c' e x' => h b c' e (x.trans x')
  | .err _ _, h => fun C d c' e x' => h C d c' e (x.trans x')
  | .no, h => h
/-- one after another -/
theorem Post.seq {α β γ δ : Type} {G : Gam} {E : XK} {rp : Cfg → α → β → Prop} {rq : Cfg → γ → δ → Prop} {c : Cfg} {Q : β → Hp → Prop} {Q' : δ → Hp → Prop} {r : R α} {f : α → Store → R γ} (h : Post G E rq c Q' (r.bind f))
    (k : ∀ a b c1, r = .ok a c1.S → Ext c c1 → RelC G c1 → rp c1 a b → Post G E rq c1 Q' (f a c1.S) → Q b c1.H) : Post G E rp c Q r := by
  cases r with
  | no => exact h
  | err x S => exact h
  | ok a S =>
    intro b c1 e x rel rb
    subst e
    exact k a b c1 rfl x rel rb (Post.trans x h)
theorem Post.ok {α β : Type} {G : Gam} {E : XK} {rp : Cfg → α → β → Prop} {c : Cfg} {Q : β → Hp → Prop} {a : α} {S : Store} {b : β} {c' : Cfg} (h : Post G E rp c Q (.ok a S)) (x : Ext c c') (rel : RelC G c') (e : c'.S = S) (r : rp c' a b) : Q b c'.H := h b c' e x rel r
theorem Post.here {α β : Type} {G : Gam} {E : XK} {rp : Cfg → α → β → Prop} {c : Cfg} {Q : β → Hp → Prop} {a : α} {b : β} (h : Post G E rp c Q (.ok a c.S)) (rel : RelC G c) (r : rp c a b) : Q b c.H := h b c rfl (.refl c) rel r
def LocR (G : Gam) (c : Cfg) (st : DSt) (σ : L2.St) : Prop := st.length = σ.length ∧ ∀ (i : Nat) (d : D), st[i]? = some (some d) → ∃ v, σ[i]? = some (some v) ∧ Rp G c d v
theorem LocR.mono {G : Gam} {c c' : Cfg} {st : DSt} {σ : L2.St} (x : Ext c c') (h : LocR G c st σ) : LocR G c' st σ := ⟨h.1, fun i d e => let ⟨v, e1, r⟩ := h.2 i d e; ⟨v, e1, Rp.mono x d v r⟩⟩
theorem LocR.more {G : Gam} {c : Cfg} {st : DSt} {σ : L2.St} {p : Addr} (hp : c.H p = none) (h : LocR G c st σ) : LocR ⟨G.K, G.cm, fun a => G.A a ∨ a = p⟩ c st σ := ⟨h.1, fun i d e => let ⟨v, e1, r⟩ := h.2 i d e; ⟨v, e1, Rp.more hp d v r⟩⟩
theorem LocR.less {G : Gam} {c : Cfg} {st : DSt} {σ : L2.St} {B : Addr → Prop} (x : ∀ a, B a → G.A a) (h : LocR G c st σ) : LocR ⟨G.K, G.cm, B⟩ c st σ := ⟨h.1, fun i d e => let ⟨v, e1, r⟩ := h.2 i d e; ⟨v, e1, Rp.less x d v r⟩⟩
theorem LocR.set {G : Gam} {c : Cfg} {st : DSt} {σ : L2.St} {i : Nat} {d : D} {v : V} (h : LocR G c st σ) (r : Rp G c d v) : LocR G c (st.set i (some d)) (σ.set i (some v)) := by
  refine ⟨by rw [List.length_set, List.length_set]; exact h.1, fun j x e => ?_⟩
  by_cases hj : i = j
  · subst hj
    by_cases hl : i < st.length
    · rw [List.getElem?_set_self hl] at e
      cases e
      exact ⟨v, List.getElem?_set_self (h.1 ▸ hl), r⟩
    · rw [List.getElem?_eq_none (by rw [List.length_set]; omega)] at e
      cases e
  · rw [List.getElem?_set_ne hj] at e
    rw [List.getElem?_set_ne hj]
    exact h.2 j x e
theorem LocR.wipe {G : Gam} {c : Cfg} {st : DSt} {σ : L2.St} {i : Nat} (h : LocR G c st σ) : LocR G c (st.set i none) (σ.set i none) := by
  refine ⟨by rw [List.length_set, List.length_set]; exact h.1, fun j x e => ?_⟩
  by_cases hj : i = j
  · subst hj
    by_cases hl : i < st.length
    · rw [List.getElem?_set_self hl] at e
      cases e
    · rw [List.getElem?_eq_none (by rw [List.length_set]; omega)] at e
      cases e
  · rw [List.getElem?_set_ne hj] at e
    rw [List.getElem?_set_ne hj]
    exact h.2 j x e
section
variable (K : PySem.W.Frag) (cm : String → Addr → Prop) (E : XK)
def Snd (t : TE) (e : DEv) : Prop := ∀ (A : Addr → Prop) (c : Cfg) (st : DSt) (σ : L2.St) (Q : VK), RelC ⟨K, cm, A⟩ c → LocR ⟨K, cm, A⟩ c st σ → Post ⟨K, cm, A⟩ E (Rp ⟨K, cm, A⟩) c Q (e st c.S) → t σ c.H Q
def SndT (t : TT) (e : DTv) : Prop := ∀ (A : Addr → Prop) (c : Cfg) (st : DSt) (σ : L2.St) (Q : Bool → Hp → Prop), RelC ⟨K, cm, A⟩ c → LocR ⟨K, cm, A⟩ c st σ → Post ⟨K, cm, A⟩ E (fun _ a b => a = b) c Q (e st c.S) → t σ c.H Q
def SndA (t : TA) (e : DAv) : Prop := ∀ (A : Addr → Prop) (c : Cfg) (st : DSt) (σ : L2.St) (Q : List V → Hp → Prop), RelC ⟨K, cm, A⟩ c → LocR ⟨K, cm, A⟩ c st σ → Post ⟨K, cm, A⟩ E (RpA ⟨K, cm, A⟩) c Q (e st c.S) → t σ c.H Q
/-- an operator by values -/
def OpS (r : R2) (f : D → D → Store → R D) : Prop := ∀ (A : Addr → Prop) (c : Cfg) (x y : D) (v w : V) (Q : VK), RelC ⟨K, cm, A⟩ c → Rp ⟨K, cm, A⟩ c x v → Rp ⟨K, cm, A⟩ c y w → Post ⟨K, cm, A⟩ (fun _ _ _ => False) (Rp ⟨K, cm, A⟩) c Q (f x y c.S) → r v w c.H Q
end
variable {X : Cx} {cm : String → Addr → Prop} {E : XK}
structure DE (X : Cx) (cm : String → Addr → Prop) (E : XK) (e : Expr) (d : DEv) : Prop where
  ex : ∃ t, PE X e t ∧ Snd X.K cm E t d
structure DT (X : Cx) (cm : String → Addr → Prop) (E : XK) (e : Expr) (d : DTv) : Prop where
  ex : ∃ t, PT X e t ∧ SndT X.K cm E t d
structure DW (X : Cx) (cm : String → Addr → Prop) (E : XK) (e : Expr) (d : DTv) : Prop where
  ex : ∃ t, PW X e t ∧ SndT X.K cm E t d
structure DA (X : Cx) (cm : String → Addr → Prop) (E : XK) (es : List Expr) (d : DAv) : Prop where
  ex : ∃ t, PA X es t ∧ SndA X.K cm E t d
/-- what a rule of the layer asks of where one stands -/
structure GX (X : Cx) (E : XK) (k : Nat) : Prop where
  calm : X.calm = true
  nd : X.N.Nodup
  room : Room k X.A
  pass : Passes (CX X.prog X.w) X E
  own : PassesOwn (model X.prog X.w) X.A X.env X.xe

/-! ### names, constants -/
def dVar (i : Nat) : DEv := fun st S => match st[i]? with
  | some (some d) => .ok d S
  | _ => .no
def dC (d : D) : DEv := fun _ S => .ok d S
theorem snd_var {K : PySem.W.Frag} {i : Nat} : Snd K cm E (tVar i) (dVar i) := fun A c st σ Q rel loc h => by
  have h : Post _ E (Rp ⟨K, cm, A⟩) c Q (match st[i]? with | some (some d) => .ok d c.S | _ => .no) := h
  match e : st[i]?, h with
  | some (some d), h =>
    obtain ⟨v, e1, r⟩ := loc.2 i d e
    exact ⟨v, e1, h.here rel r⟩
  | some none, h => exact h.elim
  | none, h => exact h.elim
theorem dv (i : Nat) {x : Str} {pos : Pos} (hN : X.N[i]? = some x := by rfl) (hv : Vis X.env.scope x := by first | exact Or.inl rfl | exact Or.inr (Or.inl rfl) | exact Or.inr (Or.inr rfl)) (hd : (x == ("__debug__" : Str)) = false := by decide)
    (hcd : (x == ("__classdict__" : Str)) = false := by decide) : DE X cm E (.Name x pos) (dVar i) := ⟨_, pv i hN hv hd hcd, snd_var⟩
theorem snd_c {K : PySem.W.Frag} {v : V} {d : D} (h : ∀ G c, Rp G c d v) : Snd K cm E (tC v) (dC d) := fun A c st σ Q rel loc q => Post.here q rel (h _ _)
theorem de_int {i j pos} : DE X cm E (.Constant (.int i) j pos) (dC (.int i)) := ⟨_, pe_int, snd_c fun _ _ => rfl⟩
theorem de_bl {b j pos} : DE X cm E (.Constant (.bool b) j pos) (dC (.bl b)) := ⟨_, pe_bl, snd_c fun _ _ => rfl⟩
theorem de_non {j pos} : DE X cm E (.Constant .none j pos) (dC .non) := ⟨_, pe_non, snd_c fun _ _ => rfl⟩
/-- a text of the program -/
def strG (x : Str) : Bool := PySem.PyData.strOk x && decide (x.length ≤ 100000)
theorem de_str {x j pos} (h : strG x = true := by decide +kernel) : DE X cm E (.Constant (.str x) j pos) (dC (.str x)) := ⟨_, pe_str, snd_c fun _ _ => ⟨rfl, (Bool.and_eq_true_iff.mp h).1, Nat.le_trans (of_decide_eq_true (Bool.and_eq_true_iff.mp h).2) (by decide)⟩⟩
/-- a constant of the module -/
theorem de_globI {x : Str} {i : Int} {u : Value} {pos : Pos} (hg : Gl X x) (hm : X.mg x = some u) (r : RelV (.int i) u) (hd : (x == ("__debug__" : Str)) = false := by decide) : DE X cm E (.Name x pos) (dC (.int i)) := ⟨_, pe_glob hg hm r hd, snd_c fun _ _ => rfl⟩
theorem de_globS {x y : Str} {u : Value} {pos : Pos} (hg : Gl X x) (hm : X.mg x = some u) (r : RelV (.str y) u) (h : strG y = true := by decide +kernel) (hd : (x == ("__debug__" : Str)) = false := by decide) : DE X cm E (.Name x pos) (dC (.str y)) :=
  ⟨_, pe_glob hg hm r hd, snd_c fun _ _ => ⟨rfl, (Bool.and_eq_true_iff.mp h).1, Nat.le_trans (of_decide_eq_true (Bool.and_eq_true_iff.mp h).2) (by decide)⟩⟩
theorem de_ty {x : Str} {n : String} {pos : Pos} (hg : Gl X x) (hm : X.mg x = none) (hv : bootBuiltins x = some (.type n)) (hn : x ≠ "__name__" := by decide) (hd : (x == ("__debug__" : Str)) = false := by decide) : DE X cm E (.Name x pos) (dC (.ty n)) :=
  ⟨_, pe_bltn (v := .ty n) hg hm hv rfl hn hd, snd_c fun _ _ => rfl⟩

/-! ### operators -/
def dOp (f : D → D → Store → R D) (a b : DEv) : DEv := fun st S => (a st S).bind fun x S1 => (b st S1).bind fun y S2 => f x y S2
theorem Post.imp {α β : Type} {G : Gam} {E E' : XK} {rp : Cfg → α → β → Prop} {c : Cfg} {Q Q' : β → Hp → Prop} {r : R α} (h : Post G E rp c Q r) (q : ∀ b c', RelC G c' → Ext c c' → Q b c'.H → Q' b c'.H) (e : ∀ C d H, E C d H → E' C d H) : Post G E' rp c Q' r := by
  cases r with
  | no => exact h
  | err x S => exact fun C d c' e1 x1 r1 rr => e _ _ _ (h C d c' e1 x1 r1 rr)
  | ok a S => exact fun b c' e1 x1 r1 rr => q _ _ r1 x1 (h b c' e1 x1 r1 rr)
/-- an operator's answer is no error -/
def NoErr (f : D → D → Store → R D) : Prop := ∀ x y S, R.calm (f x y S)
theorem Post.noerr {α β : Type} {G : Gam} {E E' : XK} {rp : Cfg → α → β → Prop} {c : Cfg} {Q : β → Hp → Prop} {r : R α} (h : Post G E rp c Q r) (n : R.calm r) : Post G E' rp c Q r := by
  cases r with
  | no => exact h
  | err x S => exact n.elim
  | ok a S => exact h
variable {a b : Expr} {da db : DEv} {pos : Pos}
theorem snd_op {K : PySem.W.Frag} {r : R2} {f : D → D → Store → R D} {ta tb : TE} (hs : OpS K cm r f) (ne : NoErr f) (sa : Snd K cm E ta da) (sb : Snd K cm E tb db) : Snd K cm E (tOp r ta tb) (dOp f da db) := fun A c st σ Q rel loc h =>
  sa A c st σ _ rel loc (Post.seq h fun x v c1 _ x1 rel1 rx h1 => sb A c1 st σ _ rel1 (loc.mono x1) (Post.seq h1 fun y w c2 _ x2 rel2 ry h2 => hs A c2 x y v w Q rel2 (Rp.mono x2 x v rx) ry (h2.noerr (ne x y c2.S))))
theorem de_op {op : Operator} {r : R2} {f : D → D → Store → R D} (ho : OpR X (binaryOp op) r) (hs : OpS X.K cm r f) (ne : NoErr f) (ha : DE X cm E a da) (hb : DE X cm E b db) : DE X cm E (.BinOp a op b pos) (dOp f da db) := by
  obtain ⟨ta, pa, sa⟩ := ha.ex
  obtain ⟨tb, pb, sb⟩ := hb.ex
  exact ⟨_, pe_op ho pa pb, snd_op hs ne sa sb⟩
theorem de_cmp {op : CmpOp} {r : R2} {f : D → D → Store → R D} (ho : OpR X (compareOp op) r) (hs : OpS X.K cm r f) (ne : NoErr f) (ha : DE X cm E a da) (hb : DE X cm E b db) (hm : behindInMarks op b = false) : DE X cm E (.Compare a [op] [b] pos) (dOp f da db) := by
  obtain ⟨ta, pa, sa⟩ := ha.ex
  obtain ⟨tb, pb, sb⟩ := hb.ex
  exact ⟨_, pe_cmpR ho pa pb hm, snd_op hs ne sa sb⟩
/-- a value that is a bool, as a test -/
def dTest (e : DEv) : DTv := fun st S => (e st S).bind fun x S1 => match x with
  | .bl k => .ok k S1
  | _ => .no
theorem Rp.bl_of {G : Gam} {c : Cfg} {k : Bool} {v : V} (h : Rp G c (.bl k) v) : v = .bl k := h
theorem snd_test {K : PySem.W.Frag} {t : TE} {d : DEv} (s : Snd K cm E t d) : SndT K cm E (tTest t) (dTest d) := fun A c st σ Q rel loc h =>
  s A c st σ _ rel loc (Post.seq h fun x v c1 _ x1 rel1 rx h1 => by
    cases x with
    | bl k => exact ⟨k, rx, h1.here rel1 rfl⟩
    | _ => exact h1.elim)
theorem dt_cmp {op : CmpOp} {r : R2} {f : D → D → Store → R D} (ho : OpR X (compareOp op) r) (hs : OpS X.K cm r f) (ne : NoErr f) (ha : DE X cm E a da) (hb : DE X cm E b db) (hm : behindInMarks op b = false) : DT X cm E (.Compare a [op] [b] pos) (dTest (dOp f da db)) := by
  obtain ⟨ta, pa, sa⟩ := ha.ex
  obtain ⟨tb, pb, sb⟩ := hb.ex
  exact ⟨_, pt_cmpR ho pa pb hm, snd_test (snd_op hs ne sa sb)⟩
theorem dt_val {e : Expr} {d : DEv} (h : DE X cm E e d) (he : ∀ whole, isTrue e X.env whole = (do let v ← whole; standAt e.pos; holding [v] (truthy v)) := by intro _; rfl) : DT X cm E e (dTest d) := by
  obtain ⟨t, p, s⟩ := h.ex
  exact ⟨_, pt_val p he, snd_test s⟩
/-- a op b op' c -/
def dChain (f g : D → D → Store → R D) (a b c : DEv) : DEv := fun st S => (a st S).bind fun x S1 => (b st S1).bind fun y S2 => (f x y S2).bind fun z S3 => match z with
  | .bl true => (c st S3).bind fun w S4 => g y w S4
  | .bl false => .ok (.bl false) S3
  | _ => .no
theorem snd_chain {K : PySem.W.Frag} {r r' : R2} {f g : D → D → Store → R D} {ta tb tc : TE} {dc : DEv} (hs : OpS K cm r f) (ne : NoErr f) (hs' : OpS K cm r' g) (ne' : NoErr g) (sa : Snd K cm E ta da) (sb : Snd K cm E tb db) (sc : Snd K cm E tc dc) :
    Snd K cm E (tChain r r' ta tb tc) (dChain f g da db dc) := fun A c st σ Q rel loc h =>
  sa A c st σ _ rel loc (Post.seq h fun x v c1 _ x1 rel1 rx h1 => sb A c1 st σ _ rel1 (loc.mono x1) (Post.seq h1 fun y w c2 _ x2 rel2 ry h2 => hs A c2 x y v w _ rel2 (Rp.mono x2 x v rx) ry ((Post.seq h2 fun z u c3 _ x3 rel3 rz h3 => by
    cases z with
    | bl k =>
      refine ⟨k, rz, ?_⟩
      cases k with
      | true => exact if_pos rfl ▸ sc A c3 st σ _ rel3 ((loc.mono (x1.trans x2)).mono x3) (Post.seq h3 fun w2 u2 c4 _ x4 rel4 rw4 h4 => hs' A c4 y w2 w u2 Q rel4 (Rp.mono x4 y w (Rp.mono x3 y w ry)) rw4 (h4.noerr (ne' y w2 c4.S)))
      | false => exact if_neg Bool.false_ne_true ▸ h3.here rel3 rfl
    | _ => exact h3.elim).noerr (ne x y c2.S))))
variable {e3 : Expr} {dc : DEv}
theorem de_chain {op op' : CmpOp} {r r' : R2} {f g : D → D → Store → R D} (ho : OpR X (compareOp op) r) (hs : OpS X.K cm r f) (ne : NoErr f) (ho' : OpR X (compareOp op') r') (hs' : OpS X.K cm r' g) (ne' : NoErr g) (ha : DE X cm E a da) (hb : DE X cm E b db) (hc : DE X cm E e3 dc)
    (hm : lastMarks [op, op'] [b, e3] = false := by with_unfolding_all rfl) : DE X cm E (.Compare a [op, op'] [b, e3] pos) (dChain f g da db dc) := by
  obtain ⟨ta, pa, sa⟩ := ha.ex
  obtain ⟨tb, pb, sb⟩ := hb.ex
  obtain ⟨tc, pc, sc⟩ := hc.ex
  exact ⟨_, pe_chain ho ho' pa pb pc hm, snd_chain hs ne hs' ne' sa sb sc⟩
theorem dt_chain {op op' : CmpOp} {r r' : R2} {f g : D → D → Store → R D} (ho : OpR X (compareOp op) r) (hs : OpS X.K cm r f) (ne : NoErr f) (ho' : OpR X (compareOp op') r') (hs' : OpS X.K cm r' g) (ne' : NoErr g) (ha : DE X cm E a da) (hb : DE X cm E b db) (hc : DE X cm E e3 dc)
    (hm : lastMarks [op, op'] [b, e3] = false := by with_unfolding_all rfl) : DT X cm E (.Compare a [op, op'] [b, e3] pos) (dTest (dChain f g da db dc)) := by
  obtain ⟨ta, pa, sa⟩ := ha.ex
  obtain ⟨tb, pb, sb⟩ := hb.ex
  obtain ⟨tc, pc, sc⟩ := hc.ex
  exact ⟨_, pt_chain ho ho' pa pb pc hm, snd_test (snd_chain hs ne hs' ne' sa sb sc)⟩
/-- and, or, not -/
def dAnd (t u : DTv) : DTv := fun st S => (t st S).bind fun k S1 => if k = true then u st S1 else .ok false S1
def dOr (t u : DTv) : DTv := fun st S => (t st S).bind fun k S1 => if k = true then .ok true S1 else u st S1
def dNot (t : DTv) : DTv := fun st S => (t st S).bind fun k S1 => .ok (!k) S1
theorem snd_and {K : PySem.W.Frag} {t u : TT} {x y : DTv} (s : SndT K cm E t x) (s' : SndT K cm E u y) : SndT K cm E (tAnd t u) (dAnd x y) := fun A c st σ Q rel loc h =>
  s A c st σ _ rel loc (Post.seq h fun k k' c1 _ x1 rel1 rk h1 => by
    cases rk
    cases k with
    | true => exact s' A c1 st σ Q rel1 (loc.mono x1) h1
    | false => exact h1.here rel1 rfl)
theorem snd_or {K : PySem.W.Frag} {t u : TT} {x y : DTv} (s : SndT K cm E t x) (s' : SndT K cm E u y) : SndT K cm E (tOr t u) (dOr x y) := fun A c st σ Q rel loc h =>
  s A c st σ _ rel loc (Post.seq h fun k k' c1 _ x1 rel1 rk h1 => by
    cases rk
    cases k with
    | false => exact s' A c1 st σ Q rel1 (loc.mono x1) h1
    | true => exact h1.here rel1 rfl)
theorem snd_not {K : PySem.W.Frag} {t : TT} {x : DTv} (s : SndT K cm E t x) : SndT K cm E (tNot t) (dNot x) := fun A c st σ Q rel loc h =>
  s A c st σ _ rel loc (Post.seq h fun k k' c1 _ x1 rel1 rk h1 => by
    cases rk
    exact h1.here rel1 rfl)
variable {rest : List Expr} {ua ub : DTv}
theorem dw_and1 (h : DT X cm E a ua) : DW X cm E (.BoolOp .And [a] pos) ua := let ⟨_, p, s⟩ := h.ex; ⟨_, pw_and1 p, s⟩
theorem dw_or1 (h : DT X cm E a ua) : DW X cm E (.BoolOp .Or [a] pos) ua := let ⟨_, p, s⟩ := h.ex; ⟨_, pw_or1 p, s⟩
theorem dw_and (h : DT X cm E a ua) (h' : DW X cm E (.BoolOp .And (b :: rest) pos) ub) : DW X cm E (.BoolOp .And (a :: b :: rest) pos) (dAnd ua ub) := let ⟨_, p, s⟩ := h.ex; let ⟨_, p', s'⟩ := h'.ex; ⟨_, pw_and p p', snd_and s s'⟩
theorem dw_or (h : DT X cm E a ua) (h' : DW X cm E (.BoolOp .Or (b :: rest) pos) ub) : DW X cm E (.BoolOp .Or (a :: b :: rest) pos) (dOr ua ub) := let ⟨_, p, s⟩ := h.ex; let ⟨_, p', s'⟩ := h'.ex; ⟨_, pw_or p p', snd_or s s'⟩
theorem DW.dt {e : Expr} {d : DTv} (h : DW X cm E e d) : DT X cm E e d := let ⟨_, p, s⟩ := h.ex; ⟨_, p.pt, s⟩
theorem dt_not (h : DT X cm E a ua) : DT X cm E (.UnaryOp .Not a pos) (dNot ua) := let ⟨_, p, s⟩ := h.ex; ⟨_, pt_not p, snd_not s⟩
/-- .. as values -/
def dAndV (a b : DEv) : DEv := fun st S => (a st S).bind fun x S1 => match x with
  | .bl true => b st S1
  | .bl false => .ok (.bl false) S1
  | _ => .no
def dOrV (a b : DEv) : DEv := fun st S => (a st S).bind fun x S1 => match x with
  | .bl true => .ok (.bl true) S1
  | .bl false => b st S1
  | _ => .no
def dNotV (a : DEv) : DEv := fun st S => (a st S).bind fun x S1 => match x with
  | .bl k => .ok (.bl (!k)) S1
  | _ => .no
theorem snd_andV {K : PySem.W.Frag} {ta tb : TE} (s : Snd K cm E ta da) (s' : Snd K cm E tb db) : Snd K cm E (tAndV ta tb) (dAndV da db) := fun A c st σ Q rel loc h =>
  s A c st σ _ rel loc (Post.seq h fun x v c1 _ x1 rel1 rx h1 => by
    cases x with
    | bl k =>
      refine ⟨k, rx, ?_⟩
      cases k with
      | true => exact if_pos rfl ▸ s' A c1 st σ Q rel1 (loc.mono x1) h1
      | false => exact if_neg Bool.false_ne_true ▸ h1.here rel1 rfl
    | _ => exact h1.elim)
theorem snd_orV {K : PySem.W.Frag} {ta tb : TE} (s : Snd K cm E ta da) (s' : Snd K cm E tb db) : Snd K cm E (tOrV ta tb) (dOrV da db) := fun A c st σ Q rel loc h =>
  s A c st σ _ rel loc (Post.seq h fun x v c1 _ x1 rel1 rx h1 => by
    cases x with
    | bl k =>
      refine ⟨k, rx, ?_⟩
      cases k with
      | false => exact if_neg Bool.false_ne_true ▸ s' A c1 st σ Q rel1 (loc.mono x1) h1
      | true => exact if_pos rfl ▸ h1.here rel1 rfl
    | _ => exact h1.elim)
theorem snd_notV {K : PySem.W.Frag} {ta : TE} (s : Snd K cm E ta da) : Snd K cm E (tNotV ta) (dNotV da) := fun A c st σ Q rel loc h =>
  s A c st σ _ rel loc (Post.seq h fun x v c1 _ x1 rel1 rx h1 => by
    cases x with
    | bl k => exact ⟨k, rx, h1.here rel1 rfl⟩
    | _ => exact h1.elim)
theorem de_one {op} (h : DE X cm E a da) : DE X cm E (.BoolOp op [a] pos) da := let ⟨_, p, s⟩ := h.ex; ⟨_, pe_one p, s⟩
theorem de_and (h : DE X cm E a da) (h' : DE X cm E (.BoolOp .And (b :: rest) pos) db) : DE X cm E (.BoolOp .And (a :: b :: rest) pos) (dAndV da db) := let ⟨_, p, s⟩ := h.ex; let ⟨_, p', s'⟩ := h'.ex; ⟨_, pe_and p p', snd_andV s s'⟩
theorem de_or (h : DE X cm E a da) (h' : DE X cm E (.BoolOp .Or (b :: rest) pos) db) : DE X cm E (.BoolOp .Or (a :: b :: rest) pos) (dOrV da db) := let ⟨_, p, s⟩ := h.ex; let ⟨_, p', s'⟩ := h'.ex; ⟨_, pe_or p p', snd_orV s s'⟩
theorem de_not (h : DE X cm E a da) : DE X cm E (.UnaryOp .Not a pos) (dNotV da) := let ⟨_, p, s⟩ := h.ex; ⟨_, pe_not p, snd_notV s⟩
/-- a if t else b -/
def dIf (t : DTv) (a b : DEv) : DEv := fun st S => (t st S).bind fun k S1 => if k = true then a st S1 else b st S1
theorem snd_if {K : PySem.W.Frag} {t : TT} {ta tb : TE} {x : DTv} (s : SndT K cm E t x) (s1 : Snd K cm E ta da) (s2 : Snd K cm E tb db) : Snd K cm E (tIf t ta tb) (dIf x da db) := fun A c st σ Q rel loc h =>
  s A c st σ _ rel loc (Post.seq h fun k k' c1 _ x1 rel1 rk h1 => by
    cases rk
    cases k with
    | true => exact s1 A c1 st σ Q rel1 (loc.mono x1) h1
    | false => exact s2 A c1 st σ Q rel1 (loc.mono x1) h1)
theorem de_if {t : Expr} {x : DTv} (h : DT X cm E t x) (h1 : DE X cm E a da) (h2 : DE X cm E b db) : DE X cm E (.IfExp t a b pos) (dIf x da db) :=
  let ⟨_, p, s⟩ := h.ex; let ⟨_, p1, s1⟩ := h1.ex; let ⟨_, p2, s2⟩ := h2.ex; ⟨_, pe_ifExp p p1 p2, snd_if s s1 s2⟩
/-- an operator with one operand -/
def UnS (K : PySem.W.Frag) (cm : String → Addr → Prop) (r : V → Hp → VK → Prop) (f : D → Store → R D) : Prop := ∀ (A : Addr → Prop) (c : Cfg) (x : D) (v : V) (Q : VK), RelC ⟨K, cm, A⟩ c → Rp ⟨K, cm, A⟩ c x v → Post ⟨K, cm, A⟩ (fun _ _ _ => False) (Rp ⟨K, cm, A⟩) c Q (f x c.S) → r v c.H Q
def NoErr1 (f : D → Store → R D) : Prop := ∀ x S, R.calm (f x S)
def dUn (f : D → Store → R D) (a : DEv) : DEv := fun st S => (a st S).bind fun x S1 => f x S1
theorem snd_un {K : PySem.W.Frag} {r : V → Hp → VK → Prop} {f : D → Store → R D} {ta : TE} (hs : UnS K cm r f) (ne : NoErr1 f) (sa : Snd K cm E ta da) : Snd K cm E (tUn r ta) (dUn f da) := fun A c st σ Q rel loc h =>
  sa A c st σ _ rel loc (Post.seq h fun x v c1 _ x1 rel1 rx h1 => hs A c1 x v Q rel1 rx (h1.noerr (ne x c1.S)))
theorem de_un {op : UnaryOp} {r : V → Hp → VK → Prop} {f : D → Store → R D} (ho : UnR X (unaryOp op) r) (hs : UnS X.K cm r f) (ne : NoErr1 f) (ha : DE X cm E a da) : DE X cm E (.UnaryOp op a pos) (dUn f da) := by
  obtain ⟨ta, pa, sa⟩ := ha.ex
  exact ⟨_, pe_un ho pa, snd_un hs ne sa⟩

/-! ### arguments, displays -/
def dNil : DAv := fun _ S => .ok [] S
def dCons (a : DEv) (r : DAv) : DAv := fun st S => (a st S).bind fun x S1 => (r st S1).bind fun xs S2 => .ok (x :: xs) S2
variable {es : List Expr} {dr : DAv}
theorem snd_nil {K : PySem.W.Frag} : SndA K cm E tNil dNil := fun A c st σ Q rel loc h => h.here rel rfl
theorem snd_cons {K : PySem.W.Frag} {ta : TE} {tr : TA} (sa : Snd K cm E ta da) (sr : SndA K cm E tr dr) : SndA K cm E (tCons ta tr) (dCons da dr) := fun A c st σ Q rel loc h =>
  sa A c st σ _ rel loc (Post.seq h fun x v c1 _ x1 rel1 rx h1 => sr A c1 st σ _ rel1 (loc.mono x1) (Post.seq h1 fun xs vs c2 _ x2 rel2 rxs h2 => h2.here rel2 ⟨v, vs, rfl, Rp.mono x2 x v rx, rxs⟩))
theorem da_nil : DA X cm E [] dNil := ⟨_, pa_nil, snd_nil⟩
theorem da_cons (ha : DE X cm E a da) (hr : DA X cm E es dr) (hs : starEach (a :: es) X.env = (false, eval a X.env) :: starEach es X.env := by rfl) : DA X cm E (a :: es) (dCons da dr) := let ⟨_, p, s⟩ := ha.ex; let ⟨_, p', s'⟩ := hr.ex; ⟨_, pa_cons p p' hs, snd_cons s s'⟩
theorem RpA.length {G : Gam} {c : Cfg} : ∀ {xs : List D} {vs : List V}, RpA G c xs vs → xs.length = vs.length
  | [], _, h => by cases h; rfl
  | _ :: _, _, ⟨v, r, e, _, t⟩ => by rw [e, List.length_cons, List.length_cons, RpA.length t]
/-- a display of items, at most so many -/
def dTup (r : DAv) : DEv := fun st S => (r st S).bind fun xs S1 => if xs.length ≤ 1000 then .ok (.tup xs) S1 else .no
def dLst (r : DAv) : DEv := fun st S => (r st S).bind fun xs S1 => if xs.length ≤ 1000 then .ok (.lst xs) S1 else .no
/-- .. that will be changed -/
def dLstM (r : DAv) : DEv := fun st S => (r st S).bind fun xs S1 => if xs.length ≤ 1000 then .ok (.loc S1.length) (S1 ++ [.lst xs]) else .no
theorem line1000 : (1000 : Nat) ≤ sizeLine := by decide
theorem snd_tup {K : PySem.W.Frag} {tr : TA} (sr : SndA K cm E tr dr) : Snd K cm E (tTup tr) (dTup dr) := fun A c st σ Q rel loc h =>
  sr A c st σ _ rel loc (Post.seq h fun xs vs c1 _ x1 rel1 rxs h1 => by
    split at h1
    · rename_i hl
      refine ⟨by rw [← rxs.length]; exact Nat.le_trans hl line1000, fun p hp => ?_⟩
      have x2 : Ext c1 ⟨c1.φ, c1.S, upd c1.H p (.tup vs)⟩ := Ext.lay rel1 hp
      exact h1 _ ⟨c1.φ, c1.S, upd c1.H p (.tup vs)⟩ rfl x2 (rel1.lay hp) ⟨p, vs, rfl, own_new rel1 hp, upd_same, RpA.mono x2 xs vs rxs⟩
    · exact h1.elim)
theorem snd_lst {K : PySem.W.Frag} {tr : TA} (sr : SndA K cm E tr dr) : Snd K cm E (tLst tr) (dLst dr) := fun A c st σ Q rel loc h =>
  sr A c st σ _ rel loc (Post.seq h fun xs vs c1 _ x1 rel1 rxs h1 => by
    split at h1
    · rename_i hl
      refine ⟨by rw [← rxs.length]; exact Nat.le_trans hl line1000, fun p hp => ?_⟩
      have x2 : Ext c1 ⟨c1.φ, c1.S, upd c1.H p (.lst vs)⟩ := Ext.lay rel1 hp
      exact h1 _ ⟨c1.φ, c1.S, upd c1.H p (.lst vs)⟩ rfl x2 (rel1.lay hp) ⟨p, vs, rfl, own_new rel1 hp, upd_same, RpA.mono x2 xs vs rxs⟩
    · exact h1.elim)
theorem snd_lstM {K : PySem.W.Frag} {tr : TA} (sr : SndA K cm E tr dr) : Snd K cm E (tLst tr) (dLstM dr) := fun A c st σ Q rel loc h =>
  sr A c st σ _ rel loc (Post.seq h fun xs vs c1 _ x1 rel1 rxs h1 => by
    split at h1
    · rename_i hl
      refine ⟨by rw [← rxs.length]; exact Nat.le_trans hl line1000, fun p hp => ?_⟩
      have x2 : Ext c1 ⟨c1.φ ++ [p], c1.S ++ [.lst xs], upd c1.H p (.lst vs)⟩ := Ext.push rel1 hp
      exact h1 _ ⟨c1.φ ++ [p], c1.S ++ [.lst xs], upd c1.H p (.lst vs)⟩ rfl x2 (rel1.push (o := .lst xs) hp (notA_new rel1 hp) ⟨vs, upd_same, RpA.mono x2 xs vs rxs⟩) ⟨p, rfl, by show (c1.φ ++ [p])[c1.S.length]? = _; rw [← rel1.len]; simp⟩
    · exact h1.elim)
theorem de_tup {x1} (h : DA X cm E es dr) : DE X cm E (.Tuple es x1 pos) (dTup dr) := let ⟨_, p, s⟩ := h.ex; ⟨_, pe_tup p, snd_tup s⟩
theorem de_lst (h : DA X cm E es dr) : DE X cm E (.List es pos) (dLst dr) := let ⟨_, p, s⟩ := h.ex; ⟨_, pe_lst p, snd_lst s⟩
theorem de_lstM (h : DA X cm E es dr) : DE X cm E (.List es pos) (dLstM dr) := let ⟨_, p, s⟩ := h.ex; ⟨_, pe_lst p, snd_lstM s⟩

/-! ### operators by values -/
variable {K : PySem.W.Frag}
theorem Post.newT {G : Gam} {E : XK} {c : Cfg} {Q : VK} {xs : List D} {vs : List V} (h : Post G E (Rp G) c Q (.ok (.tup xs) c.S)) (rel : RelC G c) (r : RpA G c xs vs) (p : Addr) (hp : c.H p = none) : Q (.ref p) (upd c.H p (.tup vs)) :=
  have x : Ext c ⟨c.φ, c.S, upd c.H p (.tup vs)⟩ := Ext.lay rel hp
  h _ ⟨c.φ, c.S, upd c.H p (.tup vs)⟩ rfl x (rel.lay hp) ⟨p, vs, rfl, own_new rel hp, upd_same, RpA.mono x xs vs r⟩
theorem Post.newL {G : Gam} {E : XK} {c : Cfg} {Q : VK} {xs : List D} {vs : List V} (h : Post G E (Rp G) c Q (.ok (.lst xs) c.S)) (rel : RelC G c) (r : RpA G c xs vs) (p : Addr) (hp : c.H p = none) : Q (.ref p) (upd c.H p (.lst vs)) :=
  have x : Ext c ⟨c.φ, c.S, upd c.H p (.lst vs)⟩ := Ext.lay rel hp
  h _ ⟨c.φ, c.S, upd c.H p (.lst vs)⟩ rfl x (rel.lay hp) ⟨p, vs, rfl, own_new rel hp, upd_same, RpA.mono x xs vs r⟩
/-- what stands at an address of the store -/
theorem Rp.obj {G : Gam} {c : Cfg} {n : Nat} {v : V} {o : O} (rel : RelC G c) (r : Rp G c (.loc n) v) (e : c.S[n]? = some o) : ∃ a, v = .ref a ∧ c.φ[n]? = some a ∧ OOk G c a o := let ⟨a, e1, h⟩ := r; ⟨a, e1, h, rel.obj n a o h e⟩
/-- the items of a list -/
def lsOf (S : Store) : D → Option (List D)
  | .lst xs => some xs
  | .scr xs => some xs
  | .loc n => match S[n]? with
    | some (.lst xs) => some xs
    | some (.frz xs) => some xs
    | _ => none
  | _ => none
/-- .. that is no locked one -/
def lsOfH (S : Store) : D → Option (List D)
  | .lst xs => some xs
  | .loc n => match S[n]? with
    | some (.lst xs) => some xs
    | _ => none
  | _ => none
theorem lsOf_rep {G : Gam} {c : Cfg} {d : D} {v : V} {xs : List D} (rel : RelC G c) (r : Rp G c d v) (e : lsOf c.S d = some xs) : ∃ a vs, v = .ref a ∧ SqL G.K c.H a vs ∧ RpA G c xs vs := by
  cases d with
  | lst ys =>
    cases e
    obtain ⟨a, vs, e1, _, h, t⟩ := r
    exact ⟨a, vs, e1, .inl (.inl h), t⟩
  | scr ys =>
    cases e
    obtain ⟨a, vs, e1, q, t⟩ := r
    refine ⟨a, vs, e1, ?_, t⟩
    rcases q with ⟨_, o, h⟩ | h
    · exact .inl (.inr ⟨o, h⟩)
    · rcases h with (h | ⟨o, h⟩) | h
      · cases h
      · cases h
      · exact .inr h
  | loc n =>
    have e : (match c.S[n]? with
      | some (.lst xs) => some xs
      | some (.frz xs) => some xs
      | _ => none) = some xs := e
    split at e
    · rename_i ys hy
      cases e
      obtain ⟨a, e1, _, vs, h, t⟩ := Rp.obj rel r hy
      exact ⟨a, vs, e1, .inl (.inl h), t⟩
    · rename_i ys hy
      cases e
      obtain ⟨a, e1, _, o, vs, h, t⟩ := Rp.obj rel r hy
      exact ⟨a, vs, e1, .inl (.inr ⟨o, h⟩), t⟩
    · cases e
  | _ => cases e
theorem lsOfH_rep {G : Gam} {c : Cfg} {d : D} {v : V} {xs : List D} (rel : RelC G c) (r : Rp G c d v) (e : lsOfH c.S d = some xs) : ∃ a vs, v = .ref a ∧ c.H a = some (.lst vs) ∧ RpA G c xs vs := by
  cases d with
  | lst ys =>
    cases e
    obtain ⟨a, vs, e1, _, h, t⟩ := r
    exact ⟨a, vs, e1, h, t⟩
  | loc n =>
    have e : (match c.S[n]? with
      | some (.lst xs) => some xs
      | _ => none) = some xs := e
    split at e
    · rename_i ys hy
      cases e
      obtain ⟨a, e1, _, vs, h, t⟩ := Rp.obj rel r hy
      exact ⟨a, vs, e1, h, t⟩
    · cases e
  | _ => cases e
/-- the items of a list or tuple -/
def sqOf (S : Store) : D → Option (List D)
  | .tup xs => some xs
  | d => lsOf S d
theorem sqOf_rep {G : Gam} {c : Cfg} {d : D} {v : V} {xs : List D} (rel : RelC G c) (r : Rp G c d v) (e : sqOf c.S d = some xs) : ∃ a vs, v = .ref a ∧ (SqL G.K c.H a vs ∨ SqT G.K c.H a vs) ∧ RpA G c xs vs := by
  have go : lsOf c.S d = some xs → ∃ a vs, v = .ref a ∧ (SqL G.K c.H a vs ∨ SqT G.K c.H a vs) ∧ RpA G c xs vs := fun e => let ⟨a, vs, e1, h, t⟩ := lsOf_rep rel r e; ⟨a, vs, e1, .inl h, t⟩
  cases d with
  | tup ys =>
    cases e
    obtain ⟨a, vs, e1, _, h, t⟩ := r
    exact ⟨a, vs, e1, .inr (.inl (.inl h)), t⟩
  | _ => exact go e
theorem RpA.nil_iff {G : Gam} {c : Cfg} {xs : List D} {vs : List V} (r : RpA G c xs vs) : vs = [] ↔ xs = [] := by
  have := RpA.length r
  constructor <;> intro h <;> rw [h] at this
  · exact List.eq_nil_of_length_eq_zero this
  · exact List.eq_nil_of_length_eq_zero this.symm
theorem RpA.append {G : Gam} {c : Cfg} : ∀ {xs ys : List D} {vs ws : List V}, RpA G c xs vs → RpA G c ys ws → RpA G c (xs ++ ys) (vs ++ ws)
  | [], _, _, _, h, h' => by cases h; exact h'
  | _ :: _, _, _, _, ⟨v, r, e, h, t⟩, h' => ⟨v, r ++ _, by rw [e]; rfl, h, RpA.append t h'⟩
theorem RpA.drop {G : Gam} {c : Cfg} : ∀ {xs : List D} {vs : List V} (n : Nat), RpA G c xs vs → RpA G c (xs.drop n) (vs.drop n)
  | [], _, n, h => by cases h; simp; exact rfl
  | _ :: _, _, 0, h => h
  | _ :: _, _, n + 1, ⟨v, r, e, h, t⟩ => by rw [e]; exact RpA.drop n t
theorem RpA.take {G : Gam} {c : Cfg} : ∀ {xs : List D} {vs : List V} (n : Nat), RpA G c xs vs → RpA G c (xs.take n) (vs.take n)
  | [], _, n, h => by cases h; simp; exact rfl
  | _ :: _, _, 0, h => by simp; exact rfl
  | _ :: _, _, n + 1, ⟨v, r, e, h, t⟩ => by rw [e]; exact ⟨v, _, rfl, h, RpA.take n t⟩
theorem RpA.get {G : Gam} {c : Cfg} : ∀ {xs : List D} {vs : List V} {i : Nat} {x : D}, RpA G c xs vs → xs[i]? = some x → ∃ v, vs[i]? = some v ∧ Rp G c x v
  | [], _, _, _, _, e => by simp at e
  | _ :: _, _, 0, _, ⟨v, r, e, h, t⟩, e1 => by
    simp at e1
    subst e1
    exact ⟨v, by rw [e]; rfl, h⟩
  | _ :: _, _, i + 1, _, ⟨v, r, e, h, t⟩, e1 => by
    obtain ⟨w, h1, h2⟩ := RpA.get (i := i) t (by simpa using e1)
    exact ⟨w, by rw [e]; simpa using h1, h2⟩
theorem RpA.set {G : Gam} {c : Cfg} {x : D} {v : V} (rx : Rp G c x v) : ∀ {xs : List D} {vs : List V} (i : Nat), RpA G c xs vs → RpA G c (xs.set i x) (vs.set i v)
  | [], _, _, h => by cases h; exact rfl
  | _ :: _, _, 0, ⟨_, r, e, _, t⟩ => by rw [e]; exact ⟨v, r, rfl, rx, t⟩
  | _ :: _, _, i + 1, ⟨u, r, e, h, t⟩ => by rw [e]; exact ⟨u, _, rfl, h, RpA.set rx i t⟩
theorem RpA.at {G : Gam} {c : Cfg} {xs : List D} {vs : List V} {i : Int} {x : D} (h : RpA G c xs vs) (e : atI xs i = some x) : ∃ v, atI vs i = some v ∧ Rp G c x v := by
  unfold atI at e ⊢
  rw [← h.length]
  cases q : ixN xs.length i with
  | none => rw [q] at e; cases e
  | some j =>
    rw [q] at e
    exact h.get e
/-- + -/
def addV : D → D → Store → R D
  | .int i, .int j, S => .ok (.int (i + j)) S
  | .str x, .str y, S => if x.length + y.length ≤ 1000000 then .ok (.str (x ++ y)) S else .no
  | .tup xs, .tup ys, S => if xs.length + ys.length ≤ 1000000 then .ok (.tup (xs ++ ys)) S else .no
  | x, y, S => match lsOfH S x, lsOfH S y with
    | some xs, some ys => if xs.length + ys.length ≤ 1000000 then .ok (.lst (xs ++ ys)) S else .no
    | _, _ => .no
def rAddU (K : PySem.W.Frag) : R2 := fun x y H Q => (∃ i j, x = .int i ∧ y = .int j ∧ Q (.int (i + j)) H) ∨ (∃ i j, x = .str i ∧ y = .str j ∧ i.length + j.length ≤ sizeLine ∧ Q (.str (i ++ j)) H) ∨ rCatA K x y H Q ∨ rCat x y H Q
theorem op_addU : OpR X (binaryOp .Add) (rAddU X.K) := op_add.or (op_add_str.or (op_catA.or op_cat))
theorem million : (1000000 : Nat) ≤ sizeLine := by decide
theorem strOk_app {x y : Str} (hx : PySem.PyData.strOk x = true) (hy : PySem.PyData.strOk y = true) : PySem.PyData.strOk (x ++ y) = true := by
  show (x.cps ++ y.cps).all _ = true
  rw [Array.all_append]
  exact Bool.and_eq_true_iff.mpr ⟨hx, hy⟩
theorem str_app_len (x y : Str) : (x ++ y).length = x.length + y.length := by
  show (x.cps ++ y.cps).size = _
  rw [Array.size_append]
  rfl
theorem addV_s : OpS K cm (rAddU K) addV := fun A c x y v w Q rel rx ry h => by
  have lists : ∀ {x y : D}, Rp ⟨K, cm, A⟩ c x v → Rp ⟨K, cm, A⟩ c y w → Post ⟨K, cm, A⟩ (fun _ _ _ => False) (Rp ⟨K, cm, A⟩) c Q (match lsOfH c.S x, lsOfH c.S y with
    | some xs, some ys => if xs.length + ys.length ≤ 1000000 then .ok (.lst (xs ++ ys)) c.S else .no
    | _, _ => .no) → rAddU K v w c.H Q := fun {x y} rx ry h => by
    split at h
    · rename_i xs ys h1 h2
      obtain ⟨a, vs, e1, g1, t1⟩ := lsOfH_rep rel rx h1
      obtain ⟨b, ws, e2, g2, t2⟩ := lsOfH_rep rel ry h2
      split at h
      · rename_i hl
        exact .inr (.inr (.inr ⟨a, b, vs, ws, e1, e2, g1, g2, by rw [← t1.length, ← t2.length]; exact Nat.le_trans hl million, h.newL rel (t1.append t2)⟩))
      · exact h.elim
    · exact h.elim
  unfold addV at h
  split at h
  · exact .inl ⟨_, _, rx, ry, h.here rel rfl⟩
  · split at h
    · rename_i hl
      exact .inr (.inl ⟨_, _, rx.1, ry.1, Nat.le_trans hl million, h.here rel ⟨rfl, strOk_app rx.2.1 ry.2.1, by rw [str_app_len]; exact Nat.le_trans hl million⟩⟩)
    · exact h.elim
  · rename_i xs ys
    split at h
    · rename_i hl
      obtain ⟨a, vs, e1, n1, g1, t1⟩ := id rx
      obtain ⟨b, ws, e2, n2, g2, t2⟩ := id ry
      refine .inr (.inr (.inl ⟨a, b, vs, ws, e1, e2, .inl (.inl g1), .inl (.inl g2), by rw [← t1.length, ← t2.length]; exact Nat.le_trans hl million, fun z => ?_, fun z z' => ?_, fun _ _ => h.newT rel (t1.append t2)⟩))
      · have : xs = [] := t1.nil_iff.mp z
        rw [this] at h
        rw [← e2]
        exact h.here rel ry
      · have : ys = [] := t2.nil_iff.mp z'
        rw [this, List.append_nil] at h
        rw [← e1]
        exact h.here rel rx
    · exact h.elim
  · exact lists rx ry h
theorem addV_n : NoErr addV := fun x y S => by
  unfold addV
  split <;> (try split) <;> (try split) <;> exact True.intro
theorem de_add (ha : DE X cm E a da) (hb : DE X cm E b db) : DE X cm E (.BinOp a .Add b pos) (dOp addV da db) := de_op op_addU addV_s addV_n ha hb
def subV : D → D → Store → R D
  | .int i, .int j, S => .ok (.int (i - j)) S
  | _, _, _ => .no
theorem intOp_s {f : D → D → Store → R D} {g : Int → Int → V} (hf : ∀ x y S, f x y S = match x, y with | .int i, .int j => (match g i j with | .int k => .ok (.int k) S | .bl k => .ok (.bl k) S | _ => .no) | _, _ => .no) : OpS K cm (rI0 g) f := fun A c x y v w Q rel rx ry h => by
  rw [hf] at h
  split at h
  · split at h
    · rename_i k e
      exact ⟨_, _, rx, ry, by rw [e]; exact h.here rel rfl⟩
    · rename_i k e
      exact ⟨_, _, rx, ry, by rw [e]; exact h.here rel rfl⟩
    · exact h.elim
  · exact h.elim
theorem subV_s : OpS K cm (rI0 fun i j => .int (i - j)) subV := intOp_s fun x y S => by cases x <;> cases y <;> rfl
theorem subV_n : NoErr subV := fun x y S => by unfold subV; split <;> exact True.intro
theorem de_sub (ha : DE X cm E a da) (hb : DE X cm E b db) : DE X cm E (.BinOp a .Sub b pos) (dOp subV da db) := de_op op_sub subV_s subV_n ha hb
/-- * of ints: one of them within 2 ^ 64 -/
def CMulB (i j : Int) : Bool := (decide (-(2 ^ 64) < i) && decide (i < 2 ^ 64)) || (decide (-(2 ^ 64) < j) && decide (j < 2 ^ 64))
def mulV : D → D → Store → R D
  | .int i, .int j, S => if CMulB i j = true then .ok (.int (i * j)) S else .no
  | _, _, _ => .no
theorem mulV_s : OpS K cm (rI CMul fun i j => .int (i * j)) mulV := fun A c x y v w Q rel rx ry h => by
  unfold mulV at h
  split at h
  · split at h
    · rename_i hl
      refine ⟨_, _, rx, ry, ?_, h.here rel rfl⟩
      unfold CMulB at hl
      rcases Bool.or_eq_true_iff.mp hl with z | z
      · exact .inl ⟨of_decide_eq_true (Bool.and_eq_true_iff.mp z).1, of_decide_eq_true (Bool.and_eq_true_iff.mp z).2⟩
      · exact .inr ⟨of_decide_eq_true (Bool.and_eq_true_iff.mp z).1, of_decide_eq_true (Bool.and_eq_true_iff.mp z).2⟩
    · exact h.elim
  · exact h.elim
theorem mulV_n : NoErr mulV := fun x y S => by unfold mulV; split <;> (try split) <;> exact True.intro
theorem de_mul (ha : DE X cm E a da) (hb : DE X cm E b db) : DE X cm E (.BinOp a .Mult b pos) (dOp mulV da db) := de_op op_mul mulV_s mulV_n ha hb
def huge : Int := 10 ^ 1000
theorem lt_huge {i : Int} (h : i < 10 ^ 60) : i < huge := Int.lt_trans h (by decide +kernel)
def divV : D → D → Store → R D
  | .int i, .int j, S => if 0 < j ∧ j < huge then .ok (.int (i / j)) S else .no
  | _, _, _ => .no
theorem ten1000 {j : Int} (h0 : 0 < j) (h : j < huge) : j.natAbs < 2 ^ 8000 := by
  have e : huge = ((10 ^ 1000 : Nat) : Int) := by decide +kernel
  rw [e] at h
  have h1 : j.natAbs < 10 ^ 1000 := by
    generalize (10 ^ 1000 : Nat) = x at h ⊢
    omega
  exact Nat.lt_trans h1 (by decide +kernel)
theorem divV_s : OpS K cm (rI CDivW fun i j => .int (i / j)) divV := fun A c x y v w Q rel rx ry h => by
  unfold divV at h
  split at h
  · split at h
    · rename_i hl
      exact ⟨_, _, rx, ry, wide_div hl.1 (ten1000 hl.1 hl.2) (by decide) (by decide), h.here rel rfl⟩
    · exact h.elim
  · exact h.elim
theorem divV_n : NoErr divV := fun x y S => by unfold divV; split <;> (try split) <;> exact True.intro
theorem de_div (ha : DE X cm E a da) (hb : DE X cm E b db) : DE X cm E (.BinOp a .FloorDiv b pos) (dOp divV da db) := de_op op_fdivW divV_s divV_n ha hb
def modV : D → D → Store → R D
  | .int i, .int j, S => if 0 < j then .ok (.int (i % j)) S else .no
  | _, _, _ => .no
theorem modV_s : OpS K cm (rI (fun _ j => 0 < j) fun i j => .int (i % j)) modV := fun A c x y v w Q rel rx ry h => by
  unfold modV at h
  split at h
  · split at h
    · rename_i hl
      exact ⟨_, _, rx, ry, hl, h.here rel rfl⟩
    · exact h.elim
  · exact h.elim
theorem modV_n : NoErr modV := fun x y S => by unfold modV; split <;> (try split) <;> exact True.intro
theorem de_mod (ha : DE X cm E a da) (hb : DE X cm E b db) : DE X cm E (.BinOp a .Mod b pos) (dOp modV da db) := de_op op_mod modV_s modV_n ha hb
def powV : D → D → Store → R D
  | .int i, .int j, S => if 0 ≤ j ∧ j ≤ 1000 ∧ 0 ≤ i ∧ i ≤ 1000 then .ok (.int (i ^ j.toNat)) S else .no
  | _, _, _ => .no
theorem powV_s : OpS K cm (rI CPow fun i j => .int (i ^ j.toNat)) powV := fun A c x y v w Q rel rx ry h => by
  unfold powV at h
  split at h
  · split at h
    · rename_i hl
      exact ⟨_, _, rx, ry, ⟨hl.1, by omega, Nat.lt_of_le_of_lt (show _ ≤ 1000 by omega) (by decide)⟩, h.here rel rfl⟩
    · exact h.elim
  · exact h.elim
theorem powV_n : NoErr powV := fun x y S => by unfold powV; split <;> (try split) <;> exact True.intro
theorem de_pow (ha : DE X cm E a da) (hb : DE X cm E b db) : DE X cm E (.BinOp a .Pow b pos) (dOp powV da db) := de_op op_pow powV_s powV_n ha hb
def negV : D → Store → R D
  | .int i, S => .ok (.int (-i)) S
  | _, _ => .no
theorem de_neg (ha : DE X cm E a da) : DE X cm E (.UnaryOp .USub a pos) (dUn negV da) := de_un un_neg (fun A c x v Q rel rx h => by
  unfold negV at h
  split at h
  · exact ⟨_, rx, h.here rel rfl⟩
  · exact h.elim) (fun x S => by unfold negV; split <;> exact True.intro) ha

/-! ### comparisons -/
/-- <, <=, >, >= of ints and of texts -/
def cmpV (f : Int → Int → Bool) (g : List Nat → List Nat → Bool) : D → D → Store → R D
  | .int i, .int j, S => .ok (.bl (f i j)) S
  | .str x, .str y, S => .ok (.bl (g x.cps.toList y.cps.toList)) S
  | _, _, _ => .no
def ltN (x y : List Nat) : Bool := decide (x < y)
abbrev ltV := cmpV (fun i j => decide (i < j)) ltN
abbrev leV := cmpV (fun i j => decide (i ≤ j)) fun x y => !ltN y x
abbrev gtV := cmpV (fun i j => decide (j < i)) fun x y => ltN y x
abbrev geV := cmpV (fun i j => decide (j ≤ i)) fun x y => !ltN x y
def rCmpU (f : Int → Int → Bool) (g : List Nat → List Nat → Bool) : R2 := fun x y H Q => (∃ i j, x = .int i ∧ y = .int j ∧ Q (.bl (f i j)) H) ∨ (∃ i j : Str, x = .str i ∧ y = .str j ∧ Q (.bl (g i.cps.toList j.cps.toList)) H)
theorem cmpV_s {f : Int → Int → Bool} {g : List Nat → List Nat → Bool} : OpS K cm (rCmpU f g) (cmpV f g) := fun A c x y v w Q rel rx ry h => by
  unfold cmpV at h
  split at h
  · exact .inl ⟨_, _, rx, ry, h.here rel rfl⟩
  · exact .inr ⟨_, _, rx.1, ry.1, h.here rel rfl⟩
  · exact h.elim
theorem cmpV_n {f : Int → Int → Bool} {g : List Nat → List Nat → Bool} : NoErr (cmpV f g) := fun x y S => by unfold cmpV; split <;> exact True.intro
theorem op_ltU : OpR X (compareOp .Lt) (rCmpU (fun i j => decide (i < j)) ltN) := op_lt.or op_lt_str
theorem op_leU : OpR X (compareOp .LtE) (rCmpU (fun i j => decide (i ≤ j)) fun x y => !ltN y x) := op_le.or op_le_str
theorem op_gtU : OpR X (compareOp .Gt) (rCmpU (fun i j => decide (j < i)) fun x y => ltN y x) := op_gt.or op_gt_str
theorem op_geU : OpR X (compareOp .GtE) (rCmpU (fun i j => decide (j ≤ i)) fun x y => !ltN x y) := op_ge.or op_ge_str
/-! data that can be compared: no lists of the store within -/
mutual
def toPy : D → Option PyData
  | .non => some .none
  | .bl b => some (.bool b)
  | .int i => some (.int i)
  | .str x => some (.str x)
  | .tup xs => (toPyA xs).map .tuple
  | .lst xs => (toPyA xs).map .list
  | .loc _ => none
  | .ty _ => none
  | .scr _ => none
  | .dct _ _ => none
  | .cod _ => none
def toPyA : List D → Option (List PyData)
  | [] => some []
  | x :: xs => match toPy x, toPyA xs with
    | some d, some ds => some (d :: ds)
    | _, _ => none
end
def toPyS (S : Store) : D → Option PyData
  | .loc n => match S[n]? with
    | some (.lst xs) => (toPyA xs).map .list
    | some (.frz xs) => (toPyA xs).map .list
    | _ => none
  | d => toPy d
mutual
theorem toPy_rep {G : Gam} {c : Cfg} : ∀ (d : D) (v : V) (p : PyData), Rp G c d v → toPy d = some p → Dp G.K c.H v p ∧ p.canLay0 = true
  | .non, _, _, r, e => by
    cases r
    cases e
    exact ⟨.non, rfl⟩
  | .bl b, _, _, r, e => by
    cases r
    cases e
    exact ⟨.bl b, rfl⟩
  | .int i, _, _, r, e => by
    cases r
    cases e
    exact ⟨.int i, rfl⟩
  | .str x, _, _, r, e => by
    obtain ⟨r, h, _⟩ := r
    cases r
    cases e
    exact ⟨.str x, h⟩
  | .tup xs, _, _, ⟨a, vs, e1, _, h, t⟩, e => by
    subst e1
    unfold toPy at e
    obtain ⟨ps, e2, e3⟩ := Option.map_eq_some_iff.mp e
    subst e3
    obtain ⟨q, k⟩ := toPyA_rep xs vs ps t e2
    exact ⟨.tup (.inl (.inl h)) q, k⟩
  | .lst xs, _, _, ⟨a, vs, e1, _, h, t⟩, e => by
    subst e1
    unfold toPy at e
    obtain ⟨ps, e2, e3⟩ := Option.map_eq_some_iff.mp e
    subst e3
    obtain ⟨q, k⟩ := toPyA_rep xs vs ps t e2
    exact ⟨.lst (.inl (.inl h)) q, k⟩
  | .loc _, _, _, _, e => by cases e
  | .ty _, _, _, _, e => by cases e
  | .scr _, _, _, _, e => by cases e
  | .dct _ _, _, _, _, e => by cases e
  | .cod _, _, _, _, e => by cases e
theorem toPyA_rep {G : Gam} {c : Cfg} : ∀ (ds : List D) (vs : List V) (ps : List PyData), RpA G c ds vs → toPyA ds = some ps → DpAll G.K c.H vs ps ∧ PyData.canLayAll0 ps = true
  | [], _, _, r, e => by
    cases r
    cases e
    exact ⟨.nil, rfl⟩
  | d :: ds, _, ps, ⟨v, vs, e1, h, t⟩, e => by
    subst e1
    unfold toPyA at e
    split at e
    · rename_i p qs e2 e3
      cases e
      obtain ⟨h1, h2⟩ := toPy_rep d v p h e2
      obtain ⟨h3, h4⟩ := toPyA_rep ds vs qs t e3
      refine ⟨.cons h1 h3, ?_⟩
      show (p.canLay0 && PyData.canLayAll0 qs) = true
      rw [h2, h4]
      rfl
    · cases e
end
theorem toPyS_rep {G : Gam} {c : Cfg} {d : D} {v : V} {p : PyData} (rel : RelC G c) (r : Rp G c d v) (e : toPyS c.S d = some p) : Dp G.K c.H v p ∧ p.canLay0 = true := by
  have list : ∀ {xs : List D}, lsOf c.S d = some xs → (toPyA xs).map PyData.list = some p → Dp G.K c.H v p ∧ p.canLay0 = true := fun {xs} h1 h2 => by
    obtain ⟨a, vs, e1, g, t⟩ := lsOf_rep rel r h1
    obtain ⟨ps, e2, e3⟩ := Option.map_eq_some_iff.mp h2
    subst e3
    obtain ⟨q, k⟩ := toPyA_rep xs vs ps t e2
    rw [e1]
    exact ⟨.lst g q, k⟩
  cases d with
  | loc n =>
    have e : (match c.S[n]? with
      | some (.lst xs) => (toPyA xs).map PyData.list
      | some (.frz xs) => (toPyA xs).map PyData.list
      | _ => none) = some p := e
    split at e
    · rename_i xs hx
      exact list (xs := xs) (by simp only [lsOf, hx]) e
    · rename_i xs hx
      exact list (xs := xs) (by simp only [lsOf, hx]) e
    · cases e
  | _ => exact toPy_rep _ v p r e
/-- ==, != of data -/
def eqV (x y : D) (S : Store) : R D := match toPyS S x, toPyS S y with
  | some d, some e => if min d.depth e.depth ≤ 64 then .ok (.bl (PyData.eqv d e)) S else .no
  | _, _ => .no
def neV (x y : D) (S : Store) : R D := match toPyS S x, toPyS S y with
  | some d, some e => if min d.depth e.depth ≤ 64 then .ok (.bl (!PyData.eqv d e)) S else .no
  | _, _ => .no
def rEqM (K : PySem.W.Frag) (f : Bool → Bool) : R2 := fun x y H Q => ∃ d e, Dp K H x d ∧ Dp K H y e ∧ d.canLay0 = true ∧ e.canLay0 = true ∧ min d.depth e.depth ≤ 64 ∧ Q (.bl (f (PyData.eqv d e))) H
theorem op_eqM (hu : X.A.units + 64 < cLine) : OpR X (compareOp .Eq) (rEqM X.K id) := by
  intro pins s σ H x y v u Q I rx ry h
  obtain ⟨d, e, hd, he, sd, se, m, q⟩ := h
  obtain ⟨as, r1⟩ := Dp.reads I d x v hd rx
  obtain ⟨bs, r2⟩ := Dp.reads I e y u he ry
  exact SeqAt.compareEq_reads r1 r2 sd se (by omega) ⟨.bl _, H, I, rfl, q⟩
theorem op_neM (hu : X.A.units + 64 < cLine) : OpR X (compareOp .NotEq) (rEqM X.K not) := by
  intro pins s σ H x y v u Q I rx ry h
  obtain ⟨d, e, hd, he, sd, se, m, q⟩ := h
  obtain ⟨as, r1⟩ := Dp.reads I d x v hd rx
  obtain ⟨bs, r2⟩ := Dp.reads I e y u he ry
  exact SeqAt.compareNe_reads r1 r2 sd se (by omega) ⟨.bl _, H, I, rfl, q⟩
theorem eqV_s : OpS K cm (rEqM K id) eqV := fun A c x y v w Q rel rx ry h => by
  unfold eqV at h
  split at h
  · rename_i d e h1 h2
    split at h
    · rename_i hl
      obtain ⟨a1, a2⟩ := toPyS_rep rel rx h1
      obtain ⟨b1, b2⟩ := toPyS_rep rel ry h2
      exact ⟨d, e, a1, b1, a2, b2, hl, h.here rel rfl⟩
    · exact h.elim
  · exact h.elim
theorem neV_s : OpS K cm (rEqM K not) neV := fun A c x y v w Q rel rx ry h => by
  unfold neV at h
  split at h
  · rename_i d e h1 h2
    split at h
    · rename_i hl
      obtain ⟨a1, a2⟩ := toPyS_rep rel rx h1
      obtain ⟨b1, b2⟩ := toPyS_rep rel ry h2
      exact ⟨d, e, a1, b1, a2, b2, hl, h.here rel rfl⟩
    · exact h.elim
  · exact h.elim
theorem eqV_n : NoErr eqV := fun x y S => by unfold eqV; split <;> (try split) <;> exact True.intro
theorem neV_n : NoErr neV := fun x y S => by unfold neV; split <;> (try split) <;> exact True.intro
/-- is None -/
def isNon : D → Bool
  | .non => true
  | _ => false
theorem isNon_rep {G : Gam} {c : Cfg} {d : D} {v : V} (r : Rp G c d v) : decide (v = .non) = isNon d := by
  cases d with
  | non => rw [show v = .non from r]; rfl
  | bl b => rw [show v = .bl b from r]; rfl
  | int i => rw [show v = .int i from r]; rfl
  | str x => rw [show v = .str x from r.1]; rfl
  | tup xs => obtain ⟨a, vs, e, _⟩ := r; rw [e]; rfl
  | lst xs => obtain ⟨a, vs, e, _⟩ := r; rw [e]; rfl
  | loc n => obtain ⟨a, e, _⟩ := r; rw [e]; rfl
  | ty n => rw [show v = .ty n from r]; rfl
  | scr xs => obtain ⟨a, vs, e, _⟩ := r; rw [e]; rfl
  | dct ks ds => obtain ⟨a, o, kws, e, _⟩ := r; rw [e]; rfl
  | cod q => obtain ⟨a, e, _⟩ := r; rw [e]; rfl
def isV : D → D → Store → R D
  | x, .non, S => .ok (.bl (isNon x)) S
  | _, _, _ => .no
def isNotV : D → D → Store → R D
  | x, .non, S => .ok (.bl (!isNon x)) S
  | _, _, _ => .no
theorem isV_s : OpS K cm (fun x y H Q => y = .non ∧ Q (.bl (decide (x = .non))) H) isV := fun A c x y v w Q rel rx ry h => by
  unfold isV at h
  split at h
  · exact ⟨ry, by rw [isNon_rep rx]; exact h.here rel rfl⟩
  · exact h.elim
theorem isNotV_s : OpS K cm (fun x y H Q => y = .non ∧ Q (.bl (!decide (x = .non))) H) isNotV := fun A c x y v w Q rel rx ry h => by
  unfold isNotV at h
  split at h
  · exact ⟨ry, by rw [isNon_rep rx]; exact h.here rel rfl⟩
  · exact h.elim
theorem isV_n : NoErr isV := fun x y S => by unfold isV; split <;> exact True.intro
theorem isNotV_n : NoErr isNotV := fun x y S => by unfold isNotV; split <;> exact True.intro

/-! ### dicts by values -/
def keyOf : D → Option Key
  | .int i => some (.inl i)
  | .str x => some (.inr x)
  | _ => none
def keysOf : List D → Option (List Key)
  | [] => some []
  | x :: xs => match keyOf x, keysOf xs with
    | some k, some ks => some (k :: ks)
    | _, _ => none
def tkeyOf : D → Option (List Key)
  | .tup xs => keysOf xs
  | _ => none
theorem keyOf_rep {G : Gam} {c : Cfg} {d : D} {v : V} {k : Key} (r : Rp G c d v) (e : keyOf d = some k) : v = kV k := by
  cases d with
  | int i => cases e; exact r
  | str x => cases e; exact r.1
  | _ => cases e
theorem keysOf_rep {G : Gam} {c : Cfg} : ∀ {ds : List D} {vs : List V} {ks : List Key}, RpA G c ds vs → keysOf ds = some ks → vs = ks.map kV
  | [], _, _, r, e => by
    cases r
    cases e
    rfl
  | d :: ds, _, _, ⟨v, r, e1, h, t⟩, e => by
    subst e1
    unfold keysOf at e
    split at e
    · rename_i k ks h1 h2
      cases e
      rw [keyOf_rep h h1, keysOf_rep t h2]
      rfl
    · cases e
theorem tkeyOf_rep {G : Gam} {c : Cfg} {d : D} {v : V} {k : List Key} (r : Rp G c d v) (e : tkeyOf d = some k) : ∃ a, v = .ref a ∧ c.H a = some (.tup (k.map kV)) := by
  cases d with
  | tup xs =>
    obtain ⟨a, vs, e1, _, h, t⟩ := r
    exact ⟨a, e1, by rw [h, keysOf_rep t e]⟩
  | _ => cases e
section
variable {κ : Type} [DecidableEq κ] {α : Type}
def lookA (kvs : List (κ × α)) (k : κ) : Option α := (kvs.find? fun kv => decide (kv.1 = k)).map (·.2)
def putA (kvs : List (κ × α)) (k : κ) (v : α) : List (κ × α) := if (kvs.any fun kv => decide (kv.1 = k)) = true then kvs.map (fun kv => if kv.1 = k then (kv.1, v) else kv) else kvs ++ [(k, v)]
def dropA (kvs : List (κ × α)) (k : κ) : List (κ × α) := kvs.filter fun kv => decide (kv.1 ≠ k)
end
section
variable {κ : Type} [DecidableEq κ] {G : Gam} {c : Cfg} {kvs : List (κ × D)} {kws : List (κ × V)}
theorem RpK.look (r : RpK G c kvs kws) (k : κ) : (lookA kvs k = none ∧ valV kws k = none) ∨ ∃ d v, lookA kvs k = some d ∧ valV kws k = some v ∧ Rp G c d v := by
  unfold RpK at r
  induction r with
  | nil => exact .inl ⟨rfl, rfl⟩
  | @cons p q ps qs h t ih =>
    obtain ⟨h1, h2⟩ := h
    by_cases e : p.1 = k
    · have e' : q.1 = k := h1.symm.trans e
      exact .inr ⟨p.2, q.2, by simp [lookA, List.find?_cons, e], by simp [valV, List.find?_cons, e'], h2⟩
    · have e' : ¬ q.1 = k := fun z => e (h1.trans z)
      have a1 : lookA (p :: ps) k = lookA ps k := by simp [lookA, List.find?_cons, e]
      have a2 : valV (q :: qs) k = valV qs k := by simp [valV, List.find?_cons, e']
      rw [a1, a2]
      exact ih
theorem RpK.any (r : RpK G c kvs kws) (k : κ) : (kvs.any fun kv => decide (kv.1 = k)) = kws.any fun kv => decide (kv.1 = k) := by
  unfold RpK at r
  induction r with
  | nil => rfl
  | cons h t ih => rw [List.any_cons, List.any_cons, ih, h.1]
theorem RpK.repl (r : RpK G c kvs kws) (k : κ) {d : D} {v : V} (rd : Rp G c d v) : RpK G c (kvs.map fun kv => if kv.1 = k then (kv.1, d) else kv) (kws.map fun kv => if kv.1 = k then (kv.1, v) else kv) := by
  unfold RpK at r ⊢
  induction r with
  | nil => exact .nil
  | @cons p q ps qs h t ih =>
    rw [List.map_cons, List.map_cons]
    refine .cons ?_ ih
    obtain ⟨h1, h2⟩ := h
    by_cases e : p.1 = k
    · rw [if_pos e, if_pos (h1.symm.trans e)]
      exact ⟨h1, rd⟩
    · rw [if_neg e, if_neg fun z => e (h1.trans z)]
      exact ⟨h1, h2⟩
theorem RpK.put (r : RpK G c kvs kws) (k : κ) {d : D} {v : V} (rd : Rp G c d v) : RpK G c (putA kvs k d) (putK kws k v) := by
  unfold putA putK
  rw [r.any k]
  split
  · exact r.repl k rd
  · unfold RpK at r ⊢
    exact Paired.snoc r ⟨rfl, rd⟩
theorem RpK.drop (r : RpK G c kvs kws) (k : κ) : RpK G c (dropA kvs k) (dropK kws k) := by
  unfold RpK at r ⊢
  unfold dropA dropK
  induction r with
  | nil => exact .nil
  | @cons p q ps qs h t ih =>
    obtain ⟨h1, h2⟩ := h
    rw [List.filter_cons, List.filter_cons]
    by_cases e : p.1 = k
    · have a : ¬ decide (p.1 ≠ k) = true := by simp [e]
      have b : ¬ decide (q.1 ≠ k) = true := by simp [h1.symm.trans e]
      rw [if_neg a, if_neg b]
      exact ih
    · have e' : ¬ q.1 = k := fun z => e (h1.trans z)
      have a : decide (p.1 ≠ k) = true := by simp [e]
      have b : decide (q.1 ≠ k) = true := by simp [e']
      rw [if_pos a, if_pos b]
      exact .cons ⟨h1, h2⟩ ih
theorem RpK.length (r : RpK G c kvs kws) : kvs.length = kws.length := Paired.length r
end
/-- what a dict holds at a key -/
def dGetO (S : Store) (d k : D) : Option (Option D) := match d with
  | .loc n => match S[n]? with
    | some (.dK kvs) => (keyOf k).map fun q => lookA kvs q
    | some (.dT kvs) => (tkeyOf k).map fun q => lookA kvs q
    | _ => none
  | .dct ks ds => (keyOf k).map fun q => lookA (ks.zip ds) q
  | _ => none
theorem RpK.ofZip {G : Gam} {c : Cfg} : ∀ {kws : List (Key × V)} {ds : List D}, RpA G c ds (kws.map (·.2)) → RpK G c ((kws.map (·.1)).zip ds) kws
  | [], _, r => by
    rw [List.map_nil, List.zip_nil_left]
    exact .nil
  | (k, v) :: kws, [], r => by cases (show (v :: kws.map (·.2)) = [] from r)
  | (k, v) :: kws, d :: ds, ⟨u, us, e, h, t⟩ => by
    injection e with e1 e2
    rw [List.map_cons, List.zip_cons_cons]
    refine .cons ⟨rfl, ?_⟩ (RpK.ofZip (by rw [e2]; exact t))
    have e1 : v = u := e1
    rw [e1]
    exact h
theorem dGetO_rep {G : Gam} {c : Cfg} {d k : D} {v w : V} {r : Option D} (rel : RelC G c) (rd : Rp G c d v) (rk : Rp G c k w) (e : dGetO c.S d k = some r) :
    ∃ a, v = .ref a ∧ ((r = none ∧ DGet c.H a w none) ∨ ∃ x u, r = some x ∧ DGet c.H a w (some u) ∧ Rp G c x u) := by
  cases d with
  | loc n =>
    have e : (match c.S[n]? with
      | some (.dK kvs) => (keyOf k).map fun q => lookA kvs q
      | some (.dT kvs) => (tkeyOf k).map fun q => lookA kvs q
      | _ => none) = some r := e
    split at e
    · rename_i kvs hk
      obtain ⟨a, e1, _, kws, h, t⟩ := Rp.obj rel rd hk
      obtain ⟨q, e2, e3⟩ := Option.map_eq_some_iff.mp e
      have ew := keyOf_rep rk e2
      refine ⟨a, e1, ?_⟩
      rcases t.look q with ⟨z1, z2⟩ | ⟨x, u, z1, z2, z3⟩
      · exact .inl ⟨by rw [← e3, z1], by rw [ew, ← z2]; exact .k h⟩
      · exact .inr ⟨x, u, by rw [← e3, z1], by rw [ew, ← z2]; exact .k h, z3⟩
    · rename_i kvs hk
      obtain ⟨a, e1, _, kws, h, t⟩ := Rp.obj rel rd hk
      obtain ⟨q, e2, e3⟩ := Option.map_eq_some_iff.mp e
      obtain ⟨b, ew, hb⟩ := tkeyOf_rep rk e2
      refine ⟨a, e1, ?_⟩
      rcases t.look q with ⟨z1, z2⟩ | ⟨x, u, z1, z2, z3⟩
      · exact .inl ⟨by rw [← e3, z1], by rw [ew, ← z2]; exact .t h hb⟩
      · exact .inr ⟨x, u, by rw [← e3, z1], by rw [ew, ← z2]; exact .t h hb, z3⟩
    · cases e
  | dct ks ds =>
    obtain ⟨a, o, kws, e1, _, h, ek, t⟩ := rd
    obtain ⟨q, e2, e3⟩ := Option.map_eq_some_iff.mp e
    have ew := keyOf_rep rk e2
    subst ek
    refine ⟨a, e1, ?_⟩
    rcases (RpK.ofZip t).look q with ⟨z1, z2⟩ | ⟨x, u, z1, z2, z3⟩
    · exact .inl ⟨by rw [← e3, z1], .inl ⟨kws, q, .inr ⟨o, h⟩, ew, z2.symm⟩⟩
    · exact .inr ⟨x, u, by rw [← e3, z1], .inl ⟨kws, q, .inr ⟨o, h⟩, ew, z2.symm⟩, z3⟩
  | _ => cases e

/-! ### in, not in -/
def flatD : D → Bool
  | .non => true
  | .bl _ => true
  | .int _ => true
  | .str _ => true
  | _ => false
def eqF : D → D → Bool
  | .non, .non => true
  | .bl a, .bl b => a == b
  | .bl a, .int b => (if a then 1 else 0) == b
  | .int a, .bl b => a == (if b then 1 else 0)
  | .int a, .int b => a == b
  | .str a, .str b => a == b
  | _, _ => false
theorem flatD_rep {G : Gam} {c : Cfg} {d : D} {v : V} (r : Rp G c d v) (f : flatD d = true) : flatV v = true := by
  cases d with
  | non => rw [show v = .non from r]; rfl
  | bl b => rw [show v = .bl b from r]; rfl
  | int i => rw [show v = .int i from r]; rfl
  | str x => rw [show v = .str x from r.1]; rfl
  | _ => cases f
theorem eqF_rep {G : Gam} {c : Cfg} {d e : D} {v w : V} (r : Rp G c d v) (s : Rp G c e w) (f : flatD d = true) (g : flatD e = true) : L2.eqV v w = eqF d e := by
  cases d with
  | non => rw [show v = .non from r]; cases e with
    | non => rw [show w = .non from s]; rfl
    | bl b => rw [show w = .bl b from s]; rfl
    | int i => rw [show w = .int i from s]; rfl
    | str x => rw [show w = .str x from s.1]; rfl
    | _ => cases g
  | bl b => rw [show v = .bl b from r]; cases e with
    | non => rw [show w = .non from s]; rfl
    | bl b => rw [show w = .bl b from s]; rfl
    | int i => rw [show w = .int i from s]; rfl
    | str x => rw [show w = .str x from s.1]; rfl
    | _ => cases g
  | int i => rw [show v = .int i from r]; cases e with
    | non => rw [show w = .non from s]; rfl
    | bl b => rw [show w = .bl b from s]; rfl
    | int i => rw [show w = .int i from s]; rfl
    | str x => rw [show w = .str x from s.1]; rfl
    | _ => cases g
  | str x => rw [show v = .str x from r.1]; cases e with
    | non => rw [show w = .non from s]; rfl
    | bl b => rw [show w = .bl b from s]; rfl
    | int i => rw [show w = .int i from s]; rfl
    | str x => rw [show w = .str x from s.1]; rfl
    | _ => cases g
  | _ => cases f
theorem inF_rep {G : Gam} {c : Cfg} {d : D} {v : V} (r : Rp G c d v) (f : flatD d = true) : ∀ {xs : List D} {vs : List V}, RpA G c xs vs → xs.all flatD = true → vs.all flatV = true ∧ inV v vs = xs.any fun y => eqF y d
  | [], _, h, _ => by cases h; exact ⟨rfl, rfl⟩
  | x :: xs, _, ⟨w, ws, e, h, t⟩, g => by
    subst e
    rw [List.all_cons, Bool.and_eq_true] at g
    obtain ⟨q1, q2⟩ := inF_rep r f t g.2
    refine ⟨by rw [List.all_cons, flatD_rep h g.1, q1]; rfl, ?_⟩
    show ((w :: ws).any fun y => L2.eqV y v) = _
    rw [List.any_cons, List.any_cons, eqF_rep h r g.1 f]
    congr 1
/-- in: a sign of a text, an item of a list or tuple of plain things, a key of a dict -/
def signIn (s z : Str) : Option Bool := match s.cps.toList with
  | [k] => some (decide (k ∈ z.cps.toList))
  | _ => none
theorem signIn_is {s z : Str} {b : Bool} (h : signIn s z = some b) : ∃ k, s = ⟨#[k]⟩ ∧ b = decide (k ∈ z.cps.toList) := by
  unfold signIn at h
  split at h
  · rename_i k hk
    refine ⟨k, ?_, (Option.some.inj h).symm⟩
    obtain ⟨cps⟩ := s
    show Str.mk cps = Str.mk #[k]
    congr 1
    exact Array.ext' hk
  · cases h
def inC (x y : D) (S : Store) : Option Bool := match x, y with
  | .str s, .str z => signIn s z
  | _, .str _ => none
  | _, _ => match sqOf S y with
    | some xs => if flatD x = true ∧ xs.all flatD = true then some (xs.any fun u => eqF u x) else none
    | none => (dGetO S y x).map Option.isSome
def inV' (x y : D) (S : Store) : R D := match inC x y S with
  | some k => .ok (.bl k) S
  | none => .no
def notInV' (x y : D) (S : Store) : R D := match inC x y S with
  | some k => .ok (.bl (!k)) S
  | none => .no
def rInU (K : PySem.W.Frag) (f : Bool → Bool) : R2 := fun x y H Q => (∃ (c : Nat) (z : Str), x = .str ⟨#[c]⟩ ∧ y = .str z ∧ Q (.bl (f (decide (c ∈ z.cps.toList)))) H) ∨
  (∃ p xs, y = .ref p ∧ (SqL K H p xs ∨ SqT K H p xs) ∧ flatV x = true ∧ xs.all flatV = true ∧ Q (.bl (f (inV x xs))) H) ∨ ∃ a o, y = .ref a ∧ DGet H a x o ∧ Q (.bl (f o.isSome)) H
theorem op_inU (hu : X.A.units + 1 < cLine) : OpR X (compareOp .In) (rInU X.K id) := by
  refine op_in_sign.or (OpR.or op_in_seq ?_)
  intro pins s σ H x y v u Q I rx ry h
  obtain ⟨a, o, e, g, q⟩ := h
  subst e
  obtain rfl : u = Value.ref a := ry
  exact d_in hu I g rx fun s' I' => ⟨.bl o.isSome, H, I', rfl, q⟩
theorem op_notInU (hu : X.A.units + 1 < cLine) : OpR X (compareOp .NotIn) (rInU X.K not) := by
  refine op_notIn_sign.or (OpR.or op_notIn_seq ?_)
  intro pins s σ H x y v u Q I rx ry h
  obtain ⟨a, o, e, g, q⟩ := h
  subst e
  obtain rfl : u = Value.ref a := ry
  exact d_notIn hu I g rx fun s' I' => ⟨.bl (!o.isSome), H, I', rfl, q⟩
theorem inC_s {f : Bool → Bool} {g : D → D → Store → R D} (hg : ∀ x y S, g x y S = match inC x y S with | some k => .ok (.bl (f k)) S | none => .no) : OpS K cm (rInU K f) g := fun A c x y v w Q rel rx ry h => by
  rw [hg] at h
  split at h
  · rename_i k e
    unfold inC at e
    split at e
    · rename_i s z
      obtain ⟨n, e1, e2⟩ := signIn_is e
      subst e1 e2
      exact .inl ⟨n, z, rx.1, ry.1, h.here rel rfl⟩
    · cases e
    · split at e
      · rename_i xs hx
        split at e
        · rename_i hf
          cases e
          obtain ⟨p, vs, e1, hs, t⟩ := sqOf_rep rel ry hx
          obtain ⟨q1, q2⟩ := inF_rep rx hf.1 t hf.2
          exact .inr (.inl ⟨p, vs, e1, hs, flatD_rep rx hf.1, q1, by rw [q2]; exact h.here rel rfl⟩)
        · cases e
      · obtain ⟨r, e1, e2⟩ := Option.map_eq_some_iff.mp e
        obtain ⟨a, e3, z⟩ := dGetO_rep rel ry rx e1
        refine .inr (.inr ?_)
        rcases z with ⟨z1, z2⟩ | ⟨x', u, z1, z2, _⟩
        · exact ⟨a, none, e3, z2, by rw [z1] at e2; rw [← e2] at h; exact h.here rel rfl⟩
        · exact ⟨a, some u, e3, z2, by rw [z1] at e2; rw [← e2] at h; exact h.here rel rfl⟩
  · exact h.elim
theorem inV_s : OpS K cm (rInU K id) inV' := inC_s fun _ _ _ => rfl
theorem notInV_s : OpS K cm (rInU K not) notInV' := inC_s fun _ _ _ => rfl
theorem inV_n : NoErr inV' := fun x y S => by unfold inV'; split <;> exact True.intro
theorem notInV_n : NoErr notInV' := fun x y S => by unfold notInV'; split <;> exact True.intro

/-! ### a[i] -/
def ixV (x y : D) (S : Store) : R D := match x, y with
  | .str z, .int i => match atI z.cps.toList i with
    | some k => .ok (.str ⟨#[k]⟩) S
    | none => .no
  | _, _ => match sqOf S x, y with
    | some xs, .int i => match atI xs i with
      | some d => .ok d S
      | none => .no
    | some _, _ => .no
    | none, _ => match dGetO S x y with
      | some (some d) => .ok d S
      | _ => .no
def rIxU (K : PySem.W.Frag) : R2 := fun x y H Q => rIx K x y H Q ∨ ∃ a v, x = .ref a ∧ DGet H a y (some v) ∧ Q v H
theorem ix_any (hu : X.A.units + 1 < cLine) : IxR X (rIxU X.K) := by
  refine ix_seq.or ?_
  intro value slice pins s σ H x y v u Q I rx ry h hs
  obtain ⟨a, z, e, g, q⟩ := h
  subst e
  obtain rfl : v = Value.ref a := rx
  exact tail_any (dict_typeIs I g) PySem.F.slot_dict_getitem.lookup (d_getItem hu I g ry fun w' s' I' rw' => ⟨z, H, I', rw', q⟩) hs
theorem strOk_one {x : Str} {i : Int} {k : Nat} (h : PySem.PyData.strOk x = true) (e : atI x.cps.toList i = some k) : PySem.PyData.strOk ⟨#[k]⟩ = true := by
  obtain ⟨j, _, h2, _⟩ := atI_get e
  have hm : k ∈ x.cps.toList := List.mem_of_getElem? h2
  have h' : (x.cps.all fun n => decide (n < 1114112)) = true := h
  rw [← Array.all_toList, List.all_eq_true] at h'
  show (#[k].all fun n => decide (n < 1114112)) = true
  simpa using h' k hm
theorem ixV_s : OpS K cm (rIxU K) ixV := fun A c x y v w Q rel rx ry h => by
  have seqs : ∀ {x : D} {y : D}, Rp ⟨K, cm, A⟩ c x v → Rp ⟨K, cm, A⟩ c y w → Post ⟨K, cm, A⟩ (fun _ _ _ => False) (Rp ⟨K, cm, A⟩) c Q (match sqOf c.S x, y with
    | some xs, .int i => match atI xs i with
      | some d => .ok d c.S
      | none => .no
    | some _, _ => .no
    | none, _ => match dGetO c.S x y with
      | some (some d) => .ok d c.S
      | _ => .no) → rIxU K v w c.H Q := fun {x y} rx ry h => by
    split at h
    · rename_i xs i hx
      split at h
      · rename_i d hd
        obtain ⟨p, vs, e1, hs, t⟩ := sqOf_rep rel rx hx
        obtain ⟨u, e2, ru⟩ := t.at hd
        rcases hs with hs | hs
        · exact .inl (.inl ⟨p, vs, i, u, e1, ry, hs, e2, h.here rel ru⟩)
        · exact .inl (.inr (.inl ⟨p, vs, i, u, e1, ry, hs, e2, h.here rel ru⟩))
      · exact h.elim
    · exact h.elim
    · split at h
      · rename_i d hd
        obtain ⟨a, e3, z⟩ := dGetO_rep rel rx ry hd
        rcases z with ⟨z1, _⟩ | ⟨x', u, z1, z2, z3⟩
        · cases z1
        · cases z1
          exact .inr ⟨a, u, e3, z2, h.here rel z3⟩
      · exact h.elim
  unfold ixV at h
  split at h
  · split at h
    · rename_i k hk
      exact .inl (.inr (.inr ⟨_, _, k, rx.1, ry, rx.2.2, hk, h.here rel ⟨rfl, strOk_one rx.2.1 hk, Nat.le_trans (show (1 : Nat) ≤ 1000 by decide) line1000⟩⟩))
    · exact h.elim
  · exact seqs rx ry h
theorem ixV_n : NoErr ixV := fun x y S => by
  unfold ixV
  split <;> (try split) <;> (try split) <;> exact True.intro
theorem de_ix (G : GX X E k) (ha : DE X cm E a da) (hb : DE X cm E b db) (hs : PlainIx b := by exact fun _ _ => rfl) : DE X cm E (.Subscript a b pos) (dOp ixV da db) := by
  obtain ⟨ta, pa, sa⟩ := ha.ex
  obtain ⟨tb, pb, sb⟩ := hb.ex
  exact ⟨_, pe_ix (ix_any (hu_of G.room)) pa pb hs, snd_op ixV_s ixV_n sa sb⟩

/-! ### slices -/
abbrev DPv := DSt → Store → R (Option Int)
structure DP (X : Cx) (cm : String → Addr → Prop) (E : XK) (e : Option Expr) (d : DPv) : Prop where
  ex : ∃ t, PO X e t ∧ ∀ (A : Addr → Prop) (c : Cfg) (st : DSt) (σ : L2.St) (Q : Option Int → Hp → Prop), RelC ⟨X.K, cm, A⟩ c → LocR ⟨X.K, cm, A⟩ c st σ → Post ⟨X.K, cm, A⟩ E (fun _ a b => a = b) c Q (d st c.S) → t σ c.H Q
def dPNone : DPv := fun _ S => .ok none S
def dPart (a : DEv) : DPv := fun st S => (a st S).bind fun x S1 => match x with
  | .int i => .ok (some i) S1
  | _ => .no
theorem dp_none : DP X cm E none dPNone := ⟨_, po_none, fun A c st σ Q rel loc h => h.here rel rfl⟩
theorem dp_some (ha : DE X cm E a da) : DP X cm E (some a) (dPart da) := by
  obtain ⟨t, p, s⟩ := ha.ex
  refine ⟨_, po_some p, fun A c st σ Q rel loc h => s A c st σ _ rel loc (Post.seq h fun x v c1 _ x1 rel1 rx h1 => ?_)⟩
  cases x with
  | int i => exact ⟨i, rx, h1.here rel1 rfl⟩
  | _ => exact h1.elim
def cutD (xs : List D) (lo hi : Option Int) : List D := (xs.drop (HT.sIx xs.length 0 lo)).take (HT.sIx xs.length xs.length hi - HT.sIx xs.length 0 lo)
theorem RpA.cut {G : Gam} {c : Cfg} {xs : List D} {vs : List V} (h : RpA G c xs vs) (lo hi : Option Int) : RpA G c (cutD xs lo hi) (cutV vs lo hi) := by
  unfold cutD cutV
  rw [← h.length]
  exact (h.drop _).take _
theorem cutD_all {xs : List D} {lo hi : Option Int} (h : HT.sIx xs.length 0 lo = 0 ∧ HT.sIx xs.length xs.length hi = xs.length) : cutD xs lo hi = xs := by
  unfold cutD
  rw [h.1, h.2]
  simp
def slV (x : D) (lo hi : Option Int) (S : Store) : R D := match x with
  | .str z => .ok (.str (cutS z lo hi)) S
  | .tup xs => .ok (.tup (cutD xs lo hi)) S
  | _ => match lsOf S x with
    | some xs => .ok (.lst (cutD xs lo hi)) S
    | none => .no
def dSl (a : DEv) (l u : DPv) : DEv := fun st S => (a st S).bind fun x S1 => (l st S1).bind fun i S2 => (u st S2).bind fun j S3 => slV x i j S3
def rSlU (K : PySem.W.Frag) : V → Option Int → Option Int → Hp → VK → Prop := fun x lo hi H Q => rSlL K x lo hi H Q ∨ rSlA K x lo hi H Q ∨ rSlS x lo hi H Q
theorem sl_any : SlR X (rSlU X.K) := sl_list.or (sl_tupA.or sl_str)
theorem strOk_cut {z : Str} (h : PySem.PyData.strOk z = true) (lo hi : Option Int) : PySem.PyData.strOk (cutS z lo hi) = true := by
  have h' : (z.cps.all fun n => decide (n < 1114112)) = true := h
  rw [← Array.all_toList, List.all_eq_true] at h'
  show (Array.all (List.toArray _) fun n => decide (n < 1114112)) = true
  rw [← Array.all_toList, List.all_eq_true]
  intro x hx
  exact h' x (List.mem_of_mem_drop (List.mem_of_mem_take (by simpa using hx)))
theorem slV_s (A : Addr → Prop) (c : Cfg) (x : D) (v : V) (lo hi : Option Int) (Q : VK) (rel : RelC ⟨K, cm, A⟩ c) (rx : Rp ⟨K, cm, A⟩ c x v) (h : Post ⟨K, cm, A⟩ E (Rp ⟨K, cm, A⟩) c Q (slV x lo hi c.S)) : rSlU K v lo hi c.H Q := by
  have lists : ∀ {x : D}, Rp ⟨K, cm, A⟩ c x v → Post ⟨K, cm, A⟩ E (Rp ⟨K, cm, A⟩) c Q (match lsOf c.S x with
    | some xs => .ok (.lst (cutD xs lo hi)) c.S
    | none => .no) → rSlU K v lo hi c.H Q := fun {x} rx h => by
    split at h
    · rename_i xs hx
      obtain ⟨a, vs, e, hs, t⟩ := lsOf_rep rel rx hx
      exact .inl ⟨a, vs, e, hs, h.newL rel (t.cut lo hi)⟩
    · exact h.elim
  unfold slV at h
  split at h
  · rename_i z
    exact .inr (.inr ⟨z, rx.1, rx.2.2, h.here rel ⟨rfl, strOk_cut rx.2.1 lo hi, Nat.le_trans (cutS_length z lo hi) rx.2.2⟩⟩)
  · rename_i xs
    obtain ⟨a, vs, e, n, hs, t⟩ := id rx
    refine .inr (.inl ⟨a, vs, e, .inl (.inl hs), fun z => ?_, fun _ => h.newT rel (t.cut lo hi)⟩)
    rw [← t.length] at z
    rw [cutD_all z] at h
    rw [← e]
    exact h.here rel rx
  · exact lists rx h
theorem de_sl {lo hi : Option Expr} {dl du : DPv} {p2 : Pos} (ha : DE X cm E a da) (hl : DP X cm E lo dl) (hu : DP X cm E hi du) : DE X cm E (.Subscript a (.Slice lo hi none p2) pos) (dSl da dl du) := by
  obtain ⟨t, p, s⟩ := ha.ex
  obtain ⟨tl, pl, sl⟩ := hl.ex
  obtain ⟨tu, pu, su⟩ := hu.ex
  refine ⟨_, pe_slice sl_any p pl pu, fun A c st σ Q rel loc h => s A c st σ _ rel loc (Post.seq h fun x v c1 _ x1 rel1 rx h1 => sl A c1 st σ _ rel1 (loc.mono x1) (Post.seq h1 fun i i' c2 _ x2 rel2 ri h2 =>
    su A c2 st σ _ rel2 ((loc.mono x1).mono x2) (Post.seq h2 fun j j' c3 _ x3 rel3 rj h3 => ?_)))⟩
  cases ri
  cases rj
  exact slV_s A c3 x v i j Q rel3 (Rp.mono x3 x v (Rp.mono x2 x v rx)) h3

/-! ### statements -/
inductive Fl where
  | nx (st : DSt) | rt (d : D) | bk (st : DSt) | ct (st : DSt)
abbrev DSv := DSt → Store → R Fl
def PostS (G : Gam) (E : XK) (c : Cfg) (Ds : Ends) : R Fl → Prop
  | .ok (.nx st) S => ∀ σ c', c'.S = S → Ext c c' → RelC G c' → LocR G c' st σ → Ds.nx σ c'.H
  | .ok (.rt d) S => ∀ v c', c'.S = S → Ext c c' → RelC G c' → Rp G c' d v → Ds.rt v c'.H
  | .ok (.bk st) S => ∀ σ c', c'.S = S → Ext c c' → RelC G c' → LocR G c' st σ → Ds.bk σ c'.H
  | .ok (.ct st) S => ∀ σ c', c'.S = S → Ext c c' → RelC G c' → LocR G c' st σ → Ds.ct σ c'.H
  | .err x S => ∀ C d c', c'.S = S → Ext c c' → RelC G c' → ErrR G c' x C d → E C d c'.H
  | .no => False
theorem PostS.trans {G : Gam} {E : XK} {c c1 : Cfg} {Ds : Ends} (x : Ext c c1) : ∀ {r : R Fl}, PostS G E c Ds r → PostS G E c1 Ds r
  | .ok (.nx _) _, h => fun σ c' e x' => h σ c' e (x.trans x')
  | .ok (.rt _) _, h => fun σ c' e x' => h σ c' e (x.trans x')
  | .ok (.bk _) _, h => fun σ c' e x' => h σ c' e (x.trans x')
  | .ok (.ct _) _, h => fun σ c' e x' => h σ c' e (x.trans x')
  | .err _ _, h => fun C d c' e x' => h C d c' e (x.trans x')
  | .no, h => h
theorem Post.seqS {α β : Type} {G : Gam} {E : XK} {rp : Cfg → α → β → Prop} {c : Cfg} {Q : β → Hp → Prop} {Ds : Ends} {r : R α} {f : α → Store → R Fl} (h : PostS G E c Ds (r.bind f))
    (k : ∀ a b c1, r = .ok a c1.S → Ext c c1 → RelC G c1 → rp c1 a b → PostS G E c1 Ds (f a c1.S) → Q b c1.H) : Post G E rp c Q r := by
  cases r with
  | no => exact h
  | err x S => exact h
  | ok a S =>
    intro b c1 e x rel rb
    subst e
    exact k a b c1 rfl x rel rb (PostS.trans x h)
def SndS (K : PySem.W.Frag) (cm : String → Addr → Prop) (E : XK) (t : TS) (d : DSv) : Prop := ∀ (A : Addr → Prop) (c : Cfg) (st : DSt) (σ : L2.St) (Ds : Ends), RelC ⟨K, cm, A⟩ c → LocR ⟨K, cm, A⟩ c st σ → PostS ⟨K, cm, A⟩ E c Ds (d st c.S) → t Ds σ c.H
structure DS (X : Cx) (cm : String → Addr → Prop) (E : XK) (s : Stmt) (d : DSv) : Prop where
  ex : ∃ t, PS X s t ∧ SndS X.K cm E t d
structure DSs (X : Cx) (cm : String → Addr → Prop) (E : XK) (s : List Stmt) (d : DSv) : Prop where
  ex : ∃ t, PSs X s t ∧ SndS X.K cm E t d
def dNext : DSv := fun st S => .ok (.nx st) S
def dSeq (a b : DSv) : DSv := fun st S => match a st S with
  | .ok (.nx st') S' => b st' S'
  | r => r
theorem snd_seq {ta tb : TS} {a b : DSv} (sa : SndS K cm E ta a) (sb : SndS K cm E tb b) : SndS K cm E (tSeq ta tb) (dSeq a b) := fun A c st σ Ds rel loc h => by
  refine sa A c st σ _ rel loc ?_
  unfold dSeq at h
  split at h
  · rename_i st' S' e
    rw [e]
    intro σ' c' e' x' rel' loc'
    subst e'
    exact sb A c' st' σ' Ds rel' loc' (PostS.trans x' h)
  · rename_i r hr
    cases e : a st c.S with
    | no => rw [e] at h; exact h
    | err x S => rw [e] at h; exact h
    | ok fl S =>
      rw [e] at h
      cases fl with
      | nx st' => exact absurd e (hr st' S)
      | rt d => exact h
      | bk st' => exact h
      | ct st' => exact h
variable {s1 : Stmt} {ss : List Stmt} {p q : DSv}
theorem dss_nil : DSs X cm E [] dNext := ⟨_, pss_nil, fun A c st σ Ds rel loc h => h σ c rfl (.refl c) rel loc⟩
theorem dss_cons (h1 : DS X cm E s1 p) (h2 : DSs X cm E ss q) : DSs X cm E (s1 :: ss) (dSeq p q) := let ⟨_, a, b⟩ := h1.ex; let ⟨_, a', b'⟩ := h2.ex; ⟨_, pss_cons a a', snd_seq b b'⟩
theorem dss_one (h1 : DS X cm E s1 p) : DSs X cm E [s1] p := let ⟨_, a, b⟩ := h1.ex; ⟨_, pss_one a, b⟩
theorem ds_pass : DS X cm E (.Pass pos) dNext := ⟨_, ps_pass, fun A c st σ Ds rel loc h => h σ c rfl (.refl c) rel loc⟩
theorem ds_doc {x j pos pos'} : DS X cm E (.Expr (.Constant (.str x) j pos) pos') dNext := ⟨_, ps_doc, fun A c st σ Ds rel loc h => h σ c rfl (.refl c) rel loc⟩
def dBreak : DSv := fun st S => .ok (.bk st) S
def dCont : DSv := fun st S => .ok (.ct st) S
theorem ds_break : DS X cm E (.Break pos) dBreak := ⟨_, ps_break, fun A c st σ Ds rel loc h => h σ c rfl (.refl c) rel loc⟩
theorem ds_cont : DS X cm E (.Continue pos) dCont := ⟨_, ps_continue, fun A c st σ Ds rel loc h => h σ c rfl (.refl c) rel loc⟩
def dDrop (e : DEv) : DSv := fun st S => (e st S).bind fun _ S1 => .ok (.nx st) S1
def dRet (e : DEv) : DSv := fun st S => (e st S).bind fun x S1 => .ok (.rt x) S1
def dRetN : DSv := fun _ S => .ok (.rt .non) S
theorem ds_expr {e : Expr} {d : DEv} (h : DE X cm E e d) (hs : swapsWith e none pos.line X.env = pure false := by rfl) : DS X cm E (.Expr e pos) (dDrop d) := by
  obtain ⟨t, p, s⟩ := h.ex
  exact ⟨_, ps_expr p hs, fun A c st σ Ds rel loc h => s A c st σ _ rel loc (Post.seqS h fun x v c1 _ x1 rel1 rx h1 => h1 σ c1 rfl (.refl c1) rel1 (loc.mono x1))⟩
theorem ds_ret {e : Expr} {d : DEv} (h : DE X cm E e d) : DS X cm E (.Return (some e) pos) (dRet d) := by
  obtain ⟨t, p, s⟩ := h.ex
  exact ⟨_, ps_ret p, fun A c st σ Ds rel loc h => s A c st σ _ rel loc (Post.seqS h fun x v c1 _ x1 rel1 rx h1 => h1 v c1 rfl (.refl c1) rel1 rx)⟩
theorem ds_retN : DS X cm E (.Return none pos) dRetN := ⟨_, ps_retN, fun A c st σ Ds rel loc h => h .non c rfl (.refl c) rel rfl⟩
def dIfS (t : DTv) (a b : DSv) : DSv := fun st S => (t st S).bind fun k S1 => if k = true then a st S1 else b st S1
theorem ds_if {t : Expr} {aa bb : List Stmt} {x : DTv} (h : DT X cm E t x) (h1 : DSs X cm E aa p) (h2 : DSs X cm E bb q) : DS X cm E (.If t aa bb pos) (dIfS x p q) := by
  obtain ⟨_, a1, b1⟩ := h.ex
  obtain ⟨_, a2, b2⟩ := h1.ex
  obtain ⟨_, a3, b3⟩ := h2.ex
  refine ⟨_, ps_if a1 a2 a3, fun A c st σ Ds rel loc h => b1 A c st σ _ rel loc (Post.seqS h fun k k' c1 _ x1 rel1 rk h1 => ?_)⟩
  cases rk
  cases k with
  | true => exact b2 A c1 st σ Ds rel1 (loc.mono x1) h1
  | false => exact b3 A c1 st σ Ds rel1 (loc.mono x1) h1

/-! ### targets -/
abbrev DGv := D → DSt → Store → R DSt
abbrev DGsv := List D → DSt → Store → R DSt
def SndG (K : PySem.W.Frag) (cm : String → Addr → Prop) (E : XK) (t : TG) (g : DGv) : Prop := ∀ (A : Addr → Prop) (c : Cfg) (st : DSt) (σ : L2.St) (d : D) (v : V) (Q : L2.St → Hp → Prop), RelC ⟨K, cm, A⟩ c → LocR ⟨K, cm, A⟩ c st σ → Rp ⟨K, cm, A⟩ c d v → Post ⟨K, cm, A⟩ E (LocR ⟨K, cm, A⟩) c Q (g d st c.S) → t v σ c.H Q
def SndGs (K : PySem.W.Frag) (cm : String → Addr → Prop) (E : XK) (t : TGs) (g : DGsv) : Prop := ∀ (A : Addr → Prop) (c : Cfg) (st : DSt) (σ : L2.St) (d : List D) (v : List V) (Q : L2.St → Hp → Prop), RelC ⟨K, cm, A⟩ c → LocR ⟨K, cm, A⟩ c st σ → RpA ⟨K, cm, A⟩ c d v → Post ⟨K, cm, A⟩ E (LocR ⟨K, cm, A⟩) c Q (g d st c.S) → t v σ c.H Q
/-- a target touches the slots vs alone -/
def OnlyG (vs : List Nat) (t : TG) : Prop := ∀ v σ H Q Q', (∀ σ2 H2, wipe σ2 vs = wipe σ vs → Q σ2 H2 → Q' σ2 H2) → t v σ H Q → t v σ H Q'
def OnlyGs (vs : List Nat) (t : TGs) : Prop := ∀ v σ H Q Q', (∀ σ2 H2, wipe σ2 vs = wipe σ vs → Q σ2 H2 → Q' σ2 H2) → t v σ H Q → t v σ H Q'
structure DG (X : Cx) (cm : String → Addr → Prop) (E : XK) (e : Expr) (g : DGv) : Prop where
  ex : ∃ t, PG X e t ∧ SndG X.K cm E t g
structure DGs (X : Cx) (cm : String → Addr → Prop) (E : XK) (e : List Expr) (g : DGsv) : Prop where
  ex : ∃ t, PGs X e t ∧ SndGs X.K cm E t g
/-- a comprehension's target -/
structure DGo (X : Cx) (cm : String → Addr → Prop) (E : XK) (e : Expr) (vs : List Nat) (g : DGv) (t : TG) : Prop where
  pg : PG X e t
  snd : SndG X.K cm E t g
  only : OnlyG vs t
structure DGos (X : Cx) (cm : String → Addr → Prop) (E : XK) (e : List Expr) (vs : List Nat) (g : DGsv) (t : TGs) : Prop where
  pg : PGs X e t
  snd : SndGs X.K cm E t g
  only : OnlyGs vs t
def dgName (i : Nat) : DGv := fun d st S => .ok (st.set i (some d)) S
theorem wipe_set {σ : L2.St} {i : Nat} {x : Option V} : ∀ {vs : List Nat}, i ∈ vs → wipe (σ.set i x) vs = wipe σ vs
  | v :: vs, h => by
    unfold wipe
    by_cases hv : i ∈ vs
    · rw [wipe_set hv]
    · have e : i = v := by
        rcases List.mem_cons.mp h with h | h
        · exact h
        · exact absurd h hv
      have w : ∀ {vs : List Nat}, i ∉ vs → wipe (σ.set i x) vs = (wipe σ vs).set i x := by
        intro vs
        induction vs with
        | nil => intro _; rfl
        | cons u us ih =>
          intro hn
          unfold wipe
          rw [ih fun z => hn (List.mem_cons_of_mem _ z)]
          have ne : i ≠ u := fun z => hn (z ▸ List.mem_cons_self)
          rw [List.set_comm _ _ ne]
      rw [w hv, ← e, List.set_set]
theorem snd_gname {K : PySem.W.Frag} {i : Nat} : SndG K cm E (gName i) (dgName i) := fun A c st σ d v Q rel loc rd h => Post.here h rel (loc.set rd)
theorem dg_name {i : Nat} {x : Str} (G : GX X E k) (hi : X.N[i]? = some x := by rfl) (hx : Loc X.env.scope x := by first | exact Or.inl rfl | exact Or.inr rfl) (hf : X.fn x = true ∨ X.env.scope.names.lookup x = some .local := by first | exact .inl rfl | exact .inr rfl | assumption) :
    DG X cm E (.Name x pos) (dgName i) := ⟨_, pg_name G.nd hi hx hf, snd_gname⟩
theorem dgo_name {i : Nat} {x : Str} {vs : List Nat} (G : GX X E k) (hi : X.N[i]? = some x := by rfl) (hx : Loc X.env.scope x := by first | exact Or.inl rfl | exact Or.inr rfl) (hv : i ∈ vs := by decide) (hf : X.fn x = true ∨ X.env.scope.names.lookup x = some .local := by first | exact .inl rfl | exact .inr rfl | assumption) :
    DGo X cm E (.Name x pos) vs (dgName i) (gName i) := ⟨pg_name G.nd hi hx hf, snd_gname, fun v σ H Q Q' m h => m _ _ (wipe_set hv) h⟩
def dgNil : DGsv := fun ds st S => match ds with
  | [] => .ok st S
  | _ => .no
def dgCons (g : DGv) (gs : DGsv) : DGsv := fun ds st S => match ds with
  | d :: r => (g d st S).bind fun st1 S1 => gs r st1 S1
  | [] => .no
theorem snd_gnil {K : PySem.W.Frag} : SndGs K cm E gNil dgNil := fun A c st σ d v Q rel loc rd h => by
  unfold dgNil at h
  split at h
  · exact ⟨rd, h.here rel loc⟩
  · exact h.elim
theorem snd_gcons {K : PySem.W.Frag} {g : DGv} {gs : DGsv} {t : TG} {u : TGs} (h1 : SndG K cm E t g) (h2 : SndGs K cm E u gs) : SndGs K cm E (gCons t u) (dgCons g gs) := fun A c st σ d v Q rel loc rd h => by
  unfold dgCons at h
  split at h
  · rename_i d r
    obtain ⟨w, ws, e1, rw1, rws⟩ := rd
    exact ⟨w, ws, e1, h1 A c st σ d w _ rel loc rw1 (Post.seq h fun st1 σ1 c1 _ x1 rel1 loc1 q1 => h2 A c1 st1 σ1 r ws Q rel1 loc1 (RpA.mono x1 r ws rws) q1)⟩
  · exact h.elim
theorem dgs_nil : DGs X cm E [] dgNil := ⟨_, pgs_nil, snd_gnil⟩
theorem dgs_cons {e : Expr} {es : List Expr} {g : DGv} {gs : DGsv} (h1 : DG X cm E e g) (h2 : DGs X cm E es gs)
    (hs : (assignEach (e :: es) X.env).map (·.2) = assign e X.env :: (assignEach es X.env).map (·.2) := by rfl) : DGs X cm E (e :: es) (dgCons g gs) :=
  let ⟨_, a, b⟩ := h1.ex; let ⟨_, a', b'⟩ := h2.ex; ⟨_, pgs_cons a a' hs, snd_gcons b b'⟩
theorem dgos_nil {vs : List Nat} : DGos X cm E [] vs dgNil gNil := ⟨pgs_nil, snd_gnil, fun v σ H Q Q' m h => ⟨h.1, m _ _ rfl h.2⟩⟩
theorem dgos_cons {e : Expr} {es : List Expr} {vs : List Nat} {g : DGv} {gs : DGsv} {t : TG} {u : TGs} (h1 : DGo X cm E e vs g t) (h2 : DGos X cm E es vs gs u)
    (hs : (assignEach (e :: es) X.env).map (·.2) = assign e X.env :: (assignEach es X.env).map (·.2) := by rfl) : DGos X cm E (e :: es) vs (dgCons g gs) (gCons t u) :=
  ⟨pgs_cons h1.pg h2.pg hs, snd_gcons h1.snd h2.snd, fun v σ H Q Q' m h => let ⟨w, r, e, q⟩ := h; ⟨w, r, e, h1.only w σ H _ _ (fun σ2 H2 e2 z => h2.only r σ2 H2 _ _ (fun σ3 H3 e3 => m σ3 H3 (e3.trans e2)) z) q⟩⟩
def dgTup (n : Nat) (gs : DGsv) : DGv := fun d st S => match d with
  | .tup xs => if xs.length = n then gs xs st S else .no
  | _ => .no
theorem snd_gtup {K : PySem.W.Frag} {n : Nat} {gs : DGsv} {t : TGs} (h : SndGs K cm E t gs) : SndG K cm E (gTup K n t) (dgTup n gs) := fun A c st σ d v Q rel loc rd q => by
  unfold dgTup at q
  split at q
  · rename_i xs
    split at q
    · rename_i hl
      obtain ⟨a, vs, e, _, h1, t1⟩ := rd
      exact ⟨a, vs, e, .inl (.inl h1), by rw [← t1.length]; exact hl, h A c st σ xs vs Q rel loc t1 q⟩
    · exact q.elim
  · exact q.elim
theorem dg_tup {es : List Expr} {kk : Nat} {gs : DGsv} {n : Nat} (G : GX X E k) (h : DGs X cm E es gs) (hn : (assignEach es X.env).length = n := by rfl) (hst : (assignEach es X.env).findIdx? (·.1) = none := by rfl) : DG X cm E (.Tuple es kk pos) (dgTup n gs) :=
  let ⟨_, a, b⟩ := h.ex; ⟨_, pg_tup G.calm a hn hst, snd_gtup b⟩
theorem dgo_tup {es : List Expr} {kk : Nat} {vs : List Nat} {gs : DGsv} {t : TGs} {n : Nat} (G : GX X E k) (h : DGos X cm E es vs gs t) (hn : (assignEach es X.env).length = n := by rfl) (hst : (assignEach es X.env).findIdx? (·.1) = none := by rfl) : DGo X cm E (.Tuple es kk pos) vs (dgTup n gs) (gTup X.K n t) :=
  ⟨pg_tup G.calm h.pg hn hst, snd_gtup h.snd, fun v σ H Q Q' m q => let ⟨a, xs, e, h1, h2, q1⟩ := q; ⟨a, xs, e, h1, h2, h.only xs σ H Q Q' m q1⟩⟩
/-- o[i] = v -/
def setO (o i v : D) (S : Store) : R Unit := match o with
  | .loc n => match S[n]?, i with
    | some (.lst xs), .int j => match ixN xs.length j with
      | some m => .ok () (S.set n (.lst (xs.set m v)))
      | none => .no
    | some (.dK kvs), _ => match keyOf i with
      | some q => if kvs.length < 1000000 then .ok () (S.set n (.dK (putA kvs q v))) else .no
      | none => .no
    | some (.dT kvs), _ => match tkeyOf i with
      | some q => if kvs.length < 1000000 then .ok () (S.set n (.dT (putA kvs q v))) else .no
      | none => .no
    | _, _ => .no
  | _ => .no
def rSetU : V → V → V → Hp → (Hp → Prop) → Prop := fun o i v H Q => rSetL o i v H Q ∨ ∃ a H', o = .ref a ∧ DPut H a i v H' ∧ Q H'
theorem set_any (hu : X.A.units + 1 < cLine) : PSet X rSetU := by
  intro pins s σ H o i v ov iv u Q I ro ri rv h
  rcases h with h | ⟨a, H', e, g, q⟩
  · exact set_list pins s σ H o i v ov iv u Q I ro ri rv h
  · subst e
    obtain rfl : ov = Value.ref a := ro
    exact d_setItem hu I g ri rv fun s' I' => ⟨H', I', q⟩
theorem setO_s {K : PySem.W.Frag} {A : Addr → Prop} {c : Cfg} {o i d : D} {v w u : V} {Q : Hp → Prop} (rel : RelC ⟨K, cm, A⟩ c) (ro : Rp ⟨K, cm, A⟩ c o v) (ri : Rp ⟨K, cm, A⟩ c i w) (rd : Rp ⟨K, cm, A⟩ c d u)
    (h : Post ⟨K, cm, A⟩ E (fun _ _ _ => True) c (fun (_ : Unit) H => Q H) (setO o i d c.S)) : rSetU v w u c.H Q := by
  cases o with
  | loc n =>
    replace h : Post ⟨K, cm, A⟩ E (fun _ _ _ => True) c (fun (_ : Unit) H => Q H) (match c.S[n]?, i with
    | some (.lst xs), .int j => match ixN xs.length j with
      | some m => .ok () (c.S.set n (.lst (xs.set m d)))
      | none => .no
    | some (.dK kvs), _ => match keyOf i with
      | some q => if kvs.length < 1000000 then .ok () (c.S.set n (.dK (putA kvs q d))) else .no
      | none => .no
    | some (.dT kvs), _ => match tkeyOf i with
      | some q => if kvs.length < 1000000 then .ok () (c.S.set n (.dT (putA kvs q d))) else .no
      | none => .no
    | _, _ => .no) := h
    split at h
    · rename_i xs j hx
      split at h
      · rename_i m hm
        obtain ⟨a, e, hφ, vs, hH, t⟩ := Rp.obj rel ro hx
        have x : Ext c ⟨c.φ, c.S.set n (.lst (xs.set m d)), upd c.H a (.lst (vs.set m u))⟩ := Ext.put rel hφ hx (by simp)
        exact .inl ⟨a, vs, j, m, e, ri, hH, by rw [← t.length]; exact hm, h () ⟨c.φ, c.S.set n (.lst (xs.set m d)), upd c.H a (.lst (vs.set m u))⟩ rfl x (rel.put (o' := .lst (xs.set m d)) hφ hx (by simp) ⟨_, upd_same, RpA.mono x _ _ (t.set rd m)⟩) True.intro⟩
      · exact h.elim
    · rename_i kvs hx
      split at h
      · rename_i q hq
        split at h
        · rename_i hl
          obtain ⟨a, e, hφ, kws, hH, t⟩ := Rp.obj rel ro hx
          have x : Ext c ⟨c.φ, c.S.set n (.dK (putA kvs q d)), upd c.H a (.dK (putK kws q u))⟩ := Ext.put rel hφ hx (by simp)
          refine .inr ⟨a, _, e, by rw [keyOf_rep ri hq]; exact .k hH (by rw [← t.length]; exact Nat.lt_of_lt_of_le hl million), h () ⟨c.φ, c.S.set n (.dK (putA kvs q d)), upd c.H a (.dK (putK kws q u))⟩ rfl x (rel.put (o' := .dK (putA kvs q d)) hφ hx (by simp) ⟨_, upd_same, (t.put q rd).map (Rp.mono x)⟩) True.intro⟩
        · exact h.elim
      · exact h.elim
    · rename_i kvs hx
      split at h
      · rename_i q hq
        split at h
        · rename_i hl
          obtain ⟨a, e, hφ, kws, hH, t⟩ := Rp.obj rel ro hx
          obtain ⟨b, ew, hb⟩ := tkeyOf_rep ri hq
          have x : Ext c ⟨c.φ, c.S.set n (.dT (putA kvs q d)), upd c.H a (.dT (putK kws q u))⟩ := Ext.put rel hφ hx (by simp)
          refine .inr ⟨a, _, e, by rw [ew]; exact .t hH hb (by rw [← t.length]; exact Nat.lt_of_lt_of_le hl million), h () ⟨c.φ, c.S.set n (.dT (putA kvs q d)), upd c.H a (.dT (putK kws q u))⟩ rfl x (rel.put (o' := .dT (putA kvs q d)) hφ hx (by simp) ⟨_, upd_same, (t.put q rd).map (Rp.mono x)⟩) True.intro⟩
        · exact h.elim
      · exact h.elim
    · exact h.elim
  | _ => exact h.elim
def dgSub (o i : DEv) : DGv := fun d st S => (o st S).bind fun x S1 => (i st S1).bind fun y S2 => (setO x y d S2).bind fun _ S3 => .ok st S3
theorem dg_sub {o i : Expr} {dO dI : DEv} (G : GX X E k) (ho : DE X cm E o dO) (hi : DE X cm E i dI) (ha : ∀ v, assign (.Subscript o i pos) X.env v = (do
      let ov ← holding [v] (eval o X.env)
      let iv ← holding [v, ov] (eval i X.env)
      standAt pos
      holding [v, ov, iv] (setItem ov iv v)
      release [v, ov, iv] []) := by intro _; rfl) : DG X cm E (.Subscript o i pos) (dgSub dO dI) := by
  obtain ⟨_, a1, b1⟩ := ho.ex
  obtain ⟨_, a2, b2⟩ := hi.ex
  refine ⟨_, pg_sub a1 a2 (set_any (hu_of G.room)) ha, fun A c st σ d v Q rel loc rd h => b1 A c st σ _ rel loc (Post.seq h fun x v1 c1 _ x1 rel1 r1 h1 => b2 A c1 st σ _ rel1 (loc.mono x1) (Post.seq h1 fun y v2 c2 _ x2 rel2 r2 h2 =>
    setO_s rel2 (Rp.mono x2 x v1 r1) r2 (Rp.mono x2 d v (Rp.mono x1 d v rd)) (Post.seq h2 fun _ _ c3 _ x3 rel3 _ h3 => h3.here rel3 (((loc.mono x1).mono x2).mono x3))))⟩
def dAsg (e : DEv) (g : DGv) : DSv := fun st S => (e st S).bind fun x S1 => (g x st S1).bind fun st1 S2 => .ok (.nx st1) S2
theorem ds_asg {tg e : Expr} {d : DEv} {g : DGv} (he : DE X cm E e d) (hg : DG X cm E tg g) (hs : swapsWithSole [tg] e pos.line X.env = pure false := by rfl) (hw : swappedStores [tg] e X.env = pure none := by rfl)
    (h1 : (assignEach [tg] X.env).map (·.2) = [assign tg X.env] := by rfl) : DS X cm E (.Assign [tg] e pos) (dAsg d g) := by
  obtain ⟨_, a, b⟩ := he.ex
  obtain ⟨_, a', b'⟩ := hg.ex
  exact ⟨_, ps_asg a a' hs hw h1, fun A c st σ Ds rel loc h => b A c st σ _ rel loc (Post.seqS h fun x v c1 _ x1 rel1 rx h1 => b' A c1 st σ x v _ rel1 (loc.mono x1) rx (Post.seqS h1 fun st1 σ1 c2 _ x2 rel2 loc2 h2 => h2 σ1 c2 rfl (.refl c2) rel2 loc2))⟩
def dSet (i : Nat) (e : DEv) : DSv := fun st S => (e st S).bind fun x S1 => .ok (.nx (st.set i (some x))) S1
theorem ds_set {i : Nat} {x : Str} {e : Expr} {d : DEv} {pos' : Pos} (G : GX X E k) (he : DE X cm E e d) (hi : X.N[i]? = some x := by rfl) (hx : Loc X.env.scope x := by first | exact Or.inl rfl | exact Or.inr rfl) (hs : swapsWith e (some (.Name x pos')) pos.line X.env = pure false := by rfl)
    (hf : X.fn x = true ∨ X.env.scope.names.lookup x = some .local := by first | exact .inl rfl | exact .inr rfl | assumption) : DS X cm E (.Assign [.Name x pos'] e pos) (dSet i d) := by
  obtain ⟨_, a, b⟩ := he.ex
  exact ⟨_, ps_set G.nd hi hx a hs hf, fun A c st σ Ds rel loc h => b A c st σ _ rel loc (Post.seqS h fun x v c1 _ x1 rel1 rx h1 => h1 _ c1 rfl (.refl c1) rel1 ((loc.mono x1).set rx))⟩
def dAug (i : Nat) (f : D → D → Store → R D) (e : DEv) : DSv := fun st S => match st[i]? with
  | some (some x) => (e st S).bind fun y S1 => (f x y S1).bind fun z S2 => .ok (.nx (st.set i (some z))) S2
  | _ => .no
theorem ds_aug {i : Nat} {x : Str} {e : Expr} {d : DEv} {op : Operator} {ti : TIp} {f : D → D → Store → R D} {pos' : Pos} (G : GX X E k) (ho : PIp X op ti) (hf0 : OpS X.K cm ti f) (ne : NoErr f) (he : DE X cm E e d) (hi : X.N[i]? = some x := by rfl) (hx : Loc X.env.scope x := by first | exact Or.inl rfl | exact Or.inr rfl)
    (hf : X.fn x = true ∨ X.env.scope.names.lookup x = some .local := by first | exact .inl rfl | exact .inr rfl | assumption) : DS X cm E (.AugAssign (.Name x pos') op e pos) (dAug i f d) := by
  obtain ⟨_, a, b⟩ := he.ex
  refine ⟨_, ps_aug G.nd hi hx a ho hf, fun A c st σ Ds rel loc h => ?_⟩
  unfold dAug at h
  split at h
  · rename_i x0 e0
    obtain ⟨v, e1, r0⟩ := loc.2 i x0 e0
    refine ⟨v, e1, b A c st σ _ rel loc (Post.seqS h fun y w c1 _ x1 rel1 ry h1 => hf0 A c1 x0 y v w _ rel1 (Rp.mono x1 x0 v r0) ry ((Post.seqS (E := E) (rp := Rp ⟨X.K, cm, A⟩) h1 fun z u c2 _ x2 rel2 rz h2 => h2 _ c2 rfl (.refl c2) rel2 (((loc.mono x1).mono x2).set rz)).noerr (ne x0 y c1.S)))⟩
  · exact h.elim
def addI : D → D → Store → R D
  | .int i, .int j, S => .ok (.int (i + j)) S
  | _, _, _ => .no
theorem addI_s {K : PySem.W.Frag} : OpS K cm (ipI fun i j => i + j) addI := fun A c x y v w Q rel rx ry h => by
  unfold addI at h
  split at h
  · exact ⟨_, _, rx, ry, h.here rel rfl⟩
  · exact h.elim
theorem subI_s {K : PySem.W.Frag} : OpS K cm (ipI fun i j => i - j) subV := fun A c x y v w Q rel rx ry h => by
  unfold subV at h
  split at h
  · exact ⟨_, _, rx, ry, h.here rel rfl⟩
  · exact h.elim
theorem addI_n : NoErr addI := fun x y S => by unfold addI; split <;> exact True.intro

/-! ### loops -/
/-- what is walked: the items; lists of the store that must stay as they are meanwhile -/
structure Src where
  xs : List D
  at_ : List (Nat × List D)
def Src.held (s : Src) (S : Store) : Prop := ∀ p ∈ s.at_, S[p.1]? = some (.lst p.2) ∨ S[p.1]? = some (.frz p.2)
theorem held_nil {xs : List D} {S : Store} : Src.held ⟨xs, []⟩ S := fun _ h => nomatch h
theorem held_one {xs ys : List D} {n : Nat} {S : Store} : Src.held ⟨xs, [(n, ys)]⟩ S ↔ (S[n]? = some (.lst ys) ∨ S[n]? = some (.frz ys)) := by simp [Src.held]
def WalkD (K : PySem.W.Frag) (cm : String → Addr → Prop) (A : Addr → Prop) (c0 : Cfg) (J : It) (s : Src) : Prop :=
  ∀ (B : Addr → Prop), (∀ a, B a → A a ∨ c0.H a = none) → ∀ c, Ext c0 c → RelC ⟨K, cm, B⟩ c → s.held c.S → ∀ i,
    (∀ x, s.xs[i]? = some x → J.go i c.H ∧ ∀ v H', J.yld i c.H v H' → ∃ c', c'.H = H' ∧ c'.S = c.S ∧ Ext c c' ∧ RelC ⟨K, cm, B⟩ c' ∧ Rp ⟨K, cm, B⟩ c' x v) ∧ (s.xs.length ≤ i → J.stop i c.H)
abbrev DIv := DSt → Store → R Src
def SndI (K : PySem.W.Frag) (cm : String → Addr → Prop) (E : XK) (t : TI) (d : DIv) : Prop := ∀ (A : Addr → Prop) (c : Cfg) (st : DSt) (σ : L2.St) (Q : It → Hp → Prop), RelC ⟨K, cm, A⟩ c → LocR ⟨K, cm, A⟩ c st σ → Post ⟨K, cm, A⟩ E (fun c' s J => WalkD K cm A c' J s ∧ s.held c'.S) c Q (d st c.S) → t σ c.H Q
structure DI (X : Cx) (cm : String → Addr → Prop) (E : XK) (tg e : Expr) (d : DIv) : Prop where
  ex : ∃ t, PI X tg e t ∧ SndI X.K cm E t d
mutual
theorem Rp.more' {G : Gam} {c : Cfg} {B : Addr → Prop} (hB : ∀ a, B a → G.A a ∨ c.H a = none) : ∀ (d : D) (v : V), Rp G c d v → Rp ⟨G.K, G.cm, B⟩ c d v
  | .non, _, h => h
  | .bl _, _, h => h
  | .int _, _, h => h
  | .str _, _, h => h
  | .tup xs, _, ⟨a, vs, e, n, h, r⟩ => ⟨a, vs, e, fun z => z.elim (fun z => (hB a z).elim (fun z => n (.inl z)) fun z => by rw [z] at h; cases h) fun z => n (.inr z), h, RpA.more' hB xs vs r⟩
  | .lst xs, _, ⟨a, vs, e, n, h, r⟩ => ⟨a, vs, e, fun z => z.elim (fun z => (hB a z).elim (fun z => n (.inl z)) fun z => by rw [z] at h; cases h) fun z => n (.inr z), h, RpA.more' hB xs vs r⟩
  | .loc n, _, h => h
  | .ty _, _, h => h
  | .scr xs, _, ⟨a, vs, e, q, r⟩ => ⟨a, vs, e, q.elim (fun ⟨n, o, h⟩ => .inl ⟨fun z => z.elim (fun z => (hB a z).elim (fun z => n (.inl z)) fun z => by rw [z] at h; cases h) fun z => n (.inr z), o, h⟩) .inr, RpA.more' hB xs vs r⟩
  | .dct ks ds, _, ⟨a, o, kws, e, n, h, ek, r⟩ => ⟨a, o, kws, e, fun z => z.elim (fun z => (hB a z).elim (fun z => n (.inl z)) fun z => by rw [z] at h; cases h) fun z => n (.inr z), h, ek, RpA.more' hB ds _ r⟩
  | .cod q, _, ⟨a, e, n, h⟩ => ⟨a, e, fun z => z.elim (fun z => (hB a z).elim (fun z => n (.inl z)) fun z => by rw [z] at h; cases h) fun z => n (.inr z), h⟩
theorem RpA.more' {G : Gam} {c : Cfg} {B : Addr → Prop} (hB : ∀ a, B a → G.A a ∨ c.H a = none) : ∀ (ds : List D) (vs : List V), RpA G c ds vs → RpA ⟨G.K, G.cm, B⟩ c ds vs
  | [], _, h => h
  | d :: ds, _, ⟨v, r, e, h, t⟩ => ⟨v, r, e, Rp.more' hB d v h, RpA.more' hB ds r t⟩
end
section
variable {K : PySem.W.Frag} {A : Addr → Prop}
/-- a list (a tuple) that is seen as it is, as long as its guard holds -/
def SeeL (K : PySem.W.Frag) (cm : String → Addr → Prop) (A : Addr → Prop) (c0 : Cfg) (a : Addr) (s : Src) : Prop := ∀ (B : Addr → Prop), (∀ a, B a → A a ∨ c0.H a = none) → ∀ c, Ext c0 c → RelC ⟨K, cm, B⟩ c → s.held c.S → ∃ vs, SqL K c.H a vs ∧ RpA ⟨K, cm, B⟩ c s.xs vs
def SeeT (K : PySem.W.Frag) (cm : String → Addr → Prop) (A : Addr → Prop) (c0 : Cfg) (a : Addr) (s : Src) : Prop := ∀ (B : Addr → Prop), (∀ a, B a → A a ∨ c0.H a = none) → ∀ c, Ext c0 c → RelC ⟨K, cm, B⟩ c → s.held c.S → ∃ vs, SqT K c.H a vs ∧ RpA ⟨K, cm, B⟩ c s.xs vs
theorem see_tup {c0 : Cfg} {a : Addr} {xs : List D} {vs : List V} (n : ¬ Own ⟨K, cm, A⟩ c0 a) (h : c0.H a = some (.tup vs)) (r : RpA ⟨K, cm, A⟩ c0 xs vs) : SeeT K cm A c0 a ⟨xs, []⟩ := fun B hB c x rel _ =>
  ⟨vs, .inl (.inl (x.keep a _ (Own.not n) h).1), RpA.mono x xs vs (RpA.more' (G := ⟨K, cm, A⟩) hB xs vs r)⟩
theorem see_lst {c0 : Cfg} {a : Addr} {xs : List D} {vs : List V} (n : ¬ Own ⟨K, cm, A⟩ c0 a) (h : c0.H a = some (.lst vs)) (r : RpA ⟨K, cm, A⟩ c0 xs vs) : SeeL K cm A c0 a ⟨xs, []⟩ := fun B hB c x rel _ =>
  ⟨vs, .inl (.inl (x.keep a _ (Own.not n) h).1), RpA.mono x xs vs (RpA.more' (G := ⟨K, cm, A⟩) hB xs vs r)⟩
theorem see_loc {c0 : Cfg} {a : Addr} {m : Nat} {xs : List D} (hφ : c0.φ[m]? = some a) : SeeL K cm A c0 a ⟨xs, [(m, xs)]⟩ := fun B hB c x rel held => by
  have hφ' := x.pre m a hφ
  rcases held_one.mp held with e | e
  · obtain ⟨vs, h, r⟩ := rel.obj m a _ hφ' e
    exact ⟨vs, .inl (.inl h), r⟩
  · obtain ⟨o, vs, h, r⟩ := rel.obj m a _ hφ' e
    exact ⟨vs, .inl (.inr ⟨o, h⟩), r⟩
theorem walk_lst {c0 : Cfg} {a : Addr} {s : Src} (see : SeeL K cm A c0 a s) : WalkD K cm A c0 (Itl K a) s := fun B hB c x rel held i => by
  obtain ⟨vs, q, r1⟩ := see B hB c x rel held
  refine ⟨fun y hy => ?_, fun hl => ⟨vs, q, by rw [← r1.length]; exact hl⟩⟩
  obtain ⟨v, hv, rv⟩ := r1.get hy
  refine ⟨⟨vs, v, q, hv⟩, fun u H' hu => ?_⟩
  obtain ⟨e, hu⟩ := hu
  have := hu vs q
  rw [hv] at this
  cases this
  exact ⟨c, e.symm, rfl, .refl c, rel, rv⟩
theorem walk_tup {c0 : Cfg} {a : Addr} {s : Src} (see : SeeT K cm A c0 a s) : WalkD K cm A c0 (Itt K a) s := fun B hB c x rel held i => by
  obtain ⟨vs, q, r1⟩ := see B hB c x rel held
  refine ⟨fun y hy => ?_, fun hl => ⟨vs, q, by rw [← r1.length]; exact hl⟩⟩
  obtain ⟨v, hv, rv⟩ := r1.get hy
  refine ⟨⟨vs, v, q, hv⟩, fun u H' hu => ?_⟩
  obtain ⟨e, hu⟩ := hu
  have := hu vs q
  rw [hv] at this
  cases this
  exact ⟨c, e.symm, rfl, .refl c, rel, rv⟩
theorem new_pair {B : Addr → Prop} {c : Cfg} (rel : RelC ⟨K, cm, B⟩ c) {T : Addr} {d e : D} {v w : V} (hT : c.H T = none) (r : Rp ⟨K, cm, B⟩ c d v) (s : Rp ⟨K, cm, B⟩ c e w) :
    ∃ c', c'.H = upd c.H T (.tup [v, w]) ∧ c'.S = c.S ∧ Ext c c' ∧ RelC ⟨K, cm, B⟩ c' ∧ Rp ⟨K, cm, B⟩ c' (.tup [d, e]) (.ref T) :=
  have x : Ext c ⟨c.φ, c.S, upd c.H T (.tup [v, w])⟩ := Ext.lay rel hT
  ⟨⟨c.φ, c.S, upd c.H T (.tup [v, w])⟩, rfl, rfl, x, rel.lay hT, T, [v, w], rfl, own_new rel hT, upd_same, v, [w], rfl, Rp.mono x d v r, w, [], rfl, Rp.mono x e w s, rfl⟩
theorem walk_enum {c0 : Cfg} {a : Addr} {s : Src} (see : SeeL K cm A c0 a s) : WalkD K cm A c0 (Ite K a) ⟨(List.range s.xs.length).map fun (k : Nat) => .tup [.int (k : Int), s.xs.getD k .non], s.at_⟩ := fun B hB c x rel held i => by
  obtain ⟨vs, q, r1⟩ := see B hB c x rel held
  refine ⟨fun y hy => ?_, fun hl => ⟨vs, q, ?_⟩⟩
  · have hy : ((List.range s.xs.length).map fun (k : Nat) => D.tup [.int (k : Int), s.xs.getD k .non])[i]? = some y := hy
    rw [List.getElem?_map] at hy
    have hi : i < s.xs.length := by
      by_cases hi : i < s.xs.length
      · exact hi
      · rw [List.getElem?_eq_none (by simpa using Nat.le_of_not_lt hi)] at hy
        cases hy
    rw [List.getElem?_range hi] at hy
    cases hy
    obtain ⟨v, hv, rv⟩ := r1.get (List.getElem?_eq_getElem hi)
    refine ⟨⟨vs, v, q, hv⟩, fun u H' hu => ?_⟩
    obtain ⟨T, z, e, hT, eH, hu⟩ := hu
    have := hu vs q
    rw [hv] at this
    cases this
    have gd : s.xs.getD i .non = s.xs[i] := by rw [List.getD_eq_getElem?_getD, List.getElem?_eq_getElem hi]; rfl
    rw [eH, e]
    show ∃ c', _ ∧ _ ∧ _ ∧ _ ∧ Rp _ c' (.tup [.int (i : Int), s.xs.getD i .non]) _
    rw [gd]
    exact new_pair (d := .int (i : Int)) (v := .int (i : Nat)) rel hT rfl rv
  · have hl : ((List.range s.xs.length).map fun (k : Nat) => D.tup [.int (k : Int), s.xs.getD k .non]).length ≤ i := hl
    rw [List.length_map, List.length_range] at hl
    rw [← r1.length]
    exact hl
def zipD (xs ys : List D) : List D := (xs.zip ys).map fun p => .tup [p.1, p.2]
theorem zipD_get {xs ys : List D} {i : Nat} {y : D} (h : (zipD xs ys)[i]? = some y) : ∃ a b, xs[i]? = some a ∧ ys[i]? = some b ∧ y = .tup [a, b] := by
  unfold zipD at h
  rw [List.getElem?_map] at h
  obtain ⟨p, hp, e⟩ := Option.map_eq_some_iff.mp h
  rw [List.getElem?_zip_eq_some] at hp
  exact ⟨p.1, p.2, hp.1, hp.2, e.symm⟩
theorem walk_zip {c0 : Cfg} {a b : Addr} {s s' : Src} (see : SeeL K cm A c0 a s) (see' : SeeL K cm A c0 b s') : WalkD K cm A c0 (Itz K a b) ⟨zipD s.xs s'.xs, s.at_ ++ s'.at_⟩ := fun B hB c x rel held i => by
  obtain ⟨vs, q, r1⟩ := see B hB c x rel fun p hp => held p (List.mem_append_left _ hp)
  obtain ⟨ws, q', r2⟩ := see' B hB c x rel fun p hp => held p (List.mem_append_right _ hp)
  refine ⟨fun y hy => ?_, fun hl => ⟨vs, ws, q, q', ?_⟩⟩
  · obtain ⟨d, e, h1, h2, rfl⟩ := zipD_get hy
    obtain ⟨v, hv, rv⟩ := r1.get h1
    obtain ⟨w, hw, rw⟩ := r2.get h2
    refine ⟨⟨vs, ws, v, w, q, q', hv, hw⟩, fun u H' hu => ?_⟩
    obtain ⟨T, z, z', e, hT, eH, hu, hu'⟩ := hu
    have h3 := hu vs q
    rw [hv] at h3
    cases h3
    have h4 := hu' ws q'
    rw [hw] at h4
    cases h4
    rw [eH, e]
    exact new_pair rel hT rv rw
  · have hl : (zipD s.xs s'.xs).length ≤ i := hl
    unfold zipD at hl
    rw [List.length_map, List.length_zip] at hl
    rw [← r1.length, ← r2.length]
    omega
theorem walk_zipT {c0 : Cfg} {a b : Addr} {s s' : Src} (see : SeeT K cm A c0 a s) (see' : SeeT K cm A c0 b s') : WalkD K cm A c0 (RZ.ItzT K a b) ⟨zipD s.xs s'.xs, s.at_ ++ s'.at_⟩ := fun B hB c x rel held i => by
  obtain ⟨vs, q, r1⟩ := see B hB c x rel fun p hp => held p (List.mem_append_left _ hp)
  obtain ⟨ws, q', r2⟩ := see' B hB c x rel fun p hp => held p (List.mem_append_right _ hp)
  refine ⟨fun y hy => ?_, fun hl => ⟨vs, ws, q, q', ?_⟩⟩
  · obtain ⟨d, e, h1, h2, rfl⟩ := zipD_get hy
    obtain ⟨v, hv, rv⟩ := r1.get h1
    obtain ⟨w, hw, rw⟩ := r2.get h2
    refine ⟨⟨vs, ws, v, w, q, q', hv, hw⟩, fun u H' hu => ?_⟩
    obtain ⟨T, z, z', e, hT, eH, hu, hu'⟩ := hu
    have h3 := hu vs q
    rw [hv] at h3
    cases h3
    have h4 := hu' ws q'
    rw [hw] at h4
    cases h4
    rw [eH, e]
    exact new_pair rel hT rv rw
  · have hl : (zipD s.xs s'.xs).length ≤ i := hl
    unfold zipD at hl
    rw [List.length_map, List.length_zip] at hl
    rw [← r1.length, ← r2.length]
    omega
theorem walk_rng {c0 : Cfg} {lo : Int} {n : Nat} : WalkD K cm A c0 (Itr lo n) ⟨(List.range n).map fun (k : Nat) => D.int (lo + (k : Int)), []⟩ := fun B hB c x rel _ i => by
  refine ⟨fun y hy => ?_, fun hl => by
    have hl : ((List.range n).map fun (k : Nat) => D.int (lo + (k : Int))).length ≤ i := hl
    rw [List.length_map, List.length_range] at hl
    exact hl⟩
  rw [List.getElem?_map] at hy
  have hi : i < n := by
    by_cases hi : i < n
    · exact hi
    · rw [List.getElem?_eq_none (by simpa using Nat.le_of_not_lt hi)] at hy
      cases hy
  rw [List.getElem?_range hi] at hy
  cases hy
  refine ⟨hi, fun u H' hu => ?_⟩
  obtain ⟨e, hu⟩ := hu
  exact ⟨c, e.symm, rfl, .refl c, rel, hu⟩
end
/-- the things that one can walk as they are -/
def srcOf (S : Store) : D → Option Src
  | .lst xs => some ⟨xs, []⟩
  | .scr xs => some ⟨xs, []⟩
  | .loc n => match S[n]? with
    | some (.lst xs) => some ⟨xs, [(n, xs)]⟩
    | some (.frz xs) => some ⟨xs, [(n, xs)]⟩
    | _ => none
  | _ => none
theorem srcOf_rep {K : PySem.W.Frag} {A : Addr → Prop} {c : Cfg} {d : D} {v : V} {s : Src} (rel : RelC ⟨K, cm, A⟩ c) (r : Rp ⟨K, cm, A⟩ c d v) (e : srcOf c.S d = some s) : ∃ a, v = .ref a ∧ (∃ vs, SqL K c.H a vs) ∧ SeeL K cm A c a s ∧ s.held c.S := by
  cases d with
  | lst xs =>
    cases e
    obtain ⟨a, vs, e1, n, hH, r⟩ := r
    exact ⟨a, e1, ⟨vs, .inl (.inl hH)⟩, see_lst n hH r, held_nil⟩
  | scr xs =>
    cases e
    obtain ⟨a, vs, e1, q, r⟩ := r
    have all : ∀ {H : Hp}, SqL K (fun _ => none) a vs → SqL K H a vs := fun {H} h => by
      rcases h with (h | ⟨o, h⟩) | h
      · cases h
      · cases h
      · exact .inr h
    rcases q with ⟨n, o, h⟩ | h
    · exact ⟨a, e1, ⟨vs, .inl (.inr ⟨o, h⟩)⟩, fun B hB c' x rel' _ => ⟨vs, .inl (.inr ⟨o, (x.keep a _ (Own.not n) h).1⟩), RpA.mono x xs vs (RpA.more' (G := ⟨K, cm, A⟩) hB xs vs r)⟩, held_nil⟩
    · exact ⟨a, e1, ⟨vs, all h⟩, fun B hB c' x rel' _ => ⟨vs, all h, RpA.mono x xs vs (RpA.more' (G := ⟨K, cm, A⟩) hB xs vs r)⟩, held_nil⟩
  | loc m =>
    replace e : (match c.S[m]? with
      | some (.lst xs) => some (Src.mk xs [(m, xs)])
      | some (.frz xs) => some (Src.mk xs [(m, xs)])
      | _ => none) = some s := e
    split at e
    · rename_i xs hx
      cases e
      obtain ⟨a, e1, hφ, vs, hH, r⟩ := Rp.obj rel r hx
      exact ⟨a, e1, ⟨vs, .inl (.inl hH)⟩, see_loc hφ, held_one.mpr (.inl hx)⟩
    · rename_i xs hx
      cases e
      obtain ⟨a, e1, hφ, o, vs, hH, r⟩ := Rp.obj rel r hx
      exact ⟨a, e1, ⟨vs, .inl (.inr ⟨o, hH⟩)⟩, see_loc hφ, held_one.mpr (.inr hx)⟩
    · cases e
  | _ => cases e
def diList (e : DEv) : DIv := fun st S => (e st S).bind fun x S1 => match srcOf S1 x with
  | some s => .ok s S1
  | none => .no
theorem snd_ilist {K : PySem.W.Frag} {t : TE} {d : DEv} (s : Snd K cm E t d) : SndI K cm E (iList K t) (diList d) := fun A c st σ Q rel loc h => s A c st σ _ rel loc (Post.seq h fun x v c1 _ x1 rel1 rx h1 => by
  split at h1
  · rename_i s hs
    obtain ⟨a, e1, ex, see, held⟩ := srcOf_rep rel1 rx hs
    exact ⟨a, e1, ex, h1.here rel1 ⟨walk_lst see, held⟩⟩
  · exact h1.elim)
theorem di_list {tg e : Expr} {d : DEv} (h : DE X cm E e d) : DI X cm E tg e (diList d) := let ⟨_, p, s⟩ := h.ex; ⟨_, pi_list p, snd_ilist s⟩
def diTup (e : DEv) : DIv := fun st S => (e st S).bind fun x S1 => match x with
  | .tup xs => .ok ⟨xs, []⟩ S1
  | _ => .no
theorem snd_itup {K : PySem.W.Frag} {t : TE} {d : DEv} (s : Snd K cm E t d) : SndI K cm E (iTup K t) (diTup d) := fun A c st σ Q rel loc h => s A c st σ _ rel loc (Post.seq h fun x v c1 _ x1 rel1 rx h1 => by
  split at h1
  · obtain ⟨a, vs, e1, n, hH, r⟩ := rx
    exact ⟨a, e1, ⟨vs, .inl (.inl hH)⟩, h1.here rel1 ⟨walk_tup (see_tup n hH r), held_nil⟩⟩
  · exact h1.elim)
theorem di_tup {tg e : Expr} {d : DEv} (h : DE X cm E e d) : DI X cm E tg e (diTup d) := let ⟨_, p, s⟩ := h.ex; ⟨_, pi_tup p, snd_itup s⟩
/-- the signs of a text -/
def signsOf (x : Str) : List D := x.cps.toList.map fun k => .str ⟨#[k]⟩
def diStr (e : DEv) : DIv := fun st S => (e st S).bind fun x S1 => match x with
  | .str x => .ok ⟨signsOf x, []⟩ S1
  | _ => .no
theorem snd_istr {K : PySem.W.Frag} {t : TE} {d : DEv} (s : Snd K cm E t d) : SndI K cm E (iStr t) (diStr d) := fun A c st σ Q rel loc h => s A c st σ _ rel loc (Post.seq h fun x v c1 _ x1 rel1 rx h1 => by
  split at h1
  · rename_i x _
    refine ⟨x, rx.1, h1.here rel1 ⟨fun B hB c x' rel _ i => ⟨fun y hy => ?_, fun hl => ?_⟩, held_nil⟩⟩
    · have hy : (x.cps.toList.map fun k => D.str ⟨#[k]⟩)[i]? = some y := hy
      rw [List.getElem?_map] at hy
      obtain ⟨k, hk, e⟩ := Option.map_eq_some_iff.mp hy
      subst e
      have hi : i < x.cps.size := by
        have := (List.getElem?_eq_some_iff.mp hk).1
        simpa using this
      have hk' : x.cps[i]? = some k := by simpa using hk
      refine ⟨hi, fun u H' hu => ?_⟩
      obtain ⟨e, k', hk2, hu⟩ := hu
      rw [hk'] at hk2
      cases hk2
      have hm : k ∈ x.cps.toList := List.mem_of_getElem? hk
      have h' : (x.cps.all fun n => decide (n < 1114112)) = true := rx.2.1
      rw [← Array.all_toList, List.all_eq_true] at h'
      refine ⟨c, e.symm, rfl, .refl c, rel, hu, ?_, Nat.le_trans (show (1 : Nat) ≤ 1000 by decide) line1000⟩
      show (#[k].all fun n => decide (n < 1114112)) = true
      simpa using h' k hm
    · have hl : (x.cps.toList.map fun k => D.str ⟨#[k]⟩).length ≤ i := hl
      rw [List.length_map, Array.length_toList] at hl
      exact hl
  · exact h1.elim)
theorem di_str {tg e : Expr} {d : DEv} (h : DE X cm E e d) : DI X cm E tg e (diStr d) := let ⟨_, p, s⟩ := h.ex; ⟨_, pi_str p, snd_istr s⟩
theorem pi_or {tg e : Expr} {w w' : TI} (h : PI X tg e w) (h' : PI X tg e w') : PI X tg e (fun σ H R => w σ H R ∨ w' σ H R) := ⟨fun pins s σ H R I q => q.elim (h.run pins s σ H R I) (h'.run pins s σ H R I)⟩
/-- a list, a tuple, a text -/
def diAny (e : DEv) : DIv := fun st S => (e st S).bind fun x S1 => match x with
  | .tup xs => .ok ⟨xs, []⟩ S1
  | .str x => .ok ⟨signsOf x, []⟩ S1
  | x => match srcOf S1 x with
    | some s => .ok s S1
    | none => .no
theorem di_any {tg e : Expr} {d : DEv} (h : DE X cm E e d) : DI X cm E tg e (diAny d) := by
  obtain ⟨t, p, s⟩ := h.ex
  refine ⟨_, pi_or (pi_tup p) (pi_or (pi_str p) (pi_list p)), fun A c st σ Q rel loc h => ?_⟩
  have e1 : (diTup d st c.S = match d st c.S with | .ok (.tup xs) S1 => .ok ⟨xs, []⟩ S1 | .err x S => .err x S | _ => .no) := by
    unfold diTup
    cases d st c.S with
    | ok x S1 => cases x <;> rfl
    | _ => rfl
  cases q : d st c.S with
  | no => exact (show False by unfold diAny at h; rw [q] at h; exact h).elim
  | err x S =>
    refine .inl (snd_itup s A c st σ Q rel loc ?_)
    unfold diAny at h
    unfold diTup
    rw [q] at h ⊢
    exact h
  | ok x S1 =>
    have go : Post ⟨X.K, cm, A⟩ E (fun c' s J => WalkD X.K cm A c' J s ∧ s.held c'.S) c Q (diList d st c.S) → (iTup X.K t σ c.H Q ∨ (iStr t σ c.H Q ∨ iList X.K t σ c.H Q)) := fun z => .inr (.inr (snd_ilist s A c st σ Q rel loc z))
    cases x with
    | tup xs =>
      refine .inl (snd_itup s A c st σ Q rel loc ?_)
      unfold diAny at h
      unfold diTup
      rw [q] at h ⊢
      exact h
    | str x =>
      refine .inr (.inl (snd_istr s A c st σ Q rel loc ?_))
      unfold diAny at h
      unfold diStr
      rw [q] at h ⊢
      exact h
    | _ =>
      refine go ?_
      unfold diAny at h
      unfold diList
      rw [q] at h ⊢
      exact h
def rangeD (lo : Int) (n : Nat) : List D := (List.range n).map fun (k : Nat) => D.int (lo + (k : Int))
def diRng1 (a : DAv) : DIv := fun st S => (a st S).bind fun ds S1 => match ds with
  | [.int j] => if j < 2 ^ 60 ∧ -(2 ^ 60) ≤ j then .ok ⟨rangeD 0 j.toNat, []⟩ S1 else .no
  | _ => .no
def diRng2 (a : DAv) : DIv := fun st S => (a st S).bind fun ds S1 => match ds with
  | [.int i, .int j] => if j < 2 ^ 60 ∧ -(2 ^ 60) ≤ j ∧ i < 2 ^ 60 ∧ -(2 ^ 60) ≤ i then .ok ⟨rangeD i (j - i).toNat, []⟩ S1 else .no
  | _ => .no
theorem RpA.one {G : Gam} {c : Cfg} {x : D} {vs : List V} (h : RpA G c [x] vs) : ∃ v, vs = [v] ∧ Rp G c x v := let ⟨v, r, e, h1, t⟩ := h; ⟨v, by rw [e, show r = [] from t], h1⟩
theorem RpA.two {G : Gam} {c : Cfg} {x y : D} {vs : List V} (h : RpA G c [x, y] vs) : ∃ v w, vs = [v, w] ∧ Rp G c x v ∧ Rp G c y w := let ⟨v, r, e, h1, t⟩ := h; let ⟨w, e2, h2⟩ := RpA.one t; ⟨v, w, by rw [e, e2], h1, h2⟩
theorem RpA.three {G : Gam} {c : Cfg} {x y z : D} {vs : List V} (h : RpA G c [x, y, z] vs) : ∃ v w u, vs = [v, w, u] ∧ Rp G c x v ∧ Rp G c y w ∧ Rp G c z u := let ⟨v, r, e, h1, t⟩ := h; let ⟨w, u, e2, h2, h3⟩ := RpA.two t; ⟨v, w, u, by rw [e, e2], h1, h2, h3⟩
theorem di_rng1 {tg : Expr} {d : DAv} {p : Pos} (hg : Gl X "range") (hm : X.mg "range" = none) (h : DA X cm E [a] d) (hs : starEach [a] X.env = [(false, eval a X.env)] := by rfl) : DI X cm E tg (.Call (.Name "range" p) [a] [] pos) (diRng1 d) := by
  obtain ⟨t, p, s⟩ := h.ex
  refine ⟨_, pi_range1 hg hm p hs, fun A c st σ Q rel loc h => s A c st σ _ rel loc (Post.seq h fun ds vs c1 _ x1 rel1 rx h1 => ?_)⟩
  split at h1
  · split at h1
    · rename_i j _ hj
      obtain ⟨v, e, rv⟩ := RpA.one rx
      exact ⟨j, by rw [e, show v = .int j from rv], by omega, by omega, h1.here rel1 ⟨walk_rng, held_nil⟩⟩
    · exact h1.elim
  · exact h1.elim
theorem di_rng2 {tg : Expr} {d : DAv} {p : Pos} (hg : Gl X "range") (hm : X.mg "range" = none) (h : DA X cm E [a, b] d) (hs : starEach [a, b] X.env = [(false, eval a X.env), (false, eval b X.env)] := by rfl) (hs2 : starEach [b] X.env = [(false, eval b X.env)] := by rfl) :
    DI X cm E tg (.Call (.Name "range" p) [a, b] [] pos) (diRng2 d) := by
  obtain ⟨t, p, s⟩ := h.ex
  refine ⟨_, pi_range2 hg hm p hs hs2, fun A c st σ Q rel loc h => s A c st σ _ rel loc (Post.seq h fun ds vs c1 _ x1 rel1 rx h1 => ?_)⟩
  split at h1
  · split at h1
    · rename_i i j _ hj
      obtain ⟨v, w, e, rv, rw⟩ := RpA.two rx
      exact ⟨i, j, by rw [e, show v = .int i from rv, show w = .int j from rw], ⟨by omega, by omega, by omega, by omega⟩, h1.here rel1 ⟨walk_rng, held_nil⟩⟩
    · exact h1.elim
  · exact h1.elim
def diEnumerate (a : DAv) : DIv := fun st S => (a st S).bind fun ds S1 => match ds with
  | [x] => match srcOf S1 x with
    | some s => .ok ⟨(List.range s.xs.length).map fun (k : Nat) => .tup [.int (k : Int), s.xs.getD k .non], s.at_⟩ S1
    | none => .no
  | _ => .no
theorem di_enumerate {elts : List Expr} {kk : Nat} {tpos : Pos} {d : DAv} {p : Pos} (hg : Gl X "enumerate") (hm : X.mg "enumerate" = none) (h : DA X cm E [a] d) (hs : starEach [a] X.env = [(false, eval a X.env)] := by rfl) : DI X cm E (.Tuple elts kk tpos) (.Call (.Name "enumerate" p) [a] [] pos) (diEnumerate d) := by
  obtain ⟨t, p, s⟩ := h.ex
  refine ⟨_, pi_enum hg hm p hs, fun A c st σ Q rel loc h => s A c st σ _ rel loc (Post.seq h fun ds vs c1 _ x1 rel1 rx h1 => ?_)⟩
  split at h1
  · split at h1
    · rename_i s hs
      obtain ⟨v, e, rv⟩ := RpA.one rx
      obtain ⟨a, e1, ⟨vs', ex⟩, see, held⟩ := srcOf_rep rel1 rv hs
      exact ⟨a, vs', by rw [e, e1], ex, h1.here rel1 ⟨walk_enum see, held⟩⟩
    · exact h1.elim
  · exact h1.elim
def diZip (a : DAv) : DIv := fun st S => (a st S).bind fun ds S1 => match ds with
  | [.tup xs, .tup ys] => .ok ⟨zipD xs ys, []⟩ S1
  | [x, y] => match srcOf S1 x, srcOf S1 y with
    | some s, some s' => .ok ⟨zipD s.xs s'.xs, s.at_ ++ s'.at_⟩ S1
    | _, _ => .no
  | _ => .no
theorem di_zip {elts : List Expr} {kk : Nat} {tpos : Pos} {d : DAv} {p : Pos} (hg : Gl X "zip") (hm : X.mg "zip" = none) (h : DA X cm E [a, b] d) (hs : starEach [a, b] X.env = (false, eval a X.env) :: starEach [b] X.env := by rfl) (hpl : (backTo pos (starEach [b] X.env)).any (·.1) = false := by rfl) :
    DI X cm E (.Tuple elts kk tpos) (.Call (.Name "zip" p) [a, b] [] pos) (diZip d) := by
  obtain ⟨t, p, s⟩ := h.ex
  refine ⟨_, RZ.pi_zipA hg hm p hs hpl, fun A c st σ Q rel loc h => s A c st σ _ rel loc (Post.seq h fun ds vs c1 _ x1 rel1 rx h1 => ?_)⟩
  split at h1
  · obtain ⟨v, w, e, rv, rw⟩ := RpA.two rx
    obtain ⟨a, vs1, e1, n1, hH1, r1⟩ := rv
    obtain ⟨b, vs2, e2, n2, hH2, r2⟩ := rw
    exact ⟨a, b, vs1, vs2, by rw [e, e1, e2], .inr ⟨.inl (.inl hH1), .inl (.inl hH2), h1.here rel1 ⟨walk_zipT (see_tup n1 hH1 r1) (see_tup n2 hH2 r2), held_nil⟩⟩⟩
  · split at h1
    · rename_i s s' hs1 hs2
      obtain ⟨v, w, e, rv, rw⟩ := RpA.two rx
      obtain ⟨a, e1, ⟨vs1, ex1⟩, see1, held1⟩ := srcOf_rep rel1 rv hs1
      obtain ⟨b, e2, ⟨vs2, ex2⟩, see2, held2⟩ := srcOf_rep rel1 rw hs2
      exact ⟨a, b, vs1, vs2, by rw [e, e1, e2], .inl ⟨ex1, ex2, h1.here rel1 ⟨walk_zip see1 see2, fun p hp => (List.mem_append.mp hp).elim (held1 p) (held2 p)⟩⟩⟩
    · exact h1.elim
  · exact h1.elim
open Classical in
noncomputable def forD (s : Src) (g : DGv) (b : DSv) : List D → DSt → Store → R Fl
  | [], st, S => if s.held S then .ok (.nx st) S else .no
  | x :: xs, st, S => if s.held S then (g x st S).bind fun st1 S1 => match b st1 S1 with
      | .ok (.nx st2) S2 => forD s g b xs st2 S2
      | .ok (.ct st2) S2 => forD s g b xs st2 S2
      | .ok (.bk st2) S2 => .ok (.nx st2) S2
      | .ok (.rt d) S2 => .ok (.rt d) S2
      | .err x S2 => .err x S2
      | .no => .no
    else .no
noncomputable def dFor (i : DIv) (g : DGv) (b : DSv) : DSv := fun st S => (i st S).bind fun s S1 => forD s g b s.xs st S1
theorem snd_for {K : PySem.W.Frag} {wi : TI} {g : TG} {tb : TS} {di : DIv} {dg : DGv} {db : DSv} (si : SndI K cm E wi di) (sg : SndG K cm E g dg) (sb : SndS K cm E tb db) : SndS K cm E (tFor wi g tb) (dFor di dg db) := fun A c0 st σ Ds rel loc h => by
  refine si A c0 st σ _ rel loc (Post.seqS h fun s J c1 _ x1 rel1 ⟨wk, held1⟩ h1 => ?_)
  refine ⟨fun i m σ H => m = s.xs.length - i ∧ i ≤ s.xs.length ∧ ∃ c st, c.H = H ∧ Ext c1 c ∧ RelC ⟨K, cm, A⟩ c ∧ LocR ⟨K, cm, A⟩ c st σ ∧ PostS ⟨K, cm, A⟩ E c Ds (forD s dg db (s.xs.drop i) st c.S),
    ⟨_, rfl, Nat.zero_le _, c1, st, rfl, .refl c1, rel1, loc.mono x1, h1⟩, ?_⟩
  rintro i m σ H ⟨rfl, hi, c, st, rfl, x, relc, locc, hc⟩
  by_cases hlt : i < s.xs.length
  · rw [List.drop_eq_getElem_cons hlt] at hc
    unfold forD at hc
    split at hc
    · rename_i held
      obtain ⟨w1, _⟩ := wk A (fun a z => .inl z) c x relc held i
      obtain ⟨go, yld⟩ := w1 _ (List.getElem?_eq_getElem hlt)
      refine .inr ⟨go, fun σ' H' => ∃ c' st', c'.H = H' ∧ Ext c1 c' ∧ RelC ⟨K, cm, A⟩ c' ∧ LocR ⟨K, cm, A⟩ c' st' σ' ∧ PostS ⟨K, cm, A⟩ E c' Ds (forD s dg db (s.xs.drop (i + 1)) st' c'.S), fun σ' H' ⟨c', st', e1, e2, e3, e4, e5⟩ =>
        ⟨s.xs.length - (i + 1), by omega, rfl, hlt, c', st', e1, e2, e3, e4, e5⟩, fun v H' hy => ?_⟩
      obtain ⟨c2, e2, eS, x2, rel2, rv⟩ := yld v H' hy
      subst e2
      rw [← eS] at hc
      refine sg A c2 st σ _ v _ rel2 (locc.mono x2) rv (Post.seqS (PostS.trans x2 hc) fun st1 σ1 c3 _ x3 rel3 loc3 h3 => ?_)
      refine sb A c3 st1 σ1 _ rel3 loc3 ?_
      cases e : db st1 c3.S with
      | no => rw [e] at h3; exact h3
      | err z S => rw [e] at h3; exact h3
      | ok fl S =>
        rw [e] at h3
        cases fl with
        | nx st2 => exact fun σ' c' e' x' r' l' => ⟨c', st2, rfl, ((x.trans x2).trans x3).trans x', r', l', by rw [e']; exact PostS.trans x' h3⟩
        | ct st2 => exact fun σ' c' e' x' r' l' => ⟨c', st2, rfl, ((x.trans x2).trans x3).trans x', r', l', by rw [e']; exact PostS.trans x' h3⟩
        | bk st2 => exact h3
        | rt d => exact h3
    · exact hc.elim
  · have e : i = s.xs.length := by omega
    subst e
    rw [List.drop_length] at hc
    unfold forD at hc
    split at hc
    · rename_i held
      obtain ⟨_, w2⟩ := wk A (fun a z => .inl z) c x relc held s.xs.length
      exact .inl ⟨w2 (Nat.le_refl _), hc σ c rfl (.refl c) relc locc⟩
    · exact hc.elim
theorem ds_for {tg iter : Expr} {body : List Stmt} {di : DIv} {dg : DGv} {db : DSv} (G : GX X E k) (hi : DI X cm E tg iter di) (hg : DG X cm E tg dg) (hb : DSs X cm E body db) (hs : ∀ x, foldedSetIterable iter X.env x = pure x := by intro _; rfl) : DS X cm E (.For tg iter body [] pos) (dFor di dg db) := by
  obtain ⟨_, a1, b1⟩ := hi.ex
  obtain ⟨_, a2, b2⟩ := hg.ex
  obtain ⟨_, a3, b3⟩ := hb.ex
  exact ⟨_, ps_for G.own G.calm a1 a2 a3 hs, snd_for b1 b2 b3⟩
/-- while, at most n turns -/
def whileD (t : DTv) (b : DSv) : Nat → DSv
  | 0 => fun _ _ => .no
  | n + 1 => fun st S => (t st S).bind fun k S1 => if k = true then (match b st S1 with
      | .ok (.nx st2) S2 => whileD t b n st2 S2
      | .ok (.ct st2) S2 => whileD t b n st2 S2
      | .ok (.bk st2) S2 => .ok (.nx st2) S2
      | .ok (.rt d) S2 => .ok (.rt d) S2
      | .err x S2 => .err x S2
      | .no => .no) else .ok (.nx st) S1
theorem snd_while {K : PySem.W.Frag} {tc : TT} {tb : TS} {dt : DTv} {db : DSv} (st' : SndT K cm E tc dt) (sb : SndS K cm E tb db) (n : Nat) : SndS K cm E (tWhile tc tb) (whileD dt db n) := fun A c0 st σ Ds rel loc h => by
  refine ⟨fun m σ H => ∃ c st, c.H = H ∧ RelC ⟨K, cm, A⟩ c ∧ LocR ⟨K, cm, A⟩ c st σ ∧ PostS ⟨K, cm, A⟩ E c Ds (whileD dt db m st c.S), ⟨n, c0, st, rfl, rel, loc, h⟩, ?_⟩
  rintro m σ H ⟨c, st, rfl, relc, locc, hc⟩
  cases m with
  | zero => exact hc.elim
  | succ m =>
    refine st' A c st σ _ relc locc (Post.seqS hc fun k k' c1 _ x1 rel1 rk h1 => ?_)
    cases rk
    cases k with
    | false => exact h1 σ c1 rfl (.refl c1) rel1 (locc.mono x1)
    | true =>
      rw [if_pos rfl]
      rw [if_pos rfl] at h1
      refine ⟨fun σ' H' => ∃ c st, c.H = H' ∧ RelC ⟨K, cm, A⟩ c ∧ LocR ⟨K, cm, A⟩ c st σ' ∧ PostS ⟨K, cm, A⟩ E c Ds (whileD dt db m st c.S), fun σ' H' q => ⟨m, Nat.lt_succ_self _, q⟩, sb A c1 st σ _ rel1 (locc.mono x1) ?_⟩
      cases e : db st c1.S with
      | no => rw [e] at h1; exact h1
      | err z S => rw [e] at h1; exact h1
      | ok fl S =>
        rw [e] at h1
        cases fl with
        | nx st2 => exact fun σ' c' e' x' r' l' => ⟨c', st2, rfl, r', l', by rw [e']; exact PostS.trans x' h1⟩
        | ct st2 => exact fun σ' c' e' x' r' l' => ⟨c', st2, rfl, r', l', by rw [e']; exact PostS.trans x' h1⟩
        | bk st2 => exact h1
        | rt d => exact h1
theorem ds_while {t : Expr} {body : List Stmt} {dt : DTv} {db : DSv} (n : Nat) (G : GX X E k) (ht : DT X cm E t dt) (hb : DSs X cm E body db) : DS X cm E (.While t body [] pos) (whileD dt db n) := by
  obtain ⟨_, a2, b2⟩ := ht.ex
  obtain ⟨_, a3, b3⟩ := hb.ex
  exact ⟨_, ps_while G.own a2 a3, snd_while b2 b3 n⟩

/-! ### calls -/
def dCall (F : List D → Store → R D) (n : Nat) (a : DAv) : DEv := fun st S => (a st S).bind fun ds S1 => if ds.length = n then F ds S1 else .no
/-- what a def promises: it does as F does -/
def spD (K : PySem.W.Frag) (cm : String → Addr → Prop) (n : Nat) (F : List D → Store → R D) : Sp := fun vs H Q E => vs.length = n ∧ ∃ (A : Addr → Prop) (c : Cfg) (ds : List D), c.H = H ∧ RelC ⟨K, cm, A⟩ c ∧ RpA ⟨K, cm, A⟩ c ds vs ∧ Post ⟨K, cm, A⟩ E (Rp ⟨K, cm, A⟩) c Q (F ds c.S)
theorem RpA.const {G : Gam} {c : Cfg} : ∀ {ds : List D} {vs : List V}, ds.length = vs.length → (∀ p ∈ ds.zip vs, ∀ G c, Rp G c p.1 p.2) → RpA G c ds vs
  | [], [], _, _ => rfl
  | [], _ :: _, h, _ => by cases h
  | _ :: _, [], h, _ => by cases h
  | d :: ds, v :: vs, h, f => ⟨v, vs, rfl, f (d, v) (List.mem_cons_self) G c, RpA.const (Nat.succ.inj h) fun p hp => f p (List.mem_cons_of_mem _ hp)⟩
theorem snd_call {K : PySem.W.Frag} {F : List D → Store → R D} {n : Nat} {t : TA} {a : DAv} (s : SndA K cm E t a) : Snd K cm E (tCall (spD K cm n F) [] E t) (dCall F n a) := fun A c st σ Q rel loc h =>
  s A c st σ _ rel loc (Post.seq h fun ds vs c1 _ x1 rel1 rd h1 => by
    split at h1
    · rename_i hl
      rw [List.append_nil]
      exact ⟨by rw [← rd.length]; exact hl, A, c1, ds, rfl, rel1, rd, h1⟩
    · exact h1.elim)
def dCallD (F : List D → Store → R D) (n : Nat) (dd : List D) (a : DAv) : DEv := fun st S => (a st S).bind fun ds S1 => if (ds ++ dd).length = n then F (ds ++ dd) S1 else .no
theorem snd_callD {K : PySem.W.Frag} {F : List D → Store → R D} {n : Nat} {t : TA} {a : DAv} {dd : List D} {dvs : List V} (hd : ∀ G c, RpA G c dd dvs) (s : SndA K cm E t a) : Snd K cm E (tCall (spD K cm n F) dvs E t) (dCallD F n dd a) := fun A c st σ Q rel loc h =>
  s A c st σ _ rel loc (Post.seq h fun ds vs c1 _ x1 rel1 rd h1 => by
    have rr := rd.append (hd ⟨K, cm, A⟩ c1)
    split at h1
    · rename_i hl
      exact ⟨by rw [← rr.length]; exact hl, A, c1, ds ++ dd, rfl, rel1, rr, h1⟩
    · exact h1.elim)
section
variable {j n : Nat} {f : Addr} {fd : FuncData} {ps ks : List Str} {F : List D → Store → R D} {x : Str} {p : Pos} {e : Expr} {es : List Expr} {da : DAv} {dvs : List V} {dvl : List Value}
theorem de_call (G : GX X E k) (ok : FnOk X.prog X.w X.K X.mg X.base (CX X.prog X.w) j f fd ps (spD X.K cm n F)) (hr : Room j X.A) (hm : X.mg x = some (.ref f)) (hk : PySem.W.keepIn X.K (.ref f) = true) (hb : Binds X.K fd ps []) (ha : DA X cm E (e :: es) da) (hg : Gl X x := by rfl)
    (hdb : (x == ("__debug__" : Str)) = false := by decide) (he : starEach (e :: es) X.env = (false, eval e X.env) :: starEach es X.env := by rfl) (hpl : (backTo pos (starEach es X.env)).any (·.1) = false := by rfl) : DE X cm E (.Call (.Name x p) (e :: es) [] pos) (dCall F n da) :=
  let ⟨_, a, b⟩ := ha.ex; ⟨_, pe_call ok hr hg hm hk hb .nil G.pass a hdb he hpl, snd_call b⟩
theorem de_call0 (G : GX X E k) (ok : FnOk X.prog X.w X.K X.mg X.base (CX X.prog X.w) j f fd ps (spD X.K cm n F)) (hr : Room j X.A) (hm : X.mg x = some (.ref f)) (hk : PySem.W.keepIn X.K (.ref f) = true) (hb : Binds X.K fd ps []) (hg : Gl X x := by rfl)
    (hdb : (x == ("__debug__" : Str)) = false := by decide) : DE X cm E (.Call (.Name x p) [] [] pos) (dCall F n dNil) := ⟨_, pe_call0 ok hr hg hm hk hb .nil G.pass hdb, snd_call snd_nil⟩
theorem de_callD {dd : List D} (G : GX X E k) (ok : FnOk X.prog X.w X.K X.mg X.base (CX X.prog X.w) j f fd ps (spD X.K cm n F)) (hr : Room j X.A) (hm : X.mg x = some (.ref f)) (hk : PySem.W.keepIn X.K (.ref f) = true) (hb : Binds X.K fd ps dvl) (hv : Vals dvs dvl) (hd : ∀ G c, RpA G c dd dvs) (ha : DA X cm E (e :: es) da) (hg : Gl X x := by rfl)
    (hdb : (x == ("__debug__" : Str)) = false := by decide) (he : starEach (e :: es) X.env = (false, eval e X.env) :: starEach es X.env := by rfl) (hpl : (backTo pos (starEach es X.env)).any (·.1) = false := by rfl) : DE X cm E (.Call (.Name x p) (e :: es) [] pos) (dCallD F n dd da) :=
  let ⟨_, a, b⟩ := ha.ex; ⟨_, pe_call ok hr hg hm hk hb hv G.pass a hdb he hpl, snd_callD hd b⟩
/-- keywords -/
structure DK (X : Cx) (cm : String → Addr → Prop) (E : XK) (kws : List Keyword) (d : DAv) : Prop where
  ex : ∃ t, PK X kws t ∧ SndA X.K cm E t d
theorem dk_nil : DK X cm E [] dNil := ⟨_, pk_nil, snd_nil⟩
theorem dk_cons {nm : Option Str} {kpos : Pos} {kws : List Keyword} {d : DEv} {dr : DAv} (ha : DE X cm E e d) (hr : DK X cm E kws dr) : DK X cm E (⟨nm, e, kpos⟩ :: kws) (dCons d dr) := let ⟨_, a, b⟩ := ha.ex; let ⟨_, a', b'⟩ := hr.ex; ⟨_, pk_cons a a', snd_cons b b'⟩
def dCallK (F : List D → Store → R D) (m n l : Nat) (g : List D → List D → List D) (a kk : DAv) : DEv := fun st S => (a st S).bind fun ds S1 => (kk st S1).bind fun zs S2 => if ds.length = n ∧ zs.length = l ∧ (g ds zs).length = m then F (g ds zs) S2 else .no
theorem snd_callK {K : PySem.W.Frag} {F : List D → Store → R D} {m n l : Nat} {g : List D → List D → List D} {gV : List V → List V → List V} {t tk : TA} {a kk : DAv} (hrel : ∀ {G : Gam} {c : Cfg} {ds zs vs ws}, RpA G c ds vs → RpA G c zs ws → RpA G c (g ds zs) (gV vs ws)) (s : SndA K cm E t a) (s' : SndA K cm E tk kk) :
    Snd K cm E (tCallN n l (spD K cm m F) gV E t tk) (dCallK F m n l g a kk) := fun A c st σ Q rel loc h =>
  s A c st σ _ rel loc (Post.seq h fun ds vs c1 _ x1 rel1 rd h1 => s' A c1 st σ _ rel1 (loc.mono x1) (Post.seq h1 fun zs ws c2 _ x2 rel2 rz h2 => by
    split at h2
    · rename_i hl
      have rr := hrel (RpA.mono x2 ds vs rd) rz
      exact ⟨by rw [← rd.length]; exact hl.1, by rw [← rz.length]; exact hl.2.1, by rw [← rr.length]; exact hl.2.2, A, c2, _, rfl, rel2, rr, h2⟩
    · exact h2.elim))
variable {kws : List Keyword} {kk : DAv} {gU : List Value → List Value → List Value} {gV : List V → List V → List V} {g : List D → List D → List D} {m : Nat}
theorem de_callK (G : GX X E k) (ok : FnOk X.prog X.w X.K X.mg X.base (CX X.prog X.w) j f fd ps (spD X.K cm m F)) (hr : Room j X.A) (hm : X.mg x = some (.ref f)) (hk : PySem.W.keepIn X.K (.ref f) = true) (hb : KBn X.K fd ps n ks gU gV) (hrel : ∀ {G : Gam} {c : Cfg} {ds zs vs ws}, RpA G c ds vs → RpA G c zs ws → RpA G c (g ds zs) (gV vs ws))
    (ha : DA X cm E (e :: es) da) (hkw : DK X cm E kws kk) (hg : Gl X x := by rfl) (hall : (backToKw pos (keywordEach kws X.env)).all (·.1.isSome) = true := by rfl) (hks : (backToKw pos (keywordEach kws X.env)).filterMap (·.1) = ks := by rfl)
    (hdb : (x == ("__debug__" : Str)) = false := by decide) (he : starEach (e :: es) X.env = (false, eval e X.env) :: starEach es X.env := by rfl)
    (hpl : ((backTo pos (starEach (e :: es) X.env)).any (·.1) || (backToKw pos (keywordEach kws X.env)).any (·.1.isNone)) = false := by rfl) : DE X cm E (.Call (.Name x p) (e :: es) kws pos) (dCallK F m n ks.length g da kk) :=
  let ⟨_, a, b⟩ := ha.ex; let ⟨_, a', b'⟩ := hkw.ex; ⟨_, pe_callN ok hr hg hm hk hb G.pass a a' hall hks hdb he hpl, snd_callK hrel b b'⟩
theorem pe_callN0 {sp : Sp} {tk : TA} (F : FnOk X.prog X.w X.K X.mg X.base (CX X.prog X.w) j f fd ps sp) (hr : Room j X.A) (hg : Gl X x) (hm : X.mg x = some (.ref f)) (hk : PySem.W.keepIn X.K (.ref f) = true) (hb : KBn X.K fd ps 0 ks gU gV) (hx : Passes (CX X.prog X.w) X E)
    (hkw : PK X kws tk) (hall : (backToKw pos (keywordEach kws X.env)).all (·.1.isSome) = true := by rfl) (hks : (backToKw pos (keywordEach kws X.env)).filterMap (·.1) = ks := by rfl)
    (hdb : (x == ("__debug__" : Str)) = false := by decide) (hpl : ((backTo pos (starEach [] X.env)).any (·.1) || (backToKw pos (keywordEach kws X.env)).any (·.1.isNone)) = false := by rfl) :
    PE X (.Call (.Name x p) [] kws pos) (tCallN 0 ks.length sp gV E tNil tk) := by
  refine ⟨fun pins s σ H Q I h => ?_⟩
  refine wpAny_Call_Name_kw (ld_glob I hg hm ?_ hdb)
  refine PySem.W.callWith_KW0 (h₀ := X.base) I.ok.mod.kin hk hall ?_ hpl
  refine thn (hkw.run pos pins s σ H _ I h) fun ws s2 ⟨zs, H2, I2, rz, l1, l2, q2⟩ => ⟨I2.kIn, ?_⟩
  rw [hks]
  exact run_fnN (us := []) (vs := []) F hr hb hx I2 .nil rz rfl l2 q2
theorem de_callK0 (G : GX X E k) (ok : FnOk X.prog X.w X.K X.mg X.base (CX X.prog X.w) j f fd ps (spD X.K cm m F)) (hr : Room j X.A) (hm : X.mg x = some (.ref f)) (hk : PySem.W.keepIn X.K (.ref f) = true) (hb : KBn X.K fd ps 0 ks gU gV) (hrel : ∀ {G : Gam} {c : Cfg} {ds zs vs ws}, RpA G c ds vs → RpA G c zs ws → RpA G c (g ds zs) (gV vs ws))
    (hkw : DK X cm E kws kk) (hg : Gl X x := by rfl) (hall : (backToKw pos (keywordEach kws X.env)).all (·.1.isSome) = true := by rfl) (hks : (backToKw pos (keywordEach kws X.env)).filterMap (·.1) = ks := by rfl)
    (hdb : (x == ("__debug__" : Str)) = false := by decide) (hpl : ((backTo pos (starEach [] X.env)).any (·.1) || (backToKw pos (keywordEach kws X.env)).any (·.1.isNone)) = false := by rfl) : DE X cm E (.Call (.Name x p) [] kws pos) (dCallK F m 0 ks.length g dNil kk) :=
  let ⟨_, a', b'⟩ := hkw.ex; ⟨_, pe_callN0 ok hr hg hm hk hb G.pass a' hall hks hdb hpl, snd_callK hrel snd_nil b'⟩
end
theorem RpA.getD {G : Gam} {c : Cfg} : ∀ {ds : List D} {vs : List V} (i : Nat), RpA G c ds vs → Rp G c (ds.getD i .non) (vs.getD i .non)
  | [], _, i, h => by
    cases h
    rw [List.getD_nil, List.getD_nil]
    rfl
  | _ :: _, _, 0, ⟨v, r, e, h, _⟩ => by rw [e]; exact h
  | _ :: _, _, i + 1, ⟨v, r, e, _, t⟩ => by
    rw [e, List.getD_cons_succ, List.getD_cons_succ]
    exact RpA.getD i t
theorem RpA.cons {G : Gam} {c : Cfg} {d : D} {v : V} {ds : List D} {vs : List V} (h : Rp G c d v) (t : RpA G c ds vs) : RpA G c (d :: ds) (v :: vs) := ⟨v, vs, rfl, h, t⟩
theorem RpA.nil {G : Gam} {c : Cfg} : RpA G c [] [] := rfl
theorem vals_getD : ∀ {vs : List V} {us : List Value} (i : Nat), Vals vs us → RelV (vs.getD i .non) (us.getD i .none)
  | _, _, _, .nil => rfl
  | _, _, 0, .cons h _ => h
  | _ :: vs, _ :: us, i + 1, .cons _ t => by
    rw [List.getD_cons_succ, List.getD_cons_succ]
    exact vals_getD i t

/-! ### a def by its body -/
def runD (d : DSv) (N : Nat) (ds : List D) (S : Store) : R D := match d (ds.map some ++ List.replicate (N - ds.length) none) S with
  | .ok (.nx _) S' => .ok .non S'
  | .ok (.rt v) S' => .ok v S'
  | .ok (.bk _) _ => .no
  | .ok (.ct _) _ => .no
  | .err x S' => .err x S'
  | .no => .no
theorem LocR.start {G : Gam} {c : Cfg} {N : Nat} : ∀ {ds : List D} {vs : List V}, RpA G c ds vs → LocR G c (ds.map some ++ List.replicate (N - ds.length) none) (vs.map some ++ List.replicate (N - vs.length) none) := fun {ds vs} r => by
  have hl := r.length
  refine ⟨by simp [hl], fun i d e => ?_⟩
  by_cases hi : i < ds.length
  · rw [List.getElem?_append_left (by simpa using hi), List.getElem?_map] at e
    rw [List.getElem?_append_left (by simpa [← hl] using hi), List.getElem?_map]
    cases q : ds[i]? with
    | none => rw [q] at e; cases e
    | some y =>
      rw [q] at e
      cases e
      obtain ⟨v, h1, h2⟩ := r.get q
      exact ⟨v, by rw [h1]; rfl, h2⟩
  · rw [List.getElem?_append_right (by simpa using Nat.le_of_not_lt hi), List.getElem?_replicate] at e
    split at e <;> cases e
section
variable {P : Program} {w : World} {K : PySem.W.Frag} {mg : Str → Option Value} {base : Heap} {x qual : Str} {params : Arguments} {body : List Stmt} {scope : Scope} {dvs : List V} {kws : List (Str × V)} {f : Addr} {fd : FuncData} {N ps : List Str} {k : Nat}
theorem okD {d : DSv} (F : FunD K x qual params body scope dvs kws f fd) (S : FnScope N ps scope)
    (h : ∀ (cdv : Value) (A : Around) (outer : List Env) (s : Shared) (H : Hp) (E : XK), GX (cxOf (CX P w) P w K mg base N qual scope f cdv A outer s H E) E k → DSs (cxOf (CX P w) P w K mg base N qual scope f cdv A outer s H E) cm E body d) :
    FnOk P w K mg base (CX P w) (k + 1) f fd ps (spD K cm ps.length (runD d N.length)) := by
  refine F.ok S (fun vs H Q E h => h.1) fun cdv A outer s H vs Q E hr hsp => ?_
  obtain ⟨hl, B, c, ds, rfl, rel, rd, post⟩ := hsp
  obtain ⟨t, p, sn⟩ := (h cdv A outer s c.H E ⟨rfl, S.nd, hr, passes_call (takes_of rfl rfl rfl rfl) (fun _ _ _ _ z => z), passes_of rfl⟩).ex
  refine ⟨t, p, sn B c _ _ _ rel (LocR.start (N := N.length) rd) ?_⟩
  unfold runD at post
  split at post
  · rename_i st' S' e
    rw [e]
    exact fun σ' c' e' x' r' l' => post .non c' e' x' r' rfl
  · rename_i v S' e
    rw [e]
    exact fun v' c' e' x' r' rr => post v' c' e' x' r' rr
  · exact post.elim
  · exact post.elim
  · rename_i z S' e
    rw [e]
    exact post
  · exact post.elim
end

/-! ### list comprehensions -/
def R.mute {α : Type} : R α → R α
  | .err _ _ => .no
  | r => r
theorem Post.unmute {α β : Type} {G : Gam} {E E' : XK} {rp : Cfg → α → β → Prop} {c : Cfg} {Q : β → Hp → Prop} : ∀ {r : R α}, Post G E rp c Q r.mute → Post G E' rp c Q r
  | .ok _ _, h => h
  | .err _ _, h => h.elim
  | .no, h => h
def wipeD (st : DSt) : List Nat → DSt
  | [] => st
  | v :: vs => (wipeD st vs).set v none
theorem LocR.wipes {G : Gam} {c : Cfg} {st : DSt} {σ : L2.St} (h : LocR G c st σ) : ∀ vs : List Nat, LocR G c (wipeD st vs) (L2.wipe σ vs)
  | [] => h
  | v :: vs => by
    show LocR G c ((wipeD st vs).set v none) ((L2.wipe σ vs).set v none)
    exact (LocR.wipes h vs).wipe
theorem wipe_wipe {σ : L2.St} {vs : List Nat} : wipe (wipe σ vs) vs = wipe σ vs := by
  have go : ∀ (us : List Nat), (∀ u ∈ us, u ∈ vs) → wipe (wipe σ us) vs = wipe σ vs := by
    intro us
    induction us with
    | nil => intro _; rfl
    | cons u us ih =>
      intro h
      show wipe ((wipe σ us).set u none) vs = _
      rw [wipe_set (h u List.mem_cons_self)]
      exact ih fun x hx => h x (List.mem_cons_of_mem _ hx)
  exact go vs fun _ h => h
open Classical in
noncomputable def lcD (s : Src) (g : DGv) (t : DTv) (e : DEv) (st : DSt) : List D → List D → Store → R (List D)
  | [], acc, S => if s.held S then .ok acc S else .no
  | x :: xs, acc, S => if s.held S ∧ acc.length < 1000000 then ((g x st S).bind fun st1 S1 => (t st1 S1).bind fun k S2 => if k = true then (e st1 S2).bind fun y S3 => .ok (some y) S3 else .ok none S2).mute.bind fun o S3 => match o with
      | some y => lcD s g t e st xs (acc ++ [y]) S3
      | none => lcD s g t e st xs acc S3
    else .no
noncomputable def dLc (i : DIv) (g : DGv) (t : DTv) (e : DEv) (vs : List Nat) : DEv := fun st S => (i st S).bind fun s S1 => (lcD s g t e (wipeD st vs) s.xs [] S1).bind fun acc S2 => .ok (.lst acc) S2
theorem Ext.unlay {G : Gam} {c c' : Cfg} {p : Addr} {o : HO} (r : RelC G c) (hp : c.H p = none) (x : Ext ⟨c.φ, c.S, upd c.H p o⟩ c') : Ext c c' := (Ext.lay r hp).trans x
theorem snd_lc {K : PySem.W.Frag} {wi : TI} {g : TG} {tt : TT} {te : TE} {vs : List Nat} {di : DIv} {dg : DGv} {dt : DTv} {de : DEv} (si : SndI K cm E wi di) (sg : SndG K cm E0 g dg) (og : OnlyG vs g) (st' : SndT K cm E0 tt dt) (se : Snd K cm E0 te de) :
    Snd K cm E (tLc wi g tt te vs) (dLc di dg dt de vs) := fun A c0 st σ Q rel loc h => by
  refine si A c0 st σ _ rel loc (Post.seq h fun s J c1 _ x1 rel1 ⟨wk, held1⟩ h1 => ?_)
  intro p hp
  have relp : RelC ⟨K, cm, fun a => A a ∨ a = p⟩ ⟨c1.φ, c1.S, upd c1.H p (.lst [])⟩ := RelC.more rel1 hp
  have xp : Ext c1 ⟨c1.φ, c1.S, upd c1.H p (.lst [])⟩ := Ext.lay rel1 hp
  have locp : LocR ⟨K, cm, fun a => A a ∨ a = p⟩ ⟨c1.φ, c1.S, upd c1.H p (.lst [])⟩ (wipeD st vs) (wipe σ vs) := ((loc.mono x1).wipes vs |>.more hp).mono xp
  have nlive : ∀ {c : Cfg}, Ext ⟨c1.φ, c1.S, upd c1.H p (.lst [])⟩ c → ¬ Live c p := fun {c} x => (x.keep p _ (fun l => by
    obtain ⟨n, o, q, _⟩ := l
    exact phi_ne rel1 hp q rfl) upd_same).2
  refine ⟨fun i m H => m = s.xs.length - i ∧ i ≤ s.xs.length ∧ ∃ c acc ws, c.H = H ∧ Ext c1 c ∧ (∀ n : Nat, c.φ[n]? ≠ some p) ∧ RelC ⟨K, cm, fun a => A a ∨ a = p⟩ c ∧ LocR ⟨K, cm, fun a => A a ∨ a = p⟩ c (wipeD st vs) (wipe σ vs) ∧ c.H p = some (.lst ws) ∧ RpA ⟨K, cm, fun a => A a ∨ a = p⟩ c acc ws ∧
      Post ⟨K, cm, A⟩ E (Rp ⟨K, cm, A⟩) c1 Q ((lcD s dg dt de (wipeD st vs) (s.xs.drop i) acc c.S).bind fun acc S2 => .ok (.lst acc) S2),
    ⟨_, rfl, Nat.zero_le _, ⟨c1.φ, c1.S, upd c1.H p (.lst [])⟩, [], [], rfl, xp, fun n z => phi_ne rel1 hp z rfl, relp, locp, upd_same, rfl, h1⟩, ?_⟩
  rintro i m H ⟨rfl, hi, c, acc, ws, rfl, x, nφ, relc, locc, hH, ra, hc⟩
  by_cases hlt : i < s.xs.length
  · rw [List.drop_eq_getElem_cons hlt] at hc
    unfold lcD at hc
    split at hc
    · rename_i held
      obtain ⟨w1, _⟩ := wk (fun a => A a ∨ a = p) (fun a z => z.elim .inl fun z => .inr (z ▸ hp)) c x relc held.1 i
      obtain ⟨go, yld⟩ := w1 _ (List.getElem?_eq_getElem hlt)
      refine .inr ⟨go, fun H' => ∃ c' acc' ws', c'.H = H' ∧ Ext c1 c' ∧ (∀ n : Nat, c'.φ[n]? ≠ some p) ∧ RelC ⟨K, cm, fun a => A a ∨ a = p⟩ c' ∧ LocR ⟨K, cm, fun a => A a ∨ a = p⟩ c' (wipeD st vs) (wipe σ vs) ∧ c'.H p = some (.lst ws') ∧ RpA ⟨K, cm, fun a => A a ∨ a = p⟩ c' acc' ws' ∧
          Post ⟨K, cm, A⟩ E (Rp ⟨K, cm, A⟩) c1 Q ((lcD s dg dt de (wipeD st vs) (s.xs.drop (i + 1)) acc' c'.S).bind fun acc S2 => .ok (.lst acc) S2),
        fun H' ⟨c', acc', ws', e1, e2, e3, e4, e5, e6, e7, e8⟩ => ⟨s.xs.length - (i + 1), by omega, rfl, hlt, c', acc', ws', e1, e2, e3, e4, e5, e6, e7, e8⟩, fun v H' hy => ?_⟩
      obtain ⟨c2, e2, eS, x2, rel2, rv⟩ := yld v H' hy
      subst e2
      -- what the rest of the walk gives, whatever the turn gives
      have key : Post ⟨K, cm, fun a => A a ∨ a = p⟩ E0 (fun _ (a : Option D) (b : Option D) => a = b) c2 (fun o H' => True) ((dg s.xs[i] (wipeD st vs) c2.S).bind fun st1 S1 => (dt st1 S1).bind fun k S2 => if k = true then (de st1 S2).bind fun y S3 => .ok (some y) S3 else .ok none S2) := by
        rw [eS]
        cases q : ((dg s.xs[i] (wipeD st vs) c.S).bind fun st1 S1 => (dt st1 S1).bind fun k S2 => if k = true then (de st1 S2).bind fun y S3 => .ok (some y) S3 else .ok none S2) with
        | no => rw [q] at hc; exact hc.elim
        | err z S => rw [q] at hc; exact hc.elim
        | ok o S => exact fun _ _ _ _ _ _ => True.intro
      have hc' : ∀ o S', ((dg s.xs[i] (wipeD st vs) c2.S).bind fun st1 S1 => (dt st1 S1).bind fun k S2 => if k = true then (de st1 S2).bind fun y S3 => .ok (some y) S3 else .ok none S2) = R.ok o S' →
          Post ⟨K, cm, A⟩ E (Rp ⟨K, cm, A⟩) c1 Q (R.bind (match o with
            | some y => lcD s dg dt de (wipeD st vs) (s.xs.drop (i + 1)) (acc ++ [y]) S'
            | none => lcD s dg dt de (wipeD st vs) (s.xs.drop (i + 1)) acc S') fun acc S2 => .ok (.lst acc) S2) := fun o S' q => by
        rw [eS] at q
        rw [q] at hc
        exact hc
      have keepH : ∀ {c' : Cfg}, Ext c2 c' → c'.H p = some (.lst ws) := fun {c'} x' => by
        have x3 : Ext c c' := x2.trans x'
        have nl : ¬ Live c p := fun ⟨n, o, q, _⟩ => nφ n q
        exact (x3.keep p _ nl hH).1
      have keepφ : ∀ {c' : Cfg}, Ext c2 c' → ∀ n : Nat, c'.φ[n]? ≠ some p := fun {c'} x' n z => by
        rcases x'.new n p z with h | h
        · rcases x2.new n p h with h | h
          · exact nφ n h
          · rw [hH] at h; cases h
        · obtain ⟨o', ho'⟩ := x2.dom p _ hH
          rw [h] at ho'
          cases ho'
      refine og v (wipe σ vs) c2.H _ _ (fun σ2 H2 e q => ⟨by rw [e]; exact wipe_wipe, q⟩) (sg _ c2 (wipeD st vs) (wipe σ vs) _ v _ rel2 (locc.mono x2) rv (Post.seq key fun st1 σ1 c3 q3 x3 rel3 loc3 h3 => ?_))
      refine st' _ c3 st1 σ1 _ rel3 loc3 (Post.seq h3 fun k k' c4 q4 x4 rel4 rk h4 => ?_)
      cases rk
      have run : ((dg s.xs[i] (wipeD st vs) c2.S).bind fun st1 S1 => (dt st1 S1).bind fun k S2 => if k = true then (de st1 S2).bind fun y S3 => R.ok (some y) S3 else .ok none S2) = if k = true then (de st1 c4.S).bind fun y S3 => .ok (some y) S3 else .ok none c4.S := by
        rw [q3, R.bind_ok, q4, R.bind_ok]
      cases k with
      | true =>
        rw [if_pos rfl]
        rw [if_pos rfl] at h4 run
        refine se _ c4 st1 σ1 _ rel4 (loc3.mono x4) (Post.seq h4 fun y u c5 q5 x5 rel5 ru h5 => ?_)
        rw [q5, R.bind_ok] at run
        have x25 : Ext c2 c5 := (x3.trans x4).trans x5
        have hp5 := keepH x25
        have n5 := keepφ x25
        refine ⟨ws, hp5, by have := ra.length; have := held.2; rw [sizeLine_eq]; omega, ⟨c5.φ, c5.S, upd c5.H p (.lst (ws ++ [u]))⟩, acc ++ [y], ws ++ [u], rfl, Ext.aside c1.H c1 (((x.trans x2).trans x25)) hp, n5, rel5.aside (.inr rfl) n5, ?_, upd_same, ?_, hc' (some y) c5.S run⟩
        · have l5 := (locc.mono x2).mono x25
          exact ⟨l5.1, fun i d e => let ⟨v, e1, r⟩ := l5.2 i d e; ⟨v, e1, Rp.aside (Or.inr rfl : A p ∨ p = p) d v r⟩⟩
        · exact RpA.aside (Or.inr rfl : A p ∨ p = p) _ _ ((RpA.mono x25 _ _ (RpA.mono x2 _ _ ra)).append ⟨u, [], rfl, ru, rfl⟩)
      | false =>
        rw [if_neg Bool.false_ne_true]
        rw [if_neg Bool.false_ne_true] at run
        have x24 : Ext c2 c4 := x3.trans x4
        exact ⟨c4, acc, ws, rfl, (x.trans x2).trans x24, keepφ x24, rel4, (locc.mono x2).mono x24, keepH x24, RpA.mono x24 _ _ (RpA.mono x2 _ _ ra), hc' none c4.S run⟩
    · exact hc.elim
  · have e : i = s.xs.length := by omega
    subst e
    rw [List.drop_length] at hc
    unfold lcD at hc
    split at hc
    · rename_i held
      obtain ⟨_, w2⟩ := wk (fun a => A a ∨ a = p) (fun a z => z.elim .inl fun z => .inr (z ▸ hp)) c x relc held s.xs.length
      refine .inl ⟨w2 (Nat.le_refl _), hc (.ref p) c rfl x (relc.less fun a z => .inl z) ⟨p, ws, rfl, fun z => z.elim (fun z => ?_) fun ⟨n, o, q, _⟩ => nφ n q, hH, RpA.less (G := ⟨K, cm, fun a => A a ∨ a = p⟩) (fun a z => Or.inl z) _ _ ra⟩⟩
      exact notA_new rel1 hp z
    · exact hc.elim

/-! ### list comprehensions as rules -/
def canonE (K : PySem.W.Frag) (cm : String → Addr → Prop) (E : XK) (d : DEv) : TE := fun σ H Q => ∃ (A : Addr → Prop) (c : Cfg) (st : DSt), c.H = H ∧ RelC ⟨K, cm, A⟩ c ∧ LocR ⟨K, cm, A⟩ c st σ ∧ Post ⟨K, cm, A⟩ E (Rp ⟨K, cm, A⟩) c Q (d st c.S)
def canonT (K : PySem.W.Frag) (cm : String → Addr → Prop) (E : XK) (d : DTv) : TT := fun σ H Q => ∃ (A : Addr → Prop) (c : Cfg) (st : DSt), c.H = H ∧ RelC ⟨K, cm, A⟩ c ∧ LocR ⟨K, cm, A⟩ c st σ ∧ Post ⟨K, cm, A⟩ E (fun _ a b => a = b) c Q (d st c.S)
theorem DE.canon {e : Expr} {d : DEv} (h : DE X cm E e d) : PE X e (canonE X.K cm E d) := by
  obtain ⟨t, p, s⟩ := h.ex
  refine ⟨fun pins st σ H Q I ⟨A, c, ds, e, rel, loc, post⟩ => ?_⟩
  subst e
  exact p.run pins st σ c.H Q I (s A c ds σ Q rel loc post)
theorem snd_canonE {K : PySem.W.Frag} {d : DEv} : Snd K cm E (canonE K cm E d) d := fun A c st σ Q rel loc h => ⟨A, c, st, rfl, rel, loc, h⟩
theorem snd_canonT {K : PySem.W.Frag} {d : DTv} : SndT K cm E (canonT K cm E d) d := fun A c st σ Q rel loc h => ⟨A, c, st, rfl, rel, loc, h⟩
structure DTs (X : Cx) (cm : String → Addr → Prop) (E : XK) (es : List Expr) (d : DTv) : Prop where
  ex : ∃ t, PTs X es t ∧ SndT X.K cm E t d
def dYes : DTv := fun _ S => .ok true S
theorem dts_nil : DTs X cm E [] dYes := ⟨_, pts_nil, fun A c st σ Q rel loc h => h.here rel rfl⟩
theorem dts_one {e : Expr} {d : DTv} (h : DT X cm E e d) : DTs X cm E [e] d := let ⟨_, a, b⟩ := h.ex; ⟨_, pts_one a, b⟩
theorem DTs.canon {es : List Expr} {d : DTv} (h : DTs X cm E es d) : PTs X es (canonT X.K cm E d) := by
  obtain ⟨t, p, s⟩ := h.ex
  refine ⟨fun pins st σ H Q I ⟨A, c, ds, e, rel, loc, post⟩ => ?_⟩
  subst e
  exact p.run pins st σ c.H Q I (s A c ds σ Q rel loc post)
theorem GX.blk {k : Nat} (G : GX X E k) (s : Shared) (H : Hp) (scope : Scope) (ce : Env) (fp : List Addr) : GX (X.blk s H scope ce fp) E0 k :=
  ⟨G.calm, G.nd, G.room, passL, PassesOwn.never⟩
section
variable {elt tg iter : Expr} {ifs : List Expr} {scope : Scope} {own : List (Str × Nat)} {di : DIv} {dg : DGv} {g : TG} {dt : DTv} {de : DEv}
theorem de_lc (G : GX X E k) (hi : DI X cm E tg iter di) (ok : BlkOk X.N X.env.scope scope own)
    (hg : ∀ (s : Shared) (H : Hp) (C : Addr) (cl : List (Str × Addr)) (fp : List Addr), GX (X.blk s H scope (compEnvC scope cl C X.env) fp) E0 k → DGo (X.blk s H scope (compEnvC scope cl C X.env) fp) cm E0 tg (own.map (·.2)) dg g)
    (ht : ∀ (s : Shared) (H : Hp) (C : Addr) (cl : List (Str × Addr)) (fp : List Addr), GX (X.blk s H scope (compEnvC scope cl C X.env) fp) E0 k → DTs (X.blk s H scope (compEnvC scope cl C X.env) fp) cm E0 ifs dt)
    (he : ∀ (s : Shared) (H : Hp) (C : Addr) (cl : List (Str × Addr)) (fp : List Addr), GX (X.blk s H scope (compEnvC scope cl C X.env) fp) E0 k → DE (X.blk s H scope (compEnvC scope cl C X.env) fp) cm E0 elt de)
    (hs : ∀ x, foldedSetIterable iter X.env x = pure x := by intro _; rfl) : DE X cm E (.ListComp elt [⟨tg, iter, ifs, 0⟩] scope pos) (dLc di dg dt de (own.map (·.2))) := by
  obtain ⟨ti, pi, si⟩ := hi.ex
  have o := hg {} (fun _ => none) 0 [] [] (G.blk _ _ _ _ _)
  refine ⟨_, pe_lc (g := g) (tt := canonT X.K cm E0 dt) (te := canonE X.K cm E0 de) G.calm G.nd pi ok (fun s H C cl fp => (hg s H C cl fp (G.blk _ _ _ _ _)).pg) (fun s H C cl fp => (ht s H C cl fp (G.blk _ _ _ _ _)).canon) (fun s H C cl fp => (he s H C cl fp (G.blk _ _ _ _ _)).canon) hs, ?_⟩
  exact snd_lc si o.snd o.only snd_canonT snd_canonE
theorem ds_setLc {i : Nat} {y : Str} {py spos : Pos} (G : GX X E k) (hsw : swapsWith (.ListComp elt [⟨tg, iter, ifs, 0⟩] scope pos) (some (.Name y py)) spos.line X.env = pure true) (hi : DI X cm E tg iter di) (ok : BlkOk X.N X.env.scope scope own)
    (hg : ∀ (s : Shared) (H : Hp) (C : Addr) (cl : List (Str × Addr)) (fp : List Addr), GX (X.blk s H scope (compEnvC scope cl C X.env) fp) E0 k → DGo (X.blk s H scope (compEnvC scope cl C X.env) fp) cm E0 tg (own.map (·.2)) dg g)
    (ht : ∀ (s : Shared) (H : Hp) (C : Addr) (cl : List (Str × Addr)) (fp : List Addr), GX (X.blk s H scope (compEnvC scope cl C X.env) fp) E0 k → DTs (X.blk s H scope (compEnvC scope cl C X.env) fp) cm E0 ifs dt)
    (he : ∀ (s : Shared) (H : Hp) (C : Addr) (cl : List (Str × Addr)) (fp : List Addr), GX (X.blk s H scope (compEnvC scope cl C X.env) fp) E0 k → DE (X.blk s H scope (compEnvC scope cl C X.env) fp) cm E0 elt de)
    (hy : X.N[i]? = some y := by rfl) (hyl : X.env.scope.names.lookup y = some .local := by rfl) (hs : ∀ x, foldedSetIterable iter X.env x = pure x := by intro _; rfl) : DS X cm E (.Assign [.Name y py] (.ListComp elt [⟨tg, iter, ifs, 0⟩] scope pos) spos) (dSet i (dLc di dg dt de (own.map (·.2)))) := by
  obtain ⟨ti, pi, si⟩ := hi.ex
  have o := hg {} (fun _ => none) 0 [] [] (G.blk _ _ _ _ _)
  refine ⟨_, ps_setLc (g := g) (tt := canonT X.K cm E0 dt) (te := canonE X.K cm E0 de) G.calm G.nd hy hyl hsw pi ok (fun s H C cl fp => (hg s H C cl fp (G.blk _ _ _ _ _)).pg) (fun s H C cl fp => (ht s H C cl fp (G.blk _ _ _ _ _)).canon) (fun s H C cl fp => (he s H C cl fp (G.blk _ _ _ _ _)).canon) hs, ?_⟩
  have sn := snd_lc si o.snd o.only (snd_canonT (cm := cm) (E := E0) (K := X.K) (d := dt)) (snd_canonE (K := X.K) (cm := cm) (E := E0) (d := de))
  exact fun A c st σ Ds rel loc h => sn A c st σ _ rel loc (Post.seqS h fun x v c1 _ x1 rel1 rx h1 => h1 _ c1 rfl (.refl c1) rel1 ((loc.mono x1).set rx))
end

/-! ### built-ins -/
def NoErrA (f : List D → Store → R D) : Prop := ∀ ds S, R.calm (f ds S)
def CallS (K : PySem.W.Frag) (cm : String → Addr → Prop) (r : List V → Hp → VK → Prop) (F : List D → Store → R D) : Prop := ∀ (A : Addr → Prop) (c : Cfg) (ds : List D) (vs : List V) (Q : VK), RelC ⟨K, cm, A⟩ c → RpA ⟨K, cm, A⟩ c ds vs → Post ⟨K, cm, A⟩ (fun _ _ _ => False) (Rp ⟨K, cm, A⟩) c Q (F ds c.S) → r vs c.H Q
def dBlt (F : List D → Store → R D) (a : DAv) : DEv := fun st S => (a st S).bind fun ds S1 => F ds S1
theorem snd_blt {K : PySem.W.Frag} {r : List V → Hp → VK → Prop} {F : List D → Store → R D} {t : TA} {a : DAv} (hs : CallS K cm r F) (ne : NoErrA F) (s : SndA K cm E t a) : Snd K cm E (tCB r t) (dBlt F a) := fun A c st σ Q rel loc h =>
  s A c st σ _ rel loc (Post.seq h fun ds vs c1 _ x1 rel1 rd h1 => hs A c1 ds vs Q rel1 rd (h1.noerr (ne ds c1.S)))
section
variable {x : Str} {p : Pos} {e : Expr} {es : List Expr} {da : DAv} {id T : String} {r : List V → Hp → VK → Prop} {F : List D → Store → R D}
theorem de_blt (hc : CallR X (.builtin id) r) (hs : CallS X.K cm r F) (ne : NoErrA F) (hm : X.mg x = none) (ha : DA X cm E (e :: es) da) (hg : Gl X x := by rfl) (hv : bootBuiltins x = some (.builtin id) := by decide +kernel) (hn : x ≠ "__name__" := by decide) (hdb : (x == ("__debug__" : Str)) = false := by decide)
    (he : starEach (e :: es) X.env = (false, eval e X.env) :: starEach es X.env := by rfl) (hpl : (backTo pos (starEach es X.env)).any (·.1) = false := by rfl) : DE X cm E (.Call (.Name x p) (e :: es) [] pos) (dBlt F da) :=
  let ⟨_, a, b⟩ := ha.ex; ⟨_, pe_callB hc hg hm hv a hn hdb he hpl, snd_blt hs ne b⟩
theorem de_bty (hc : CallR X (.type T) r) (hs : CallS X.K cm r F) (ne : NoErrA F) (hm : X.mg x = none) (ha : DA X cm E (e :: es) da) (hg : Gl X x := by rfl) (hv : bootBuiltins x = some (.type T) := by decide +kernel) (hn : x ≠ "__name__" := by decide) (hdb : (x == ("__debug__" : Str)) = false := by decide)
    (he : starEach (e :: es) X.env = (false, eval e X.env) :: starEach es X.env := by rfl) (hpl : (backTo pos (starEach es X.env)).any (·.1) = false := by rfl) : DE X cm E (.Call (.Name x p) (e :: es) [] pos) (dBlt F da) :=
  let ⟨_, a, b⟩ := ha.ex; ⟨_, pe_callTy hc hg hm hv a hn hdb he hpl, snd_blt hs ne b⟩
end
section
variable {K : PySem.W.Frag}
/-- len -/
def dictLen (S : Store) : D → Option Nat
  | .loc n => match S[n]? with
    | some (.dK kvs) => some kvs.length
    | _ => none
  | _ => none
def lenV (ds : List D) (S : Store) : R D := match ds with
  | [.str x] => .ok (.int x.length) S
  | [d] => match sqOf S d with
    | some xs => .ok (.int xs.length) S
    | none => match dictLen S d with
      | some n => .ok (.int n) S
      | none => .no
  | _ => .no
def rLenU (K : PySem.W.Frag) : List V → Hp → VK → Prop := fun xs H Q => (∃ p ys, xs = [.ref p] ∧ (SqL K H p ys ∨ SqT K H p ys) ∧ Q (.int ys.length) H) ∨ (∃ z, xs = [.str z] ∧ z.length ≤ sizeLine ∧ Q (.int z.length) H) ∨ ∃ a kvs, xs = [V.ref a] ∧ H a = some (.dK kvs) ∧ Q (.int kvs.length) H
theorem call_lenU : CallR X (.builtin "len") (rLenU X.K) := call_len_seq.or (call_len_str.or call_lenD)
theorem lenV_s : CallS K cm (rLenU K) lenV := fun A c ds vs Q rel rd h => by
  unfold lenV at h
  split at h
  · obtain ⟨v, e, r⟩ := RpA.one rd
    exact .inr (.inl ⟨_, by rw [e, r.1], r.2.2, h.here rel rfl⟩)
  · rename_i d _
    obtain ⟨v, e, r⟩ := RpA.one rd
    split at h
    · rename_i xs hx
      obtain ⟨a, ws, e1, hs, t⟩ := sqOf_rep rel r hx
      exact .inl ⟨a, ws, by rw [e, e1], hs, by rw [← t.length]; exact h.here rel rfl⟩
    · split at h
      · rename_i n hn
        cases d with
        | loc m =>
          replace hn : (match c.S[m]? with
            | some (.dK kvs) => some kvs.length
            | _ => none) = some n := hn
          split at hn
          · rename_i kvs hk
            cases hn
            obtain ⟨a, e1, _, kws, hH, t⟩ := Rp.obj rel r hk
            exact .inr (.inr ⟨a, kws, by rw [e, e1], hH, by rw [← t.length]; exact h.here rel rfl⟩)
          · cases hn
        | _ => cases hn
      · exact h.elim
  · exact h.elim
theorem lenV_n : NoErrA lenV := fun ds S => by
  unfold lenV
  split <;> (try split) <;> (try split) <;> exact True.intro
/-- abs, min, max of two ints -/
def absV (ds : List D) (S : Store) : R D := match ds with
  | [.int i] => .ok (.int (if i < 0 then -i else i)) S
  | _ => .no
theorem absV_s : CallS K cm (fun xs H Q => ∃ i, xs = [.int i] ∧ Q (.int (if i < 0 then -i else i)) H) absV := fun A c ds vs Q rel rd h => by
  unfold absV at h
  split at h
  · obtain ⟨v, e, r⟩ := RpA.one rd
    exact ⟨_, by rw [e, show v = .int _ from r], h.here rel rfl⟩
  · exact h.elim
theorem absV_n : NoErrA absV := fun ds S => by unfold absV; split <;> exact True.intro
def maxV (ds : List D) (S : Store) : R D := match ds with
  | [.int i, .int j] => .ok (.int (if j > i then j else i)) S
  | _ => .no
theorem maxV_s : CallS K cm (fun xs H Q => ∃ i j, xs = [.int i, .int j] ∧ Q (.int (if j > i then j else i)) H) maxV := fun A c ds vs Q rel rd h => by
  unfold maxV at h
  split at h
  · obtain ⟨v, w, e, r, r2⟩ := RpA.two rd
    exact ⟨_, _, by rw [e, show v = .int _ from r, show w = .int _ from r2], h.here rel rfl⟩
  · exact h.elim
theorem maxV_n : NoErrA maxV := fun ds S => by unfold maxV; split <;> exact True.intro
def minV (ds : List D) (S : Store) : R D := match ds with
  | [.int i, .int j] => .ok (.int (if j < i then j else i)) S
  | _ => .no
theorem minV_s : CallS K cm (fun xs H Q => ∃ i j, xs = [.int i, .int j] ∧ Q (.int (if j < i then j else i)) H) minV := fun A c ds vs Q rel rd h => by
  unfold minV at h
  split at h
  · obtain ⟨v, w, e, r, r2⟩ := RpA.two rd
    exact ⟨_, _, by rw [e, show v = .int _ from r, show w = .int _ from r2], h.here rel rfl⟩
  · exact h.elim
theorem minV_n : NoErrA minV := fun ds S => by unfold minV; split <;> exact True.intro
/-- isinstance -/
inductive Ty where
  | NoneType | bool | int | str | list | tuple | dict
  deriving DecidableEq
def Ty.nm : Ty → String
  | .NoneType => "NoneType" | .bool => "bool" | .int => "int" | .str => "str" | .list => "list" | .tuple => "tuple" | .dict => "dict"
def tyOf (S : Store) : D → Option Ty
  | .non => some .NoneType
  | .bl _ => some .bool
  | .int _ => some .int
  | .str _ => some .str
  | .tup _ => some .tuple
  | .lst _ => some .list
  | .loc n => match S[n]? with
    | some (.lst _) => some .list
    | some (.frz _) => some .list
    | some (.dK _) => some .dict
    | some (.dT _) => some .dict
    | _ => none
  | .ty _ => none
  | .scr _ => none
  | .dct _ _ => none
  | .cod _ => none
theorem tyOf_rep {G : Gam} {c : Cfg} {d : D} {v : V} {t : Ty} (rel : RelC G c) (r : Rp G c d v) (e : tyOf c.S d = some t) : TyX G.K c.H v (.type t.nm) := by
  cases d with
  | cod q => cases e
  | non => cases e; rw [show v = .non from r]; exact .base .non
  | bl b => cases e; rw [show v = .bl b from r]; exact .base (.bl b)
  | int i => cases e; rw [show v = .int i from r]; exact .base (.int i)
  | str x => cases e; rw [show v = .str x from r.1]; exact .base (.str x)
  | tup xs => cases e; obtain ⟨a, vs, e1, _, h, _⟩ := r; rw [e1]; exact .base (.tup h)
  | lst xs => cases e; obtain ⟨a, vs, e1, _, h, _⟩ := r; rw [e1]; exact .base (.lst h)
  | loc n =>
    replace e : (match c.S[n]? with
      | some (.lst _) => some Ty.list
      | some (.frz _) => some Ty.list
      | some (.dK _) => some Ty.dict
      | some (.dT _) => some Ty.dict
      | _ => none) = some t := e
    split at e
    · rename_i xs hx
      cases e
      obtain ⟨a, e1, _, vs, h, _⟩ := Rp.obj rel r hx
      rw [e1]
      exact .base (.lst h)
    · rename_i xs hx
      cases e
      obtain ⟨a, e1, _, o, vs, h, _⟩ := Rp.obj rel r hx
      rw [e1]
      exact .base (.frz h)
    · rename_i xs hx
      cases e
      obtain ⟨a, e1, _, vs, h, _⟩ := Rp.obj rel r hx
      rw [e1]
      exact .base (.dK h)
    · rename_i xs hx
      cases e
      obtain ⟨a, e1, _, vs, h, _⟩ := Rp.obj rel r hx
      rw [e1]
      exact .base (.dT h)
    · cases e
  | ty n => cases e
  | scr xs => cases e
  | dct ks ds => cases e
def tyNm : String → Option Ty
  | "bool" => some .bool
  | "int" => some .int
  | "str" => some .str
  | "list" => some .list
  | "tuple" => some .tuple
  | "dict" => some .dict
  | _ => none
theorem tyNm_is {n : String} {t : Ty} (h : tyNm n = some t) : n = t.nm := by
  unfold tyNm at h
  split at h <;> cases h <;> rfl
def isTy (a b : Ty) : Bool := decide (a = b) || (decide (a = .bool) && decide (b = .int))
theorem isTy_kit (a b : Ty) (hb : b ≠ .NoneType) : kitB a.nm b.nm = some (isTy a b) := by
  cases a <;> cases b <;> first | exact absurd rfl hb | decide +kernel
def isAny (a : Ty) : List D → Option Bool
  | [] => some false
  | .ty n :: r => match tyNm n, isAny a r with
    | some t, some k => some (isTy a t || k)
    | _, _ => none
  | _ :: _ => none
def isiV (ds : List D) (S : Store) : R D := match ds with
  | [d, .ty n] => match tyOf S d, tyNm n with
    | some a, some t => .ok (.bl (isTy a t)) S
    | _, _ => .no
  | [d, .tup ts] => match tyOf S d with
    | some a => match isAny a ts with
      | some k => .ok (.bl k) S
      | none => .no
    | none => .no
  | _ => .no
theorem tyNm_ne {n : String} {t : Ty} (h : tyNm n = some t) : t ≠ .NoneType := by
  unfold tyNm at h
  split at h <;> cases h <;> decide
theorem isAny_rep {G : Gam} {c : Cfg} {a : Ty} : ∀ {ts : List D} {vs : List V} {k : Bool}, RpA G c ts vs → isAny a ts = some k → ∃ us : List Value, Paired ClsV vs us ∧ PySem.W.kitAny G.K (.type a.nm) us = some k
  | [], _, _, r, e => by
    cases r
    cases e
    exact ⟨[], .nil, kitAny_nil⟩
  | d :: ts, _, k, ⟨v, r, e1, h, t⟩, e => by
    subst e1
    cases d with
    | ty n =>
      replace e : (match tyNm n, isAny a ts with
        | some t, some k => some (isTy a t || k)
        | _, _ => none) = some k := e
      split at e
      · rename_i ty k' h1 h2
        cases e
        obtain ⟨us, p, q⟩ := isAny_rep t h2
        rw [show v = .ty n from h, tyNm_is h1]
        refine ⟨.type ty.nm :: us, .cons (.ty _) p, kitAny_cons (kit_ty (isTy_kit a ty (tyNm_ne h1))) (fun z => by rw [z, Bool.false_or]; exact q) fun z => by rw [z]; rfl⟩
      · cases e
    | _ => cases e
def rIsiU (K : PySem.W.Frag) : List V → Hp → VK → Prop := fun xs H Q => rIsi K xs H Q ∨ rIsiT K xs H Q
theorem call_isiU : CallR X (.builtin "isinstance") (rIsiU X.K) := call_isi.or call_isiT
theorem isiV_s : CallS K cm (rIsiU K) isiV := fun A c ds vs Q rel rd h => by
  unfold isiV at h
  split at h
  · rename_i d n
    split at h
    · rename_i a t h1 h2
      obtain ⟨v, w, e, r, r2⟩ := RpA.two rd
      refine .inl ⟨v, .ty t.nm, .type a.nm, .type t.nm, _, ?_, .ty _, tyOf_rep rel r h1, kit_ty (isTy_kit a t (tyNm_ne h2)), h.here rel rfl⟩
      rw [e, show w = .ty n from r2, tyNm_is h2]
    · exact h.elim
  · rename_i d ts
    split at h
    · rename_i a h1
      split at h
      · rename_i k' h2
        obtain ⟨v, w, e, r, p, cs, e2, n2, hH, t2⟩ := RpA.two rd
        obtain ⟨us, q1, q2⟩ := isAny_rep t2 h2
        exact .inr ⟨v, p, cs, .type a.nm, us, k', by rw [e, e2], hH, q1, tyOf_rep rel r h1, q2, h.here rel rfl⟩
      · exact h.elim
    · exact h.elim
  · exact h.elim
theorem isiV_n : NoErrA isiV := fun ds S => by
  unfold isiV
  split <;> (try split) <;> (try split) <;> exact True.intro
/-- tuple(x), list(x) -/
def tupV (ds : List D) (S : Store) : R D := match ds with
  | [.tup xs] => .ok (.tup xs) S
  | [d] => match lsOf S d with
    | some xs => .ok (.tup xs) S
    | none => .no
  | _ => .no
theorem tupV_s : CallS K cm (fun xs H Q => ∃ p ys, xs = [.ref p] ∧ ((SqL K H p ys ∧ ∀ l, H l = none → Q (.ref l) (upd H l (.tup ys))) ∨ (SqT K H p ys ∧ Q (.ref p) H))) tupV := fun A c ds vs Q rel rd h => by
  unfold tupV at h
  split at h
  · obtain ⟨v, e, r⟩ := RpA.one rd
    obtain ⟨a, ws, e1, n, hH, t⟩ := id r
    exact ⟨a, ws, by rw [e, e1], .inr ⟨.inl (.inl hH), by rw [← e1]; exact h.here rel r⟩⟩
  · obtain ⟨v, e, r⟩ := RpA.one rd
    split at h
    · rename_i xs hx
      obtain ⟨a, ws, e1, hs, t⟩ := lsOf_rep rel r hx
      exact ⟨a, ws, by rw [e, e1], .inl ⟨hs, h.newT rel t⟩⟩
    · exact h.elim
  · exact h.elim
theorem tupV_n : NoErrA tupV := fun ds S => by unfold tupV; split <;> (try split) <;> exact True.intro
def listV (ds : List D) (S : Store) : R D := match ds with
  | [d] => match sqOf S d with
    | some xs => .ok (.lst xs) S
    | none => .no
  | _ => .no
/-- .. that will be changed -/
def listM (ds : List D) (S : Store) : R D := match ds with
  | [d] => match sqOf S d with
    | some xs => .ok (.loc S.length) (S ++ [.lst xs])
    | none => .no
  | _ => .no
def rListOf (K : PySem.W.Frag) : List V → Hp → VK → Prop := fun xs H Q => ∃ p ys, xs = [.ref p] ∧ (SqL K H p ys ∨ SqT K H p ys) ∧ ∀ l, H l = none → Q (.ref l) (upd H l (.lst ys))
theorem Post.newM {G : Gam} {E : XK} {c : Cfg} {Q : VK} {xs : List D} {vs : List V} (h : Post G E (Rp G) c Q (.ok (.loc c.S.length) (c.S ++ [.lst xs]))) (rel : RelC G c) (r : RpA G c xs vs) (p : Addr) (hp : c.H p = none) : Q (.ref p) (upd c.H p (.lst vs)) :=
  have x : Ext c ⟨c.φ ++ [p], c.S ++ [.lst xs], upd c.H p (.lst vs)⟩ := Ext.push rel hp
  h _ ⟨c.φ ++ [p], c.S ++ [.lst xs], upd c.H p (.lst vs)⟩ rfl x (rel.push (o := .lst xs) hp (notA_new rel hp) ⟨vs, upd_same, RpA.mono x xs vs r⟩) ⟨p, rfl, by show (c.φ ++ [p])[c.S.length]? = _; rw [← rel.len]; simp⟩
theorem listV_s : CallS K cm (rListOf K) listV := fun A c ds vs Q rel rd h => by
  unfold listV at h
  split at h
  · split at h
    · rename_i xs hx
      obtain ⟨v, e, r⟩ := RpA.one rd
      obtain ⟨a, ws, e1, hs, t⟩ := sqOf_rep rel r hx
      exact ⟨a, ws, by rw [e, e1], hs, h.newL rel t⟩
    · exact h.elim
  · exact h.elim
theorem listM_s : CallS K cm (rListOf K) listM := fun A c ds vs Q rel rd h => by
  unfold listM at h
  split at h
  · split at h
    · rename_i xs hx
      obtain ⟨v, e, r⟩ := RpA.one rd
      obtain ⟨a, ws, e1, hs, t⟩ := sqOf_rep rel r hx
      exact ⟨a, ws, by rw [e, e1], hs, h.newM rel t⟩
    · exact h.elim
  · exact h.elim
theorem listV_n : NoErrA listV := fun ds S => by unfold listV; split <;> (try split) <;> exact True.intro
theorem listM_n : NoErrA listM := fun ds S => by unfold listM; split <;> (try split) <;> exact True.intro
/-- int, str, bool of an int or bool -/
def intV (ds : List D) (S : Store) : R D := match ds with
  | [.int i] => .ok (.int i) S
  | [.bl k] => .ok (.int (if k then 1 else 0)) S
  | _ => .no
theorem intV_s : CallS K cm (fun xs H Q => (∃ i, xs = [.int i] ∧ Q (.int i) H) ∨ ∃ k, xs = [.bl k] ∧ Q (.int (if k then 1 else 0)) H) intV := fun A c ds vs Q rel rd h => by
  unfold intV at h
  split at h
  · obtain ⟨v, e, r⟩ := RpA.one rd
    exact .inl ⟨_, by rw [e, show v = .int _ from r], h.here rel rfl⟩
  · obtain ⟨v, e, r⟩ := RpA.one rd
    exact .inr ⟨_, by rw [e, show v = .bl _ from r], h.here rel rfl⟩
  · exact h.elim
theorem intV_n : NoErrA intV := fun ds S => by unfold intV; split <;> exact True.intro
/-- all, any of a list of bools -/
def boolsOf : List D → Option (List Bool)
  | [] => some []
  | .bl b :: r => (boolsOf r).map (b :: ·)
  | _ :: _ => none
theorem boolsOf_rep {G : Gam} {c : Cfg} : ∀ {xs : List D} {vs : List V} {bs : List Bool}, RpA G c xs vs → boolsOf xs = some bs → vs = bs.map V.bl
  | [], _, _, r, e => by
    cases r
    cases e
    rfl
  | d :: xs, _, _, ⟨v, r, e1, h, t⟩, e => by
    subst e1
    cases d with
    | bl b =>
      replace e : (boolsOf xs).map (b :: ·) = some _ := e
      obtain ⟨bs, e2, e3⟩ := Option.map_eq_some_iff.mp e
      subst e3
      rw [boolsOf_rep t e2, show v = .bl b from h]
      rfl
    | _ => cases e
def allV (ds : List D) (S : Store) : R D := match ds with
  | [d] => match lsOf S d with
    | some xs => match boolsOf xs with
      | some bs => .ok (.bl (bs.all id)) S
      | none => .no
    | none => .no
  | _ => .no
def anyV (ds : List D) (S : Store) : R D := match ds with
  | [d] => match lsOf S d with
    | some xs => match boolsOf xs with
      | some bs => .ok (.bl (bs.any id)) S
      | none => .no
    | none => .no
  | _ => .no
theorem allV_s : CallS K cm (rAll K) allV := fun A c ds vs Q rel rd h => by
  unfold allV at h
  split at h
  · split at h
    · rename_i xs hx
      split at h
      · rename_i bs hb
        obtain ⟨v, e, r⟩ := RpA.one rd
        obtain ⟨a, ws, e1, hs, t⟩ := lsOf_rep rel r hx
        exact ⟨a, bs, by rw [e, e1], by rw [← boolsOf_rep t hb]; exact hs, h.here rel rfl⟩
      · exact h.elim
    · exact h.elim
  · exact h.elim
theorem anyV_s : CallS K cm (rAny K) anyV := fun A c ds vs Q rel rd h => by
  unfold anyV at h
  split at h
  · split at h
    · rename_i xs hx
      split at h
      · rename_i bs hb
        obtain ⟨v, e, r⟩ := RpA.one rd
        obtain ⟨a, ws, e1, hs, t⟩ := lsOf_rep rel r hx
        exact ⟨a, bs, by rw [e, e1], by rw [← boolsOf_rep t hb]; exact hs, h.here rel rfl⟩
      · exact h.elim
    · exact h.elim
  · exact h.elim
theorem allV_n : NoErrA allV := fun ds S => by unfold allV; split <;> (try split) <;> (try split) <;> exact True.intro
theorem anyV_n : NoErrA anyV := fun ds S => by unfold anyV; split <;> (try split) <;> (try split) <;> exact True.intro

/-! ### methods of built-in types -/
def MtS (K : PySem.W.Frag) (cm : String → Addr → Prop) (r : V → List V → Hp → VK → Prop) (F : D → List D → Store → R D) : Prop := ∀ (A : Addr → Prop) (c : Cfg) (x : D) (v : V) (ds : List D) (vs : List V) (Q : VK), RelC ⟨K, cm, A⟩ c → Rp ⟨K, cm, A⟩ c x v → RpA ⟨K, cm, A⟩ c ds vs → Post ⟨K, cm, A⟩ (fun _ _ _ => False) (Rp ⟨K, cm, A⟩) c Q (F x ds c.S) → r v vs c.H Q
def NoErrM (f : D → List D → Store → R D) : Prop := ∀ x ds S, R.calm (f x ds S)
def dMt (ok : Store → D → Bool) (F : D → List D → Store → R D) (o : DEv) (a : DAv) : DEv := fun st S => (o st S).bind fun x S1 => if ok S1 x = true then (a st S1).bind fun ds S2 => F x ds S2 else .no
def isLs (S : Store) (x : D) : Bool := (lsOf S x).isSome
def isStr (_ : Store) : D → Bool
  | .str _ => true
  | _ => false
theorem isLs_ty {G : Gam} {c : Cfg} {d : D} {v : V} (rel : RelC G c) (r : Rp G c d v) (h : isLs c.S d = true) : tyV G.K "list" v c.H := by
  obtain ⟨xs, e⟩ := Option.isSome_iff_exists.mp h
  obtain ⟨a, vs, e1, hs, _⟩ := lsOf_rep rel r e
  rw [e1]
  exact .inl ⟨rfl, vs, hs⟩
theorem isStr_ty {G : Gam} {c : Cfg} {d : D} {v : V} (rel : RelC G c) (r : Rp G c d v) (h : isStr c.S d = true) : tyV G.K "str" v c.H := by
  cases d with
  | str x => rw [show v = .str x from r.1]; exact (rfl : "str" = "str")
  | _ => cases h
theorem snd_mt {K : PySem.W.Frag} {T : String} {ok : Store → D → Bool} {r : V → List V → Hp → VK → Prop} {F : D → List D → Store → R D} {to : TE} {o : DEv} {t : TA} {a : DAv} (hok : ∀ (A : Addr → Prop) (c : Cfg) (d : D) (v : V), RelC ⟨K, cm, A⟩ c → Rp ⟨K, cm, A⟩ c d v → ok c.S d = true → tyV K T v c.H)
    (hs : MtS K cm r F) (ne : NoErrM F) (so : Snd K cm E to o) (s : SndA K cm E t a) : Snd K cm E (tBM K T r to t) (dMt ok F o a) := fun A c st σ Q rel loc h =>
  so A c st σ _ rel loc (Post.seq h fun x v c1 _ x1 rel1 rx h1 => by
    split at h1
    · rename_i hk
      exact ⟨hok A c1 x v rel1 rx hk, s A c1 st σ _ rel1 (loc.mono x1) (Post.seq h1 fun ds vs c2 _ x2 rel2 rd h2 => hs A c2 x v ds vs Q rel2 (Rp.mono x2 x v rx) rd (h2.noerr (ne x ds c2.S)))⟩
    · exact h1.elim)
theorem snd_mt0 {K : PySem.W.Frag} {T : String} {ok : Store → D → Bool} {r : V → List V → Hp → VK → Prop} {F : D → List D → Store → R D} {to : TE} {o : DEv} (hok : ∀ (A : Addr → Prop) (c : Cfg) (d : D) (v : V), RelC ⟨K, cm, A⟩ c → Rp ⟨K, cm, A⟩ c d v → ok c.S d = true → tyV K T v c.H)
    (hs : MtS K cm r F) (ne : NoErrM F) (so : Snd K cm E to o) : Snd K cm E (tBM0 K T r to) (dMt ok F o dNil) := fun A c st σ Q rel loc h =>
  so A c st σ _ rel loc (Post.seq h fun x v c1 _ x1 rel1 rx h1 => by
    split at h1
    · rename_i hk
      exact ⟨hok A c1 x v rel1 rx hk, hs A c1 x v [] [] Q rel1 rx rfl (Post.noerr h1 (ne x [] c1.S))⟩
    · exact h1.elim)
section
variable {o e : Expr} {es : List Expr} {dO : DEv} {da : DAv} {name : Str} {apos cpos : Pos} {id : String} {r : V → List V → Hp → VK → Prop} {F : D → List D → Store → R D}
theorem de_lm (slot : Slot "list" name id) (hty : typeOf (.builtin id) = pure (.type "method_descriptor")) (hm : MtR X id r) (hs : MtS X.K cm r F) (ne : NoErrM F) (ho : DE X cm E o dO) (ha : DA X cm E (e :: es) da) (hbase : attributeBase o name X.env (eval o X.env) = eval o X.env := by rfl)
    (hfew : ((backTo cpos (starEach (e :: es) X.env)).all (fun x => !x.1) && (backToKw cpos (keywordEach [] X.env)).all (fun x => x.1.isSome)
      && decide ((e :: es).length + ([] : List Keyword).length + (if ([] : List Keyword).isEmpty then 0 else 1) < 30)) = true := by rfl)
    (hline : (apos.endLine == cpos.line) = true := by rfl) (hst : starEach (e :: es) X.env = (false, eval e X.env) :: starEach es X.env := by rfl) (hplain : (backTo cpos (starEach es X.env)).any (·.1) = false := by rfl) :
    DE X cm E (.Call (.Attribute o name apos) (e :: es) [] cpos) (dMt isLs F dO da) :=
  let ⟨_, a, b⟩ := ho.ex; let ⟨_, a', b'⟩ := ha.ex; ⟨_, pe_bm PySem.F.plainAttrs_list slot hty hm a a' hbase hfew hline hst hplain, snd_mt (fun A c d v rel r h => isLs_ty rel r h) hs ne b b'⟩
theorem de_lm0 (slot : Slot "list" name id) (hty : typeOf (.builtin id) = pure (.type "method_descriptor")) (hm : MtR X id r) (hs : MtS X.K cm r F) (ne : NoErrM F) (ho : DE X cm E o dO) (hbase : attributeBase o name X.env (eval o X.env) = eval o X.env := by rfl)
    (hline : (apos.endLine == cpos.line) = true := by rfl) : DE X cm E (.Call (.Attribute o name apos) [] [] cpos) (dMt isLs F dO dNil) :=
  let ⟨_, a, b⟩ := ho.ex; ⟨_, pe_bm0 PySem.F.plainAttrs_list slot hty hm a hbase hline, snd_mt0 (fun A c d v rel r h => isLs_ty rel r h) hs ne b⟩
theorem de_sm (slot : Slot "str" name id) (hty : typeOf (.builtin id) = pure (.type "method_descriptor")) (hm : MtR X id r) (hs : MtS X.K cm r F) (ne : NoErrM F) (ho : DE X cm E o dO) (ha : DA X cm E (e :: es) da) (hbase : attributeBase o name X.env (eval o X.env) = eval o X.env := by rfl)
    (hfew : ((backTo cpos (starEach (e :: es) X.env)).all (fun x => !x.1) && (backToKw cpos (keywordEach [] X.env)).all (fun x => x.1.isSome)
      && decide ((e :: es).length + ([] : List Keyword).length + (if ([] : List Keyword).isEmpty then 0 else 1) < 30)) = true := by rfl)
    (hline : (apos.endLine == cpos.line) = true := by rfl) (hst : starEach (e :: es) X.env = (false, eval e X.env) :: starEach es X.env := by rfl) (hplain : (backTo cpos (starEach es X.env)).any (·.1) = false := by rfl) :
    DE X cm E (.Call (.Attribute o name apos) (e :: es) [] cpos) (dMt isStr F dO da) :=
  let ⟨_, a, b⟩ := ho.ex; let ⟨_, a', b'⟩ := ha.ex; ⟨_, pe_bm PySem.F.plainAttrs_str slot hty hm a a' hbase hfew hline hst hplain, snd_mt (fun A c d v rel r h => isStr_ty rel r h) hs ne b b'⟩
theorem de_sm0 (slot : Slot "str" name id) (hty : typeOf (.builtin id) = pure (.type "method_descriptor")) (hm : MtR X id r) (hs : MtS X.K cm r F) (ne : NoErrM F) (ho : DE X cm E o dO) (hbase : attributeBase o name X.env (eval o X.env) = eval o X.env := by rfl)
    (hline : (apos.endLine == cpos.line) = true := by rfl) : DE X cm E (.Call (.Attribute o name apos) [] [] cpos) (dMt isStr F dO dNil) :=
  let ⟨_, a, b⟩ := ho.ex; ⟨_, pe_bm0 PySem.F.plainAttrs_str slot hty hm a hbase hline, snd_mt0 (fun A c d v rel r h => isStr_ty rel r h) hs ne b⟩
end
/-- xs.append(y) -/
def appV (x : D) (ds : List D) (S : Store) : R D := match x, ds with
  | .loc n, [y] => match S[n]? with
    | some (.lst xs) => if xs.length < 1000000 then .ok .non (S.set n (.lst (xs ++ [y]))) else .no
    | _ => .no
  | _, _ => .no
theorem Post.setL {G : Gam} {E : XK} {c : Cfg} {Q : VK} {n : Nat} {a : Addr} {xs ys : List D} {ws : List V} {d : D} {v : V} (h : Post G E (Rp G) c Q (.ok d (c.S.set n (.lst ys)))) (rel : RelC G c) (hφ : c.φ[n]? = some a) (hx : c.S[n]? = some (.lst xs)) (t : RpA G c ys ws) (r : Rp G c d v) : Q v (upd c.H a (.lst ws)) :=
  have x : Ext c ⟨c.φ, c.S.set n (.lst ys), upd c.H a (.lst ws)⟩ := Ext.put rel hφ hx (by simp)
  h v ⟨c.φ, c.S.set n (.lst ys), upd c.H a (.lst ws)⟩ rfl x (rel.put (o' := .lst ys) hφ hx (by simp) ⟨ws, upd_same, RpA.mono x _ _ t⟩) (Rp.mono x d v r)
theorem appV_s : MtS K cm rAppend appV := fun A c x v ds vs Q rel rx rd h => by
  unfold appV at h
  split at h
  · rename_i n y
    split at h
    · rename_i xs hx
      split at h
      · rename_i hl
        obtain ⟨a, e, hφ, ws, hH, t⟩ := Rp.obj rel rx hx
        obtain ⟨u, e2, ru⟩ := RpA.one rd
        exact ⟨a, ws, u, e, e2, hH, by rw [← t.length]; exact Nat.lt_of_lt_of_le hl million, h.setL rel hφ hx (t.append ⟨u, [], rfl, ru, rfl⟩) rfl⟩
      · exact h.elim
    · exact h.elim
  · exact h.elim
theorem appV_n : NoErrM appV := fun x ds S => by unfold appV; split <;> (try split) <;> (try split) <;> exact True.intro
/-- sep.join(texts) -/
def strsOf : List D → Option (List Str)
  | [] => some []
  | .str x :: r => (strsOf r).map (x :: ·)
  | _ :: _ => none
theorem strsOf_rep {G : Gam} {c : Cfg} : ∀ {xs : List D} {vs : List V} {bs : List Str}, RpA G c xs vs → strsOf xs = some bs → vs = bs.map V.str ∧ ∀ y ∈ bs, PySem.PyData.strOk y = true ∧ y.length ≤ sizeLine
  | [], _, _, r, e => by
    cases r
    cases e
    exact ⟨rfl, fun y h => nomatch h⟩
  | d :: xs, _, _, ⟨v, r, e1, h, t⟩, e => by
    subst e1
    cases d with
    | str b =>
      replace e : (strsOf xs).map (b :: ·) = some _ := e
      obtain ⟨bs, e2, e3⟩ := Option.map_eq_some_iff.mp e
      subst e3
      obtain ⟨q1, q2⟩ := strsOf_rep t e2
      refine ⟨by rw [q1, show v = .str b from h.1]; rfl, fun y hy => ?_⟩
      rcases List.mem_cons.mp hy with rfl | hy
      · exact h.2
      · exact q2 y hy
    | _ => cases e
end

/-! ### what is given up: a list of the store becomes data -/
def frzV (x : D) (S : Store) : R D := match x with
  | .loc n => match S[n]? with
    | some (.lst xs) => .ok (.lst xs) (S.set n .gone)
    | _ => .ok x S
  | _ => .ok x S
def dFrz (e : DEv) : DEv := fun st S => (e st S).bind fun x S1 => frzV x S1
theorem de_frz {e : Expr} {d : DEv} (h : DE X cm E e d) : DE X cm E e (dFrz d) := by
  obtain ⟨t, p, s⟩ := h.ex
  refine ⟨t, p, fun A c st σ Q rel loc h => s A c st σ Q rel loc ?_⟩
  unfold dFrz at h
  cases q : d st c.S with
  | no => rw [q] at h; exact h
  | err x S => rw [q] at h; exact h
  | ok x S1 =>
    rw [q] at h
    replace h : Post ⟨X.K, cm, A⟩ E (Rp ⟨X.K, cm, A⟩) c Q (frzV x S1) := h
    cases x with
    | loc n =>
      replace h : Post ⟨X.K, cm, A⟩ E (Rp ⟨X.K, cm, A⟩) c Q (match S1[n]? with
        | some (.lst xs) => .ok (.lst xs) (S1.set n .gone)
        | _ => .ok (.loc n) S1) := h
      split at h
      · rename_i xs hx
        intro v c1 e1 x1 rel1 r1
        subst e1
        obtain ⟨a, e2, hφ, vs, hH, t2⟩ := Rp.obj rel1 r1 hx
        have x2 : Ext c1 ⟨c1.φ, c1.S.set n .gone, c1.H⟩ := Ext.drop
        have rel2 : RelC ⟨X.K, cm, A⟩ ⟨c1.φ, c1.S.set n .gone, c1.H⟩ := rel1.drop
        refine h v ⟨c1.φ, c1.S.set n .gone, c1.H⟩ rfl (x1.trans x2) rel2 ⟨a, vs, e2, fun z => z.elim (fun z => rel1.apart a ⟨n, _, hφ, hx, by simp⟩ z) fun ⟨m, o, h1, h2, h3⟩ => ?_, hH, RpA.mono x2 xs vs t2⟩
        have h1 : c1.φ[m]? = some a := h1
        have e3 := phi_inj rel1 h1 hφ
        subst e3
        have h2 : (c1.S.set m O.gone)[m]? = some o := h2
        rw [List.getElem?_set_self (List.getElem?_eq_some_iff.mp hx).1] at h2
        exact h3 (Option.some.inj h2).symm
      · exact h
    | _ => exact h
/-! ### new dicts -/
def dNewK : DEv := fun _ S => .ok (.loc S.length) (S ++ [.dK []])
def dNewT : DEv := fun _ S => .ok (.loc S.length) (S ++ [.dT []])
theorem de_dnewK : DE X cm E (.Dict [] [] pos) dNewK := ⟨_, pe_dnewK, fun A c st σ Q rel loc h p hp =>
  have x : Ext c ⟨c.φ ++ [p], c.S ++ [.dK []], upd c.H p (.dK [])⟩ := Ext.push rel hp
  h _ ⟨c.φ ++ [p], c.S ++ [.dK []], upd c.H p (.dK [])⟩ rfl x (rel.push (o := .dK []) hp (notA_new rel hp) ⟨[], upd_same, .nil⟩) ⟨p, rfl, by show (c.φ ++ [p])[c.S.length]? = _; rw [← rel.len]; simp⟩⟩
theorem de_dnewT : DE X cm E (.Dict [] [] pos) dNewT := ⟨_, pe_dnewT, fun A c st σ Q rel loc h p hp =>
  have x : Ext c ⟨c.φ ++ [p], c.S ++ [.dT []], upd c.H p (.dT [])⟩ := Ext.push rel hp
  h _ ⟨c.φ ++ [p], c.S ++ [.dT []], upd c.H p (.dT [])⟩ rfl x (rel.push (o := .dT []) hp (notA_new rel hp) ⟨[], upd_same, .nil⟩) ⟨p, rfl, by show (c.φ ++ [p])[c.S.length]? = _; rw [← rel.len]; simp⟩⟩

/-! ### the law's call: the script is all there is -/
theorem spD_start {K : PySem.W.Frag} {cm : String → Addr → Prop} {F : List D → Store → R D} {H : Hp} {a : Addr} {ns : List Int} (hO : Only H) (hS : SqL K H a (ns.map V.int)) (h : ∃ S', F [.scr (ns.map D.int)] [] = .ok (.bl true) S') : spD K cm 1 F [.ref a] H (fun v _ => v = .bl true) fun _ _ _ => False := by
  obtain ⟨S', h⟩ := h
  have intsR : ∀ {G : Gam} {c : Cfg} (ns : List Int), RpA G c (ns.map D.int) (ns.map V.int) := fun {G c} ns => by
    induction ns with
    | nil => rfl
    | cons n ns ih => exact ⟨_, _, rfl, rfl, ih⟩
  refine ⟨rfl, fun _ => False, ⟨[], [], H⟩, [.scr (ns.map D.int)], rfl, ⟨rfl, List.nodup_nil, fun n a o h => by simp at h, fun a h => ?_, fun n a h => by simp at h, fun a h => h.elim⟩, ⟨_, [], rfl, ⟨a, _, rfl, ?_, intsR ns⟩, rfl⟩, ?_⟩
  · obtain ⟨n, o, h, _⟩ := h
    simp at h
  · rcases hS with (h | ⟨o, h⟩) | h
    · rcases hO a with z | ⟨o, xs, z⟩
      · rw [h] at z; cases z
      · rw [h] at z; cases z
    · exact .inl ⟨fun z => z.elim (fun z => z) fun ⟨n, o, h, _⟩ => by simp at h, o, h⟩
    · exact .inr (.inr h)
  · show Post _ _ _ _ _ (F [.scr (ns.map D.int)] [])
    rw [h]
    exact fun b c' e x r rb => rb

section
variable {K : PySem.W.Frag} {x qual : Str} {params : Arguments} {body : List Stmt} {scope : Scope} {kws : List (Str × V)} {f : Addr} {fd : FuncData} {ps : List Str}
theorem kbinds0 (F : FunD K x qual params body scope [] kws f fd) (n : Nat) (ks : List Str) (ms : List (Str × V)) (g : {α : Type} → α → List α → List α → List α → List α) (hk : kws ≠ []) (hms : ∀ q ∈ ms, q ∈ kws)
    (hrel : ∀ {vs mz zs : List V} {us mv ws : List Value}, Vals vs us → Vals mz mv → Vals zs ws → Vals (g .non vs mz zs) (g .none us mv ws))
    (h : ∀ (D : Addr) (doc pm : Value) (an : Option Addr) (cdv ct : Value) (us mv ws : List Value), us.length = n → mv.length = ms.length → ws.length = ks.length →
      KwChain D ((ms.map (·.1)).zip mv) (bindArgs (PySem.W.fnOf x qual params body scope .none (.ref D) doc pm an cdv ct) ⟨us, ks.zip ws⟩) (ps.zip (g .none us mv ws))) :
    ∃ mv : List Value, KBn K fd ps n ks (fun us ws => g .none us mv ws) (fun vs zs => g .non vs (ms.map (·.2)) zs) := by
  obtain ⟨oc, od, dV, kV, doc, pm, an, cdv, ct, osl, rfl, lk, hcd, hD, hK⟩ := F.ex
  rcases hD with ⟨_, rfl⟩ | ⟨e, _⟩
  · rcases hK with e | ⟨D, rfl, hq⟩
    · exact absurd e hk
    · obtain ⟨mv, hl, rk, hks⟩ := kwd_vals (ms := ms) fun q hm => hq q (hms q hm)
      refine ⟨mv, ⟨fun s us ws X l1 l2 => ?_, fun r1 r2 => hrel r1 rk r2⟩⟩
      exact BindsTo.of_looks fun M => KwChain.looks X hks (h D doc pm an cdv ct us mv ws l1 hl l2)
  · exact absurd rfl e
/-- no keyword-only parameters, no defaults -/
theorem kbindsN (F : FunD K x qual params body scope [] kws f fd) (n : Nat) (ks : List Str) (g : {α : Type} → α → List α → List α → List α → List α)
    (hrel : ∀ {vs mz zs : List V} {us mv ws : List Value}, Vals vs us → Vals mz mv → Vals zs ws → Vals (g .non vs mz zs) (g .none us mv ws))
    (h : ∀ (kV doc pm : Value) (an : Option Addr) (cdv ct : Value) (us ws : List Value), us.length = n → ws.length = ks.length →
      bindArgs (PySem.W.fnOf x qual params body scope .none kV doc pm an cdv ct) ⟨us, ks.zip ws⟩ = pure (ps.zip (g .none us [] ws))) :
    KBn K fd ps n ks (fun us ws => g .none us [] ws) (fun vs zs => g .non vs [] zs) := by
  obtain ⟨oc, od, dV, kV, doc, pm, an, cdv, ct, osl, rfl, lk, hcd, hD, hK⟩ := F.ex
  rcases hD with ⟨_, rfl⟩ | ⟨e, _⟩
  · exact ⟨fun s us ws X l1 l2 => BindsTo.of_eq (h kV doc pm an cdv ct us ws l1 l2), fun r1 r2 => hrel r1 .nil r2⟩
  · exact absurd rfl e
end

/-! ### dict comprehensions -/
def putC (n : Nat) (y z : D) (S : Store) : R Unit := match keyOf y, S[n]? with
  | some q, some (.dK kvs) => if kvs.length < 1000000 then .ok () (S.set n (.dK (putA kvs q z))) else .no
  | _, _ => .no
noncomputable def dcT (n : Nat) (g : DGv) (t : DTv) (ek ev : DEv) (st : DSt) (x : D) (S : Store) : R Unit := (g x st S).bind fun st1 S1 => (t st1 S1).bind fun k S2 => if k = true then (ek st1 S2).bind fun y S3 => (ev st1 S3).bind fun z S4 => putC n y z S4 else .ok () S2
open Classical in
noncomputable def dcD (s : Src) (n : Nat) (g : DGv) (t : DTv) (ek ev : DEv) (st : DSt) : List D → Store → R Unit
  | [], S => if s.held S then .ok () S else .no
  | x :: xs, S => if s.held S then (dcT n g t ek ev st x S).mute.bind fun _ S' => dcD s n g t ek ev st xs S' else .no
noncomputable def dDc (i : DIv) (g : DGv) (t : DTv) (ek ev : DEv) (vs : List Nat) : DEv := fun st S => (i st S).bind fun s S1 => (dcD s S1.length g t ek ev (wipeD st vs) s.xs (S1 ++ [.dK []])).bind fun _ S2 => .ok (.loc S1.length) S2
theorem snd_dc {K : PySem.W.Frag} {wi : TI} {g : TG} {tt : TT} {tk te : TE} {vs : List Nat} {di : DIv} {dg : DGv} {dt : DTv} {dk de : DEv} (si : SndI K cm E wi di) (sg : SndG K cm E0 g dg) (og : OnlyG vs g) (st' : SndT K cm E0 tt dt) (sk : Snd K cm E0 tk dk) (se : Snd K cm E0 te de) :
    Snd K cm E (tDc wi g tt tk te vs) (dDc di dg dt dk de vs) := fun A c0 st σ Q rel loc h => by
  refine si A c0 st σ _ rel loc (Post.seq h fun s J c1 _ x1 rel1 ⟨wk, held1⟩ h1 => ?_)
  intro p hp
  have xp : Ext c1 ⟨c1.φ ++ [p], c1.S ++ [.dK []], upd c1.H p (.dK [])⟩ := Ext.push rel1 hp
  have relp : RelC ⟨K, cm, A⟩ ⟨c1.φ ++ [p], c1.S ++ [.dK []], upd c1.H p (.dK [])⟩ := rel1.push (o := .dK []) hp (notA_new rel1 hp) ⟨[], upd_same, .nil⟩
  have φp : (c1.φ ++ [p])[c1.S.length]? = some p := by rw [← rel1.len]; simp
  refine ⟨fun i m H => m = s.xs.length - i ∧ i ≤ s.xs.length ∧ ∃ c : Cfg, c.H = H ∧ Ext c1 c ∧ c.φ[c1.S.length]? = some p ∧ RelC ⟨K, cm, A⟩ c ∧ LocR ⟨K, cm, A⟩ c (wipeD st vs) (wipe σ vs) ∧
      Post ⟨K, cm, A⟩ E (Rp ⟨K, cm, A⟩) c1 Q ((dcD s c1.S.length dg dt dk de (wipeD st vs) (s.xs.drop i) c.S).bind fun _ S2 => .ok (.loc c1.S.length) S2),
    ⟨_, rfl, Nat.zero_le _, ⟨c1.φ ++ [p], c1.S ++ [.dK []], upd c1.H p (.dK [])⟩, rfl, xp, φp, relp, ((loc.mono x1).wipes vs).mono xp, by rw [List.drop_zero]; exact h1⟩, ?_⟩
  rintro i m H ⟨rfl, hi, c, rfl, x, hφ, relc, locc, hc⟩
  by_cases hlt : i < s.xs.length
  · rw [List.drop_eq_getElem_cons hlt] at hc
    unfold dcD at hc
    split at hc
    · rename_i held
      obtain ⟨w1, _⟩ := wk A (fun a z => .inl z) c x relc held i
      obtain ⟨go, yld⟩ := w1 _ (List.getElem?_eq_getElem hlt)
      refine .inr ⟨go, fun H' => ∃ c' : Cfg, c'.H = H' ∧ Ext c1 c' ∧ c'.φ[c1.S.length]? = some p ∧ RelC ⟨K, cm, A⟩ c' ∧ LocR ⟨K, cm, A⟩ c' (wipeD st vs) (wipe σ vs) ∧
          Post ⟨K, cm, A⟩ E (Rp ⟨K, cm, A⟩) c1 Q ((dcD s c1.S.length dg dt dk de (wipeD st vs) (s.xs.drop (i + 1)) c'.S).bind fun _ S2 => .ok (.loc c1.S.length) S2),
        fun H' ⟨c', e1, e2, e3, e4, e5, e6⟩ => ⟨s.xs.length - (i + 1), by omega, rfl, hlt, c', e1, e2, e3, e4, e5, e6⟩, fun v H' hy => ?_⟩
      obtain ⟨c2, e2, eS, x2, rel2, rv⟩ := yld v H' hy
      subst e2
      have key : Post ⟨K, cm, A⟩ E0 (fun _ (a : Unit) (b : Unit) => a = b) c2 (fun o H' => True) (dcT c1.S.length dg dt dk de (wipeD st vs) s.xs[i] c2.S) := by
        rw [eS]
        cases q : dcT c1.S.length dg dt dk de (wipeD st vs) s.xs[i] c.S with
        | no => rw [q] at hc; exact hc.elim
        | err z S => rw [q] at hc; exact hc.elim
        | ok o S => exact fun _ _ _ _ _ _ => True.intro
      have hc' : ∀ S', dcT c1.S.length dg dt dk de (wipeD st vs) s.xs[i] c2.S = R.ok () S' →
          Post ⟨K, cm, A⟩ E (Rp ⟨K, cm, A⟩) c1 Q ((dcD s c1.S.length dg dt dk de (wipeD st vs) (s.xs.drop (i + 1)) S').bind fun _ S2 => .ok (.loc c1.S.length) S2) := fun S' q => by
        rw [eS] at q
        rw [q] at hc
        exact hc
      unfold dcT at key
      refine og v (wipe σ vs) c2.H _ _ (fun σ2 H2 e q => ⟨by rw [e]; exact wipe_wipe, q⟩) (sg _ c2 (wipeD st vs) (wipe σ vs) _ v _ rel2 (locc.mono x2) rv (Post.seq key fun st1 σ1 c3 q3 x3 rel3 loc3 h3 => ?_))
      refine st' _ c3 st1 σ1 _ rel3 loc3 (Post.seq h3 fun k k' c4 q4 x4 rel4 rk h4 => ?_)
      cases rk
      have φ2 : c2.φ[c1.S.length]? = some p := x2.pre _ _ hφ
      cases k with
      | true =>
        rw [if_pos rfl]
        rw [if_pos rfl] at h4
        refine sk _ c4 st1 σ1 _ rel4 (loc3.mono x4) (Post.seq h4 fun y u c5 q5 x5 rel5 ru h5 => ?_)
        refine se _ c5 st1 σ1 _ rel5 ((loc3.mono x4).mono x5) (Post.seq h5 fun z w c6 q6 x6 rel6 rw6 h6 => ?_)
        have run : dcT c1.S.length dg dt dk de (wipeD st vs) s.xs[i] c2.S = putC c1.S.length y z c6.S := by
          unfold dcT
          rw [q3, R.bind_ok, q4, R.bind_ok, if_pos rfl, q5, R.bind_ok, q6, R.bind_ok]
        unfold putC at h6 run
        split at h6
        · rename_i q kvs hq hS
          split at h6
          · rename_i hl
            rw [hq, hS] at run
            replace run : dcT c1.S.length dg dt dk de (wipeD st vs) s.xs[i] c2.S = .ok () (c6.S.set c1.S.length (.dK (putA kvs q z))) := by rw [run]; exact if_pos hl
            have x26 : Ext c2 c6 := ((x3.trans x4).trans x5).trans x6
            have φ6 : c6.φ[c1.S.length]? = some p := x26.pre _ _ φ2
            obtain ⟨kws, hH, t⟩ := rel6.obj _ _ _ φ6 hS
            have xq : Ext c6 ⟨c6.φ, c6.S.set c1.S.length (.dK (putA kvs q z)), upd c6.H p (.dK (putK kws q w))⟩ := Ext.put rel6 φ6 hS (by simp)
            exact ⟨kws, q, keyOf_rep ru hq, hH, by rw [← t.length]; exact Nat.lt_of_lt_of_le hl million, _, rfl, ((x.trans x2).trans x26).trans xq, φ6, rel6.put (o' := .dK (putA kvs q z)) φ6 hS (by simp) ⟨_, upd_same, (t.put q rw6).map (Rp.mono xq)⟩, ((locc.mono x2).mono x26).mono xq, hc' _ run⟩
          · exact h6.elim
        · exact h6.elim
      | false =>
        rw [if_neg Bool.false_ne_true]
        have run : dcT c1.S.length dg dt dk de (wipeD st vs) s.xs[i] c2.S = .ok () c4.S := by
          unfold dcT
          rw [q3, R.bind_ok, q4, R.bind_ok, if_neg Bool.false_ne_true]
        have x24 : Ext c2 c4 := x3.trans x4
        exact ⟨c4, rfl, (x.trans x2).trans x24, x24.pre _ _ φ2, rel4, (locc.mono x2).mono x24, hc' _ run⟩
    · exact hc.elim
  · have e : i = s.xs.length := by omega
    subst e
    rw [List.drop_length] at hc
    unfold dcD at hc
    split at hc
    · rename_i held
      obtain ⟨_, w2⟩ := wk A (fun a z => .inl z) c x relc held s.xs.length
      exact .inl ⟨w2 (Nat.le_refl _), hc (.ref p) c rfl x relc ⟨p, rfl, hφ⟩⟩
    · exact hc.elim
section
variable {tg iter kx vx : Expr} {ifs : List Expr} {scope : Scope} {own : List (Str × Nat)} {pos : Pos} {di : DIv} {dg : DGv} {dt : DTv} {dk de : DEv} {g : TG} {k : Nat}
theorem de_dc (G : GX X E k) (hi : DI X cm E tg iter di) (ok : BlkOk X.N X.env.scope scope own)
    (hg : ∀ (s : Shared) (H : Hp) (C : Addr) (cl : List (Str × Addr)) (fp : List Addr), GX (X.blk s H scope (compEnvC scope cl C X.env) fp) E0 k → DGo (X.blk s H scope (compEnvC scope cl C X.env) fp) cm E0 tg (own.map (·.2)) dg g)
    (ht : ∀ (s : Shared) (H : Hp) (C : Addr) (cl : List (Str × Addr)) (fp : List Addr), GX (X.blk s H scope (compEnvC scope cl C X.env) fp) E0 k → DTs (X.blk s H scope (compEnvC scope cl C X.env) fp) cm E0 ifs dt)
    (hk : ∀ (s : Shared) (H : Hp) (C : Addr) (cl : List (Str × Addr)) (fp : List Addr), GX (X.blk s H scope (compEnvC scope cl C X.env) fp) E0 k → DE (X.blk s H scope (compEnvC scope cl C X.env) fp) cm E0 kx dk)
    (he : ∀ (s : Shared) (H : Hp) (C : Addr) (cl : List (Str × Addr)) (fp : List Addr), GX (X.blk s H scope (compEnvC scope cl C X.env) fp) E0 k → DE (X.blk s H scope (compEnvC scope cl C X.env) fp) cm E0 vx de)
    (hs : ∀ x, foldedSetIterable iter X.env x = pure x := by intro _; rfl) : DE X cm E (.DictComp kx vx [⟨tg, iter, ifs, 0⟩] scope pos) (dDc di dg dt dk de (own.map (·.2))) := by
  obtain ⟨ti, pi, si⟩ := hi.ex
  have o := hg {} (fun _ => none) 0 [] [] (G.blk _ _ _ _ _)
  refine ⟨_, pe_dc (g := g) (tt := canonT X.K cm E0 dt) (tk := canonE X.K cm E0 dk) (tv := canonE X.K cm E0 de) G.calm G.nd pi ok (fun s H C cl fp => (hg s H C cl fp (G.blk _ _ _ _ _)).pg) (fun s H C cl fp => (ht s H C cl fp (G.blk _ _ _ _ _)).canon) (fun s H C cl fp => (hk s H C cl fp (G.blk _ _ _ _ _)).canon) (fun s H C cl fp => (he s H C cl fp (G.blk _ _ _ _ _)).canon) hs, ?_⟩
  exact snd_dc si o.snd o.only snd_canonT snd_canonE snd_canonE
/-- the same, to a name on one line -/
theorem sw_dc {scope : Scope} {pos py : Pos} {y : Str} {l : Nat} {env : Env} {gs : List Comprehension} (k1 : env.scope.kind = .function) (k2 : env.scope.names.lookup y = some .local) (k3 : (py.line == pos.line) = true)
    (k4 : (scope.names.any fun (n, k) => n == y && (k == .local || k == .cell)) = false) : swapsWith (.DictComp kx vx gs scope pos) (some (.Name y py)) l env = pure true := by
  have c1 : env.kindOf y = some .local := k2
  have c2 : env.blockKind = .function := by unfold Env.blockKind; rw [k1]; rfl
  unfold swapsWith
  simp only [c2, c1, k4, Expr.pos, k3]; rfl
theorem ds_setDc {i : Nat} {y : Str} {py spos : Pos} (G : GX X E k) (hsw : swapsWith (.DictComp kx vx [⟨tg, iter, ifs, 0⟩] scope pos) (some (.Name y py)) spos.line X.env = pure true) (hi : DI X cm E tg iter di) (ok : BlkOk X.N X.env.scope scope own)
    (hg : ∀ (s : Shared) (H : Hp) (C : Addr) (cl : List (Str × Addr)) (fp : List Addr), GX (X.blk s H scope (compEnvC scope cl C X.env) fp) E0 k → DGo (X.blk s H scope (compEnvC scope cl C X.env) fp) cm E0 tg (own.map (·.2)) dg g)
    (ht : ∀ (s : Shared) (H : Hp) (C : Addr) (cl : List (Str × Addr)) (fp : List Addr), GX (X.blk s H scope (compEnvC scope cl C X.env) fp) E0 k → DTs (X.blk s H scope (compEnvC scope cl C X.env) fp) cm E0 ifs dt)
    (hk : ∀ (s : Shared) (H : Hp) (C : Addr) (cl : List (Str × Addr)) (fp : List Addr), GX (X.blk s H scope (compEnvC scope cl C X.env) fp) E0 k → DE (X.blk s H scope (compEnvC scope cl C X.env) fp) cm E0 kx dk)
    (he : ∀ (s : Shared) (H : Hp) (C : Addr) (cl : List (Str × Addr)) (fp : List Addr), GX (X.blk s H scope (compEnvC scope cl C X.env) fp) E0 k → DE (X.blk s H scope (compEnvC scope cl C X.env) fp) cm E0 vx de)
    (hy : X.N[i]? = some y := by rfl) (hyl : X.env.scope.names.lookup y = some .local := by rfl) (hs : ∀ x, foldedSetIterable iter X.env x = pure x := by intro _; rfl) : DS X cm E (.Assign [.Name y py] (.DictComp kx vx [⟨tg, iter, ifs, 0⟩] scope pos) spos) (dSet i (dDc di dg dt dk de (own.map (·.2)))) := by
  obtain ⟨ti, pi, si⟩ := hi.ex
  have o := hg {} (fun _ => none) 0 [] [] (G.blk _ _ _ _ _)
  have sn := snd_dc si o.snd o.only (snd_canonT (cm := cm) (E := E0) (K := X.K) (d := dt)) (snd_canonE (K := X.K) (cm := cm) (E := E0) (d := dk)) (snd_canonE (K := X.K) (cm := cm) (E := E0) (d := de))
  refine ⟨tAsg (tDc ti g (canonT X.K cm E0 dt) (canonE X.K cm E0 dk) (canonE X.K cm E0 de) (own.map fun z : Str × Nat => z.2)) (gName i), ⟨fun pins s0 σ H Dn I h => ?_⟩, fun A c st σ Ds rel loc h => sn A c st σ _ rel loc (Post.seqS h fun x v c1 _ x1 rel1 rx h1 => h1 _ c1 rfl (.refl c1) rel1 ((loc.mono x1).set rx))⟩
  rw [exec_Assign_Name_used _ _ _ _ hsw]
  refine wpAny_bind (wpAny_standAt (wpAny_bind ?_))
  show wpAny _ X.A (do
    let _ ← comprehension (.DictComp kx vx [⟨tg, iter, ifs, 0⟩] scope pos) scope X.env (firstIterPos [⟨tg, iter, ifs, 0⟩] pos) newDict false (eval iter X.env) (some (assign (.Name y py) X.env))) _ _ s0
  have h' : tDc ti g (canonT X.K cm E0 dt) (canonE X.K cm E0 dk) (canonE X.K cm E0 de) (own.map fun z : Str × Nat => z.2) σ H (fun z H1 => gName i z σ H1 Dn.nx) := h
  refine wpAny_bind (thn (dc_core (Qf := fun _ u => SP X pins Dn .next u) G.calm G.nd I pi ok (fun s H C cl fp => (hg s H C cl fp (G.blk _ _ _ _ _)).pg) (fun s H C cl fp => (ht s H C cl fp (G.blk _ _ _ _ _)).canon) (fun s H C cl fp => (hk s H C cl fp (G.blk _ _ _ _ _)).canon) (fun s H C cl fp => (he s H C cl fp (G.blk _ _ _ _ _)).canon) hs h' fun L C u m Hu Iu q hn f => ?_) fun _ u hq => wpAny_pure (wpAny_pure hq))
  show wpAny _ _ (assign (.Name y py) X.env (.ref L)) _ _ _
  refine wpAny_assign_Name (store_ok2 (v := V.ref L) Iu G.nd hy (.inl hyl) rfl (fun u2 I2 ⟨a, sb, ha⟩ => ?_) (.inr hyl))
  obtain ⟨f0, f1, f2, f3, f4, f5⟩ := f
  have ne : C ≠ a := by
    rcases ha with z | z
    · rw [z]; exact f1
    · intro e; exact f4 y a z e.symm
  refine ⟨m, hn.sameBut sb ne, fun u3 sb3 => ?_⟩
  exact ⟨_, Hu, I2.turned (t' := u2.toks) (fun b o hb e => (sb3.2 b hb).trans e) f0 f1 f3 f4 f5, q⟩
end
/-! ### a list comprehension whose list is to be changed later -/
def putL (n : Nat) (y : D) (S : Store) : R Unit := match S[n]? with
  | some (.lst acc) => if acc.length < 1000000 then .ok () (S.set n (.lst (acc ++ [y]))) else .no
  | _ => .no
noncomputable def lmT (n : Nat) (g : DGv) (t : DTv) (e : DEv) (st : DSt) (x : D) (S : Store) : R Unit := (g x st S).bind fun st1 S1 => (t st1 S1).bind fun k S2 => if k = true then (e st1 S2).bind fun y S3 => putL n y S3 else .ok () S2
open Classical in
noncomputable def lmD (s : Src) (n : Nat) (g : DGv) (t : DTv) (e : DEv) (st : DSt) : List D → Store → R Unit
  | [], S => if s.held S then .ok () S else .no
  | x :: xs, S => if s.held S then (lmT n g t e st x S).mute.bind fun _ S' => lmD s n g t e st xs S' else .no
noncomputable def dLm (i : DIv) (g : DGv) (t : DTv) (e : DEv) (vs : List Nat) : DEv := fun st S => (i st S).bind fun s S1 => (lmD s S1.length g t e (wipeD st vs) s.xs (S1 ++ [.lst []])).bind fun _ S2 => .ok (.loc S1.length) S2
theorem snd_lm {K : PySem.W.Frag} {wi : TI} {g : TG} {tt : TT} {te : TE} {vs : List Nat} {di : DIv} {dg : DGv} {dt : DTv} {de : DEv} (si : SndI K cm E wi di) (sg : SndG K cm E0 g dg) (og : OnlyG vs g) (st' : SndT K cm E0 tt dt) (se : Snd K cm E0 te de) :
    Snd K cm E (tLc wi g tt te vs) (dLm di dg dt de vs) := fun A c0 st σ Q rel loc h => by
  refine si A c0 st σ _ rel loc (Post.seq h fun s J c1 _ x1 rel1 ⟨wk, held1⟩ h1 => ?_)
  intro p hp
  have xp : Ext c1 ⟨c1.φ ++ [p], c1.S ++ [.lst []], upd c1.H p (.lst [])⟩ := Ext.push rel1 hp
  have relp : RelC ⟨K, cm, A⟩ ⟨c1.φ ++ [p], c1.S ++ [.lst []], upd c1.H p (.lst [])⟩ := rel1.push (o := .lst []) hp (notA_new rel1 hp) ⟨[], upd_same, rfl⟩
  have φp : (c1.φ ++ [p])[c1.S.length]? = some p := by rw [← rel1.len]; simp
  refine ⟨fun i m H => m = s.xs.length - i ∧ i ≤ s.xs.length ∧ ∃ c : Cfg, c.H = H ∧ Ext c1 c ∧ c.φ[c1.S.length]? = some p ∧ RelC ⟨K, cm, A⟩ c ∧ LocR ⟨K, cm, A⟩ c (wipeD st vs) (wipe σ vs) ∧
      Post ⟨K, cm, A⟩ E (Rp ⟨K, cm, A⟩) c1 Q ((lmD s c1.S.length dg dt de (wipeD st vs) (s.xs.drop i) c.S).bind fun _ S2 => .ok (.loc c1.S.length) S2),
    ⟨_, rfl, Nat.zero_le _, ⟨c1.φ ++ [p], c1.S ++ [.lst []], upd c1.H p (.lst [])⟩, rfl, xp, φp, relp, ((loc.mono x1).wipes vs).mono xp, by rw [List.drop_zero]; exact h1⟩, ?_⟩
  rintro i m H ⟨rfl, hi, c, rfl, x, hφ, relc, locc, hc⟩
  by_cases hlt : i < s.xs.length
  · rw [List.drop_eq_getElem_cons hlt] at hc
    unfold lmD at hc
    split at hc
    · rename_i held
      obtain ⟨w1, _⟩ := wk A (fun a z => .inl z) c x relc held i
      obtain ⟨go, yld⟩ := w1 _ (List.getElem?_eq_getElem hlt)
      refine .inr ⟨go, fun H' => ∃ c' : Cfg, c'.H = H' ∧ Ext c1 c' ∧ c'.φ[c1.S.length]? = some p ∧ RelC ⟨K, cm, A⟩ c' ∧ LocR ⟨K, cm, A⟩ c' (wipeD st vs) (wipe σ vs) ∧
          Post ⟨K, cm, A⟩ E (Rp ⟨K, cm, A⟩) c1 Q ((lmD s c1.S.length dg dt de (wipeD st vs) (s.xs.drop (i + 1)) c'.S).bind fun _ S2 => .ok (.loc c1.S.length) S2),
        fun H' ⟨c', e1, e2, e3, e4, e5, e6⟩ => ⟨s.xs.length - (i + 1), by omega, rfl, hlt, c', e1, e2, e3, e4, e5, e6⟩, fun v H' hy => ?_⟩
      obtain ⟨c2, e2, eS, x2, rel2, rv⟩ := yld v H' hy
      subst e2
      have key : Post ⟨K, cm, A⟩ E0 (fun _ (a : Unit) (b : Unit) => a = b) c2 (fun o H' => True) (lmT c1.S.length dg dt de (wipeD st vs) s.xs[i] c2.S) := by
        rw [eS]
        cases q : lmT c1.S.length dg dt de (wipeD st vs) s.xs[i] c.S with
        | no => rw [q] at hc; exact hc.elim
        | err z S => rw [q] at hc; exact hc.elim
        | ok o S => exact fun _ _ _ _ _ _ => True.intro
      have hc' : ∀ S', lmT c1.S.length dg dt de (wipeD st vs) s.xs[i] c2.S = R.ok () S' →
          Post ⟨K, cm, A⟩ E (Rp ⟨K, cm, A⟩) c1 Q ((lmD s c1.S.length dg dt de (wipeD st vs) (s.xs.drop (i + 1)) S').bind fun _ S2 => .ok (.loc c1.S.length) S2) := fun S' q => by
        rw [eS] at q
        rw [q] at hc
        exact hc
      unfold lmT at key
      refine og v (wipe σ vs) c2.H _ _ (fun σ2 H2 e q => ⟨by rw [e]; exact wipe_wipe, q⟩) (sg _ c2 (wipeD st vs) (wipe σ vs) _ v _ rel2 (locc.mono x2) rv (Post.seq key fun st1 σ1 c3 q3 x3 rel3 loc3 h3 => ?_))
      refine st' _ c3 st1 σ1 _ rel3 loc3 (Post.seq h3 fun k k' c4 q4 x4 rel4 rk h4 => ?_)
      cases rk
      have φ2 : c2.φ[c1.S.length]? = some p := x2.pre _ _ hφ
      cases k with
      | true =>
        rw [if_pos rfl]
        rw [if_pos rfl] at h4
        refine se _ c4 st1 σ1 _ rel4 (loc3.mono x4) (Post.seq h4 fun z w c6 q6 x6 rel6 rw6 h6 => ?_)
        have run : lmT c1.S.length dg dt de (wipeD st vs) s.xs[i] c2.S = putL c1.S.length z c6.S := by
          unfold lmT
          rw [q3, R.bind_ok, q4, R.bind_ok, if_pos rfl, q6, R.bind_ok]
        unfold putL at h6 run
        split at h6
        · rename_i acc hS
          split at h6
          · rename_i hl
            rw [hS] at run
            replace run : lmT c1.S.length dg dt de (wipeD st vs) s.xs[i] c2.S = .ok () (c6.S.set c1.S.length (.lst (acc ++ [z]))) := by rw [run]; exact if_pos hl
            have x26 : Ext c2 c6 := (x3.trans x4).trans x6
            have φ6 : c6.φ[c1.S.length]? = some p := x26.pre _ _ φ2
            obtain ⟨ws, hH, t⟩ := rel6.obj _ _ _ φ6 hS
            have xq : Ext c6 ⟨c6.φ, c6.S.set c1.S.length (.lst (acc ++ [z])), upd c6.H p (.lst (ws ++ [w]))⟩ := Ext.put rel6 φ6 hS (by simp)
            exact ⟨ws, hH, by rw [← t.length]; exact Nat.lt_of_lt_of_le hl million, _, rfl, ((x.trans x2).trans x26).trans xq, φ6, rel6.put (o' := .lst (acc ++ [z])) φ6 hS (by simp) ⟨_, upd_same, RpA.mono xq _ _ (t.append ⟨w, [], rfl, rw6, rfl⟩)⟩, ((locc.mono x2).mono x26).mono xq, hc' _ run⟩
          · exact h6.elim
        · exact h6.elim
      | false =>
        rw [if_neg Bool.false_ne_true]
        have run : lmT c1.S.length dg dt de (wipeD st vs) s.xs[i] c2.S = .ok () c4.S := by
          unfold lmT
          rw [q3, R.bind_ok, q4, R.bind_ok, if_neg Bool.false_ne_true]
        have x24 : Ext c2 c4 := x3.trans x4
        exact ⟨c4, rfl, (x.trans x2).trans x24, x24.pre _ _ φ2, rel4, (locc.mono x2).mono x24, hc' _ run⟩
    · exact hc.elim
  · have e : i = s.xs.length := by omega
    subst e
    rw [List.drop_length] at hc
    unfold lmD at hc
    split at hc
    · rename_i held
      obtain ⟨_, w2⟩ := wk A (fun a z => .inl z) c x relc held s.xs.length
      exact .inl ⟨w2 (Nat.le_refl _), hc (.ref p) c rfl x relc ⟨p, rfl, hφ⟩⟩
    · exact hc.elim
section
variable {elt tg iter : Expr} {ifs : List Expr} {scope : Scope} {own : List (Str × Nat)} {pos : Pos} {di : DIv} {dg : DGv} {dt : DTv} {de : DEv} {g : TG} {k : Nat}
theorem ds_setLm {i : Nat} {y : Str} {py spos : Pos} (G : GX X E k) (hsw : swapsWith (.ListComp elt [⟨tg, iter, ifs, 0⟩] scope pos) (some (.Name y py)) spos.line X.env = pure true) (hi : DI X cm E tg iter di) (ok : BlkOk X.N X.env.scope scope own)
    (hg : ∀ (s : Shared) (H : Hp) (C : Addr) (cl : List (Str × Addr)) (fp : List Addr), GX (X.blk s H scope (compEnvC scope cl C X.env) fp) E0 k → DGo (X.blk s H scope (compEnvC scope cl C X.env) fp) cm E0 tg (own.map (·.2)) dg g)
    (ht : ∀ (s : Shared) (H : Hp) (C : Addr) (cl : List (Str × Addr)) (fp : List Addr), GX (X.blk s H scope (compEnvC scope cl C X.env) fp) E0 k → DTs (X.blk s H scope (compEnvC scope cl C X.env) fp) cm E0 ifs dt)
    (he : ∀ (s : Shared) (H : Hp) (C : Addr) (cl : List (Str × Addr)) (fp : List Addr), GX (X.blk s H scope (compEnvC scope cl C X.env) fp) E0 k → DE (X.blk s H scope (compEnvC scope cl C X.env) fp) cm E0 elt de)
    (hy : X.N[i]? = some y := by rfl) (hyl : X.env.scope.names.lookup y = some .local := by rfl) (hs : ∀ x, foldedSetIterable iter X.env x = pure x := by intro _; rfl) : DS X cm E (.Assign [.Name y py] (.ListComp elt [⟨tg, iter, ifs, 0⟩] scope pos) spos) (dSet i (dLm di dg dt de (own.map (·.2)))) := by
  obtain ⟨ti, pi, si⟩ := hi.ex
  have o := hg {} (fun _ => none) 0 [] [] (G.blk _ _ _ _ _)
  refine ⟨_, ps_setLc (g := g) (tt := canonT X.K cm E0 dt) (te := canonE X.K cm E0 de) G.calm G.nd hy hyl hsw pi ok (fun s H C cl fp => (hg s H C cl fp (G.blk _ _ _ _ _)).pg) (fun s H C cl fp => (ht s H C cl fp (G.blk _ _ _ _ _)).canon) (fun s H C cl fp => (he s H C cl fp (G.blk _ _ _ _ _)).canon) hs, ?_⟩
  have sn := snd_lm si o.snd o.only (snd_canonT (cm := cm) (E := E0) (K := X.K) (d := dt)) (snd_canonE (K := X.K) (cm := cm) (E := E0) (d := de))
  exact fun A c st σ Ds rel loc h => sn A c st σ _ rel loc (Post.seqS h fun x v c1 _ x1 rel1 rx h1 => h1 _ c1 rfl (.refl c1) rel1 ((loc.mono x1).set rx))
theorem de_lcM (G : GX X E k) (hi : DI X cm E tg iter di) (ok : BlkOk X.N X.env.scope scope own)
    (hg : ∀ (s : Shared) (H : Hp) (C : Addr) (cl : List (Str × Addr)) (fp : List Addr), GX (X.blk s H scope (compEnvC scope cl C X.env) fp) E0 k → DGo (X.blk s H scope (compEnvC scope cl C X.env) fp) cm E0 tg (own.map (·.2)) dg g)
    (ht : ∀ (s : Shared) (H : Hp) (C : Addr) (cl : List (Str × Addr)) (fp : List Addr), GX (X.blk s H scope (compEnvC scope cl C X.env) fp) E0 k → DTs (X.blk s H scope (compEnvC scope cl C X.env) fp) cm E0 ifs dt)
    (he : ∀ (s : Shared) (H : Hp) (C : Addr) (cl : List (Str × Addr)) (fp : List Addr), GX (X.blk s H scope (compEnvC scope cl C X.env) fp) E0 k → DE (X.blk s H scope (compEnvC scope cl C X.env) fp) cm E0 elt de)
    (hs : ∀ x, foldedSetIterable iter X.env x = pure x := by intro _; rfl) : DE X cm E (.ListComp elt [⟨tg, iter, ifs, 0⟩] scope pos) (dLm di dg dt de (own.map (·.2))) := by
  obtain ⟨ti, pi, si⟩ := hi.ex
  have o := hg {} (fun _ => none) 0 [] [] (G.blk _ _ _ _ _)
  refine ⟨_, pe_lc (g := g) (tt := canonT X.K cm E0 dt) (te := canonE X.K cm E0 de) G.calm G.nd pi ok (fun s H C cl fp => (hg s H C cl fp (G.blk _ _ _ _ _)).pg) (fun s H C cl fp => (ht s H C cl fp (G.blk _ _ _ _ _)).canon) (fun s H C cl fp => (he s H C cl fp (G.blk _ _ _ _ _)).canon) hs, ?_⟩
  exact snd_lm si o.snd o.only snd_canonT snd_canonE
end

/-! ### more of lists, ranges, tuples of the module -/
def insV (x : D) (ds : List D) (S : Store) : R D := match x, ds with
  | .loc n, [.int i, y] => match S[n]? with
    | some (.lst xs) => if xs.length < 1000000 ∧ 0 ≤ i ∧ i < 2 ^ 60 then .ok .non (S.set n (.lst (xs.take i.toNat ++ [y] ++ xs.drop i.toNat))) else .no
    | _ => .no
  | _, _ => .no
theorem insV_s : MtS K cm (fun x vs H Q => ∃ (l : Addr) (xs : List V) (i : Int) (y : V), x = .ref l ∧ vs = [.int i, y] ∧ H l = some (.lst xs) ∧ xs.length < sizeLine ∧ 0 ≤ i ∧ i < 2 ^ 63 ∧ Q .non (upd H l (.lst (xs.take i.toNat ++ [y] ++ xs.drop i.toNat)))) insV := fun A c x v ds vs Q rel rx rd h => by
  unfold insV at h
  split at h
  · rename_i n i y
    split at h
    · rename_i xs hx
      split at h
      · rename_i hl
        obtain ⟨a, e, hφ, ws, hH, t⟩ := Rp.obj rel rx hx
        obtain ⟨w, u, e2, rw1, ru⟩ := RpA.two rd
        rw [show w = .int i from rw1] at e2
        exact ⟨a, ws, i, u, e, e2, hH, by rw [← t.length]; exact Nat.lt_of_lt_of_le hl.1 million, hl.2.1, by omega, h.setL rel hφ hx (((t.take _).append (RpA.cons ru RpA.nil)).append (t.drop _)) rfl⟩
      · exact h.elim
    · exact h.elim
  · exact h.elim
theorem insV_n : NoErrM insV := fun x ds S => by unfold insV; split <;> (try split) <;> (try split) <;> exact True.intro
theorem RpA.last {G : Gam} {c : Cfg} : ∀ {xs : List D} {vs : List V}, RpA G c xs vs → RpA G c xs.dropLast vs.dropLast := fun {xs vs} h => by
  rw [List.dropLast_eq_take, List.dropLast_eq_take, h.length]
  exact h.take _
def popV (x : D) (ds : List D) (S : Store) : R D := match x, ds with
  | .loc n, [] => match S[n]? with
    | some (.lst xs) => match xs[xs.length - 1]? with
      | some y => .ok y (S.set n (.lst xs.dropLast))
      | none => .no
    | _ => .no
  | _, _ => .no
theorem popV_s : MtS K cm rPop popV := fun A c x v ds vs Q rel rx rd h => by
  unfold popV at h
  split at h
  · rename_i n
    split at h
    · rename_i xs hx
      split at h
      · rename_i y hy
        obtain ⟨a, e, hφ, ws, hH, t⟩ := Rp.obj rel rx hx
        obtain ⟨u, hu, ru⟩ := t.get hy
        rw [t.length] at hu
        exact ⟨a, ws, u, e, rd, hH, hu, h.setL rel hφ hx t.last ru⟩
      · exact h.elim
    · exact h.elim
  · exact h.elim
theorem popV_n : NoErrM popV := fun x ds S => by unfold popV; split <;> (try split) <;> (try split) <;> exact True.intro
theorem RpA.out {G : Gam} {c : Cfg} {xs : List D} {vs : List V} (h : RpA G c xs vs) (k : Nat) : RpA G c (xs.eraseIdx k) (vs.eraseIdx k) := by
  rw [List.eraseIdx_eq_take_drop_succ, List.eraseIdx_eq_take_drop_succ]
  exact (h.take _).append (h.drop _)
def popAtV (x : D) (ds : List D) (S : Store) : R D := match x, ds with
  | .loc n, [.int i] => match S[n]? with
    | some (.lst xs) => if 0 ≤ i ∧ i < 2 ^ 60 then match xs[i.toNat]? with
        | some y => .ok y (S.set n (.lst (xs.eraseIdx i.toNat)))
        | none => .no
      else .no
    | _ => .no
  | _, _ => .no
theorem popAtV_s : MtS K cm rPopAt popAtV := fun A c x v ds vs Q rel rx rd h => by
  unfold popAtV at h
  split at h
  · rename_i n i
    split at h
    · rename_i xs hx
      split at h
      · rename_i hi
        split at h
        · rename_i y hy
          obtain ⟨a, e, hφ, ws, hH, t⟩ := Rp.obj rel rx hx
          obtain ⟨u, hu, ru⟩ := t.get hy
          obtain ⟨w, e2, rw1⟩ := RpA.one rd
          rw [show w = .int i from rw1] at e2
          have hlt := (List.getElem?_eq_some_iff.mp hu).1
          have sq : seqIndex? i ws.length = some i.toNat := by
            simp [seqIndex?, show ¬ i < 0 by omega, hi.1]
            omega
          exact ⟨a, ws, i, i.toNat, u, e, e2, hH, by omega, by omega, sq, hu, h.setL rel hφ hx (t.out _) ru⟩
        · exact h.elim
      · exact h.elim
    · exact h.elim
  · exact h.elim
theorem popAtV_n : NoErrM popAtV := fun x ds S => by unfold popAtV; split <;> (try split) <;> (try split) <;> (try split) <;> exact True.intro
/-- range(i, j, -1) -/
def downD (hi : Int) (n : Nat) : List D := (List.range n).map fun (k : Nat) => .int (hi + (k : Int) * (-1))
def diDown (a : DAv) : DIv := fun st S => (a st S).bind fun ds S1 => match ds with
  | [.int i, .int j, .int c] => if c = -1 ∧ j < 2 ^ 60 ∧ -(2 ^ 60) ≤ j ∧ i < 2 ^ 60 ∧ -(2 ^ 60) ≤ i then .ok ⟨downD i (i - j).toNat, []⟩ S1 else .no
  | _ => .no
theorem walk_down {c0 : Cfg} {lo : Int} {n : Nat} : WalkD K cm A c0 (Itc lo (-1) n) ⟨downD lo n, []⟩ := fun B hB c x rel _ i => by
  have l : (downD lo n).length = n := by simp [downD]
  refine ⟨fun y hy => ?_, fun hl => by
    have hl : (downD lo n).length ≤ i := hl
    rw [l] at hl
    exact hl⟩
  have hy : (downD lo n)[i]? = some y := hy
  have hi : i < n := by
    have := (List.getElem?_eq_some_iff.mp hy).1
    rw [l] at this
    exact this
  unfold downD at hy
  rw [List.getElem?_map, List.getElem?_range hi] at hy
  cases hy
  refine ⟨hi, fun u H' hu => ?_⟩
  obtain ⟨e, hu⟩ := hu
  exact ⟨c, e.symm, rfl, .refl c, rel, hu⟩
theorem di_down {tg a b e : Expr} {d : DAv} {p pos : Pos} (hg : Gl X "range") (hm : X.mg "range" = none) (h : DA X cm E [a, b, e] d) (hs : starEach [a, b, e] X.env = (false, eval a X.env) :: starEach [b, e] X.env := by rfl) (hpl : (backTo pos (starEach [b, e] X.env)).any (·.1) = false := by rfl) :
    DI X cm E tg (.Call (.Name "range" p) [a, b, e] [] pos) (diDown d) := by
  obtain ⟨t, p, s⟩ := h.ex
  refine ⟨_, pi_range3 hg hm p hs hpl, fun A c st σ Q rel loc h => s A c st σ _ rel loc (Post.seq h fun ds vs c1 _ x1 rel1 rx h1 => ?_)⟩
  split at h1
  · split at h1
    · rename_i i j c _ hj
      obtain ⟨v, w, u, e, rv, rw, ru⟩ := RpA.three rx
      obtain ⟨hc, h2, h3, h4, h5⟩ := hj
      subst hc
      exact ⟨i, j, -1, (i - j).toNat, by rw [e, show v = .int i from rv, show w = .int j from rw, show u = .int (-1) from ru], RgC.neg (by omega) (by omega) (by omega) (by omega), h1.here rel1 ⟨walk_down, held_nil⟩⟩
    · exact h1.elim
  · exact h1.elim
/-- in, not in a tuple of the module -/
def inK (xs : List D) (neg : Bool) (d : D) (S : Store) : R D := if flatD d = true ∧ xs.all flatD = true then .ok (.bl (if neg then !(xs.any fun u => eqF u d) else xs.any fun u => eqF u d)) S else .no
theorem dt_inK {op : CmpOp} {neg : Bool} {x : Str} {e : Expr} {a : Addr} {ds : List D} {vs : List V} {da : DEv} {p pos : Pos} (ho : OpR X (compareOp op) (rIn X.K neg)) (hg : Gl X x) (hm : X.mg x = some (.ref a)) (hq : ∀ H, SqT X.K H a vs) (hv : ∀ G c, RpA G c ds vs)
    (ha : DE X cm E e da) (hi : behindInMarks op (.Name x p) = false := by rfl) (hd : (x == ("__debug__" : Str)) = false := by decide) : DT X cm E (.Compare e [op] [.Name x p] pos) (dTest (dUn (inK ds neg) da)) := by
  obtain ⟨ta, pa, sa⟩ := ha.ex
  refine ⟨_, pt_cmpR ho pa (pe_glob (v := .ref a) hg hm rfl hd) hi, snd_test fun A c st σ Q rel loc h => sa A c st σ _ rel loc (Post.seq h fun d v c1 _ x1 rel1 rd h1 => ?_)⟩
  unfold inK at h1
  split at h1
  · rename_i f
    obtain ⟨g1, g2⟩ := inF_rep rd f.1 (hv ⟨X.K, cm, A⟩ c1) f.2
    refine ⟨a, vs, rfl, .inr (hq _), flatD_rep rd f.1, g1, ?_⟩
    rw [g2]
    exact h1.here rel1 rfl
  · exact h1.elim
theorem rpStr {G : Gam} {c : Cfg} {z : Str} (h : strG z = true) : Rp G c (.str z) (.str z) := ⟨rfl, (Bool.and_eq_true_iff.mp h).1, Nat.le_trans (of_decide_eq_true (Bool.and_eq_true_iff.mp h).2) (by decide)⟩

/-! ### recursion, parallel names, dict.get, dict.pop, sorted, str, upper -/
section
variable {P : Program} {w : World} {K : PySem.W.Frag} {mg : Str → Option Value} {base : Heap} {f : Addr} {fd : FuncData} {ps : List Str} {k : Nat}
/-- a def of which nothing is promised -/
theorem ok_none : FnOk P w K mg base (CX P w) k f fd ps (spD K cm ps.length fun _ _ => .no) :=
  ⟨fun vs H Q E h => h.1, fun A outer s H args us vs Q E _ _ _ _ h => by
    obtain ⟨_, B, c, ds, rfl, rel, rd, post⟩ := h
    exact post.elim⟩
end
def dPar (i j : Nat) (a : DAv) : DSv := fun st S => (a st S).bind fun ds S1 => match ds with
  | [x, y] => .ok (.nx ((st.set i (some x)).set j (some y))) S1
  | _ => .no
theorem ds_par {i j : Nat} {x y : Str} {a b : Expr} {da : DAv} {px py pt pos : Pos} {kt : Nat} {k2 : Nat} {pt2 : Pos} {n : Nat} (G : GX X E n) (ha : DA X cm E [a, b] da) (hij : i ≠ j) (hi : X.N[i]? = some x := by rfl) (hj : X.N[j]? = some y := by rfl)
    (hx : X.env.scope.names.lookup x = some .local := by rfl) (hy : X.env.scope.names.lookup y = some .local := by rfl)
    (hw : swappedStores [.Tuple [.Name x px, .Name y py] kt pt] (.Tuple [a, b] k2 pt2) X.env = pure (some [x, y]) := by rfl)
    (hs : swapsWithSole [.Tuple [.Name x px, .Name y py] kt pt] (.Tuple [a, b] k2 pt2) pos.line X.env = pure false := by rfl) : DS X cm E (.Assign [.Tuple [.Name x px, .Name y py] kt pt] (.Tuple [a, b] k2 pt2) pos) (dPar i j da) := by
  obtain ⟨t, p, s⟩ := ha.ex
  refine ⟨_, ps_par G.calm G.nd hi hj hij hx hy p hw hs, fun A c st σ Ds rel loc h => s A c st σ _ rel loc (Post.seqS h fun ds vs c1 _ x1 rel1 rx h1 => ?_)⟩
  split at h1
  · obtain ⟨v, w, e, rv, rw1⟩ := RpA.two rx
    exact ⟨v, w, e, h1 _ c1 rfl (.refl c1) rel1 (((loc.mono x1).set rv).set rw1)⟩
  · exact h1.elim
/-- d.get(k, x) -/
def isDct (S : Store) : D → Bool
  | .loc n => match S[n]? with
    | some (.dK _) => true
    | some (.dT _) => true
    | _ => false
  | _ => false
theorem isDct_rep {G : Gam} {c : Cfg} {d : D} {v : V} (rel : RelC G c) (r : Rp G c d v) (e : isDct c.S d = true) : ∃ a, v = .ref a ∧ IsD c.H a := by
  cases d with
  | loc n =>
    have e : (match c.S[n]? with
      | some (.dK _) => true
      | some (.dT _) => true
      | _ => false) = true := e
    split at e
    · rename_i kvs hk
      obtain ⟨a, e1, _, kws, h, t⟩ := Rp.obj rel r hk
      exact ⟨a, e1, .inl ⟨kws, .inl h⟩⟩
    · rename_i kvs hk
      obtain ⟨a, e1, _, kws, h, t⟩ := Rp.obj rel r hk
      exact ⟨a, e1, .inr ⟨kws, .inl h⟩⟩
    · cases e
  | _ => cases e
def getC (d k z : D) (S : Store) : R D := match dGetO S d k with
  | some r => .ok (r.getD z) S
  | none => .no
def dDget (o k z : DEv) : DEv := fun st S => (o st S).bind fun d S1 => if isDct S1 d = true then (k st S1).bind fun y S2 => (z st S2).bind fun u S3 => getC d y u S3 else .no
theorem de_dget {o e f : Expr} {apos cpos : Pos} {dd dk dz : DEv} {n : Nat} (G : GX X E n) (hu : X.A.units + 1 < cLine) (ho : DE X cm E o dd) (he : DE X cm E e dk) (hf : DE X cm E f dz) (m : M2 X o "get" apos e f cpos := by exact ⟨by rfl, by rfl, by rfl, by rfl⟩) : DE X cm E (.Call (.Attribute o "get" apos) [e, f] [] cpos) (dDget dd dk dz) := by
  obtain ⟨_, p1, s1⟩ := ho.ex
  obtain ⟨_, p2, s2⟩ := he.ex
  obtain ⟨_, p3, s3⟩ := hf.ex
  refine ⟨_, pe_dget2 hu p1 p2 p3 m, fun A c st σ Q rel loc h => s1 A c st σ _ rel loc (Post.seq h fun d v c1 _ x1 rel1 rd h1 => ?_)⟩
  split at h1
  · rename_i hd
    obtain ⟨a, e1, isd⟩ := isDct_rep rel1 rd hd
    refine ⟨a, e1, isd, s2 A c1 st σ _ rel1 (loc.mono x1) (Post.seq h1 fun y w c2 _ x2 rel2 ry h2 => s3 A c2 st σ _ rel2 ((loc.mono x1).mono x2) (Post.seq h2 fun z u c3 _ x3 rel3 rz h3 => ?_))⟩
    unfold getC at h3
    split at h3
    · rename_i r hr
      obtain ⟨a', e2, g⟩ := dGetO_rep rel3 (Rp.mono x3 _ _ (Rp.mono x2 _ _ rd)) (Rp.mono x3 _ _ ry) hr
      rw [e1] at e2
      cases e2
      rcases g with ⟨e3, g⟩ | ⟨x, u', e3, g, rx⟩
      · subst e3
        exact ⟨none, g, h3.here rel3 rz⟩
      · subst e3
        exact ⟨some u', g, h3.here rel3 rx⟩
    · exact h3.elim
  · exact h1.elim
/-- d.pop(k, x) of a dict by ints and texts -/
def dpopC (d k z : D) (S : Store) : R D := match d, keyOf k with
  | .loc n, some q => match S[n]? with
    | some (.dK kvs) => match lookA kvs q with
      | some x => .ok x (S.set n (.dK (dropA kvs q)))
      | none => .ok z S
    | _ => .no
  | _, _ => .no
def dDpop (o k z : DEv) : DEv := fun st S => (o st S).bind fun d S1 => if isDct S1 d = true then (k st S1).bind fun y S2 => (z st S2).bind fun u S3 => dpopC d y u S3 else .no
theorem de_dpop {o e f : Expr} {apos cpos : Pos} {dd dk dz : DEv} (ho : DE X cm E o dd) (he : DE X cm E e dk) (hf : DE X cm E f dz) (m : M2 X o "pop" apos e f cpos := by exact ⟨by rfl, by rfl, by rfl, by rfl⟩) : DE X cm E (.Call (.Attribute o "pop" apos) [e, f] [] cpos) (dDpop dd dk dz) := by
  obtain ⟨_, p1, s1⟩ := ho.ex
  obtain ⟨_, p2, s2⟩ := he.ex
  obtain ⟨_, p3, s3⟩ := hf.ex
  refine ⟨_, pe_dpop2 p1 p2 p3 m, fun A c st σ Q rel loc h => s1 A c st σ _ rel loc (Post.seq h fun d v c1 _ x1 rel1 rd h1 => ?_)⟩
  split at h1
  · rename_i hd
    obtain ⟨a, e1, isd⟩ := isDct_rep rel1 rd hd
    refine ⟨a, e1, isd, s2 A c1 st σ _ rel1 (loc.mono x1) (Post.seq h1 fun y w c2 _ x2 rel2 ry h2 => s3 A c2 st σ _ rel2 ((loc.mono x1).mono x2) (Post.seq h2 fun z u c3 _ x3 rel3 rz h3 => ?_))⟩
    unfold dpopC at h3
    split at h3
    · rename_i n q hq _
      split at h3
      · rename_i kvs hS
        obtain ⟨a', e2, hφ, kws, hH, t⟩ := Rp.obj rel3 (Rp.mono x3 _ _ (Rp.mono x2 _ _ rd)) hS
        rw [e1] at e2
        cases e2
        have ew := keyOf_rep (Rp.mono x3 _ _ ry) hq
        split at h3
        · rename_i x hx
          rcases t.look q with ⟨z1, z2⟩ | ⟨x', u', z1, z2, z3⟩
          · rw [z1] at hx; cases hx
          · rw [z1] at hx
            cases hx
            refine ⟨kws, q, hH, ew, fun v' hv => ?_, fun hv => by rw [z2] at hv; cases hv⟩
            rw [z2] at hv
            cases hv
            have xq : Ext c3 ⟨c3.φ, c3.S.set n (.dK (dropA kvs q)), upd c3.H a (.dK (dropK kws q))⟩ := Ext.put rel3 hφ hS (by simp)
            exact h3 _ ⟨c3.φ, c3.S.set n (.dK (dropA kvs q)), upd c3.H a (.dK (dropK kws q))⟩ rfl xq (rel3.put (o' := .dK (dropA kvs q)) hφ hS (by simp) ⟨_, upd_same, (t.drop q).map (Rp.mono xq)⟩) (Rp.mono xq _ _ z3)
        · rename_i hx
          rcases t.look q with ⟨z1, z2⟩ | ⟨x', u', z1, z2, z3⟩
          · exact ⟨kws, q, hH, ew, (fun v' hv => by rw [z2] at hv; cases hv), fun _ => h3.here rel3 rz⟩
          · rw [z1] at hx; cases hx
      · exact h3.elim
    · exact h3.elim
  · exact h1.elim

/-! ### sorted, upper, str -/

def leS (a b : Str) : Bool := decide (a.cps.toList ≤ b.cps.toList)
theorem str_ext {a b : Str} (h : a.cps.toList = b.cps.toList) : a = b := by
  obtain ⟨x⟩ := a
  obtain ⟨y⟩ := b
  exact congrArg Str.mk (Array.ext' h)
theorem rising_pw : ∀ (l : List Str) (p : Str), risingS p l = true → (p :: l).Pairwise fun a b => leS a b = true
  | [], p, _ => List.pairwise_singleton _ _
  | x :: l, p, h => by
    unfold risingS at h
    rw [Bool.and_eq_true] at h
    obtain ⟨h1, h2⟩ := h
    have ih := rising_pw l x h2
    have px : p.cps.toList ≤ x.cps.toList := by
      rw [ltCps_eq] at h1
      exact List.not_lt.mp (by simpa using h1)
    refine List.pairwise_cons.mpr ⟨fun y hy => ?_, ih⟩
    rcases List.mem_cons.mp hy with e | hy
    · rw [e]; exact decide_eq_true px
    · exact decide_eq_true (List.le_trans px (of_decide_eq_true ((List.pairwise_cons.mp ih).1 y hy)))
theorem sortedS_pw {l : List Str} (h : sortedS l = true) : l.Pairwise fun a b => leS a b = true := by
  cases l with
  | nil => exact .nil
  | cons x l => exact rising_pw l x h
def sortS (l : List Str) : List Str := l.mergeSort leS
theorem sortS_pw (l : List Str) : (sortS l).Pairwise fun a b => leS a b = true :=
  List.pairwise_mergeSort (le := leS) (fun a b c h1 h2 => decide_eq_true (List.le_trans (of_decide_eq_true h1) (of_decide_eq_true h2))) (fun a b => by
    rcases List.le_total a.cps.toList b.cps.toList with h | h
    · rw [show leS a b = true from decide_eq_true h]; rfl
    · rw [show leS b a = true from decide_eq_true h]; exact Bool.or_true _) l
theorem sortS_eq {l ys : List Str} (hp : ys.Perm l) (h : sortedS ys = true) : ys = sortS l :=
  List.Perm.eq_of_pairwise (fun a b _ _ h1 h2 => str_ext (List.le_antisymm (of_decide_eq_true h1) (of_decide_eq_true h2))) (sortedS_pw h) (sortS_pw l) (hp.trans (List.mergeSort_perm _ _).symm)
def sortI (l : List Int) : List Int := l.mergeSort fun a b => decide (a ≤ b)
theorem sortI_pw (l : List Int) : (sortI l).Pairwise fun a b => a ≤ b := by
  have := List.pairwise_mergeSort (le := fun a b : Int => decide (a ≤ b)) (fun a b c h1 h2 => decide_eq_true (Int.le_trans (of_decide_eq_true h1) (of_decide_eq_true h2))) (fun a b => by
    rcases Int.le_total a b with h | h
    · simp [h]
    · simp [h]) l
  exact this.imp fun h => of_decide_eq_true h
theorem sortI_eq {l ys : List Int} (hp : ys.Perm l) (h : ys.Pairwise (· ≤ ·)) : ys = sortI l :=
  List.Perm.eq_of_pairwise (fun a b _ _ h1 h2 => Int.le_antisymm h1 h2) h (sortI_pw l) (hp.trans (List.mergeSort_perm _ _).symm)
def intsOf : List D → Option (List Int)
  | [] => some []
  | .int x :: r => (intsOf r).map (x :: ·)
  | _ :: _ => none
theorem intsOf_rep {G : Gam} {c : Cfg} : ∀ {xs : List D} {vs : List V} {bs : List Int}, RpA G c xs vs → intsOf xs = some bs → vs = bs.map V.int
  | [], _, _, r, e => by
    cases r
    cases e
    rfl
  | .int b :: xs, _, bs, ⟨v, r, e1, h, t⟩, e => by
    subst e1
    replace e : (intsOf xs).map (b :: ·) = some bs := e
    obtain ⟨bs', e2, e3⟩ := Option.map_eq_some_iff.mp e
    subst e3
    rw [intsOf_rep t e2, show v = .int b from h]
    rfl
  | .non :: _, _, _, _, e => by cases e
  | .bl _ :: _, _, _, _, e => by cases e
  | .str _ :: _, _, _, _, e => by cases e
  | .tup _ :: _, _, _, _, e => by cases e
  | .lst _ :: _, _, _, _, e => by cases e
  | .loc _ :: _, _, _, _, e => by cases e
  | .ty _ :: _, _, _, _, e => by cases e
  | .scr _ :: _, _, _, _, e => by cases e
  | .dct _ _ :: _, _, _, _, e => by cases e
  | .cod _ :: _, _, _, _, e => by cases e
def keyStrs : List (Key × D) → Option (List Str)
  | [] => some []
  | (.inr x, _) :: r => (keyStrs r).map (x :: ·)
  | _ :: _ => none
theorem keyStrs_rep {G : Gam} {c : Cfg} : ∀ {kvs : List (Key × D)} {kws : List (Key × V)} {ks : List Str}, RpK G c kvs kws → keyStrs kvs = some ks → kws.map (·.1) = ks.map Sum.inr
  | [], _, _, r, e => by
    cases r
    cases e
    rfl
  | (.inr x, d) :: kvs, _, ks, r, e => by
    cases r with
    | @cons p q ps qs h t =>
      replace e : (keyStrs kvs).map (x :: ·) = some ks := e
      obtain ⟨bs', e2, e3⟩ := Option.map_eq_some_iff.mp e
      subst e3
      rw [List.map_cons, keyStrs_rep t e2, ← h.1]
      rfl
  | (.inl x, d) :: kvs, _, _, _, e => by cases e
def okStr (z : Str) : Bool := PySem.PyData.strOk z && decide (z.length ≤ 1000000)
theorem rp_strs {G : Gam} {c : Cfg} {ys : List Str} (h : ∀ y ∈ ys, PySem.PyData.strOk y = true ∧ y.length ≤ sizeLine) : RpA G c (ys.map D.str) (ys.map V.str) := by
  induction ys with
  | nil => exact RpA.nil
  | cons y ys ih => exact RpA.cons ⟨rfl, (h y List.mem_cons_self).1, (h y List.mem_cons_self).2⟩ (ih fun z hz => h z (List.mem_cons_of_mem _ hz))
theorem rp_ints {G : Gam} {c : Cfg} {ys : List Int} : RpA G c (ys.map D.int) (ys.map V.int) := by
  induction ys with
  | nil => exact RpA.nil
  | cons y ys ih => exact RpA.cons rfl ih
/-- what sorted tells of a list, of a dict by texts -/
def sortC (d : D) (S : Store) : Option (List D) := match lsOf S d with
  | some xs => match intsOf xs with
    | some is => some ((sortI is).map D.int)
    | none => match strsOf xs with
      | some ss => if ss.length < 64 then some ((sortS ss).map D.str) else none
      | none => none
  | none => match d with
    | .loc n => match S[n]? with
      | some (.dK kvs) => match keyStrs kvs with
        | some ss => if ss.length < 64 ∧ ss.all okStr = true then some ((sortS ss).map D.str) else none
        | none => none
      | _ => none
    | _ => none
def sortedV (ds : List D) (S : Store) : R D := match ds with
  | [d] => match sortC d S with
    | some ys => .ok (.lst ys) S
    | none => .no
  | _ => .no
def sortedM (ds : List D) (S : Store) : R D := match ds with
  | [d] => match sortC d S with
    | some ys => .ok (.loc S.length) (S ++ [.lst ys])
    | none => .no
  | _ => .no
def rSortD : List V → Hp → VK → Prop := fun xs H Q => ∃ (a : Addr) (kvs : List (Key × V)) (ks : List Str), xs = [.ref a] ∧ Rd H a (.dK kvs) ∧ kvs.map (·.1) = ks.map Sum.inr ∧ ks.length < 64 ∧
    ∀ ys p, ys.Perm ks → sortedS ys = true → H p = none → Q (.ref p) (upd H p (.lst (ys.map V.str)))
def rSortU (K : PySem.W.Frag) : List V → Hp → VK → Prop := fun vs H Q => rSortedI K vs H Q ∨ rSortedS K vs H Q ∨ rSortD vs H Q
theorem call_sortedU (hc : X.calm = true) : CallR X (.builtin "sorted") (rSortU X.K) := cr_sortedI.or (cr_sortedS.or (call_sortedD hc))
theorem sortC_s {K : PySem.W.Frag} {A : Addr → Prop} {c : Cfg} {d : D} {v : V} {Q : VK} {ys : List D} (rel : RelC ⟨K, cm, A⟩ c) (r : Rp ⟨K, cm, A⟩ c d v) (e : sortC d c.S = some ys)
    (h : ∀ ws p, RpA ⟨K, cm, A⟩ c ys ws → c.H p = none → Q (.ref p) (upd c.H p (.lst ws))) : rSortU K [v] c.H Q := by
  have perm : ∀ {ss zs : List Str}, zs.Perm ss → (∀ y ∈ ss, PySem.PyData.strOk y = true ∧ y.length ≤ sizeLine) → ∀ y ∈ zs, PySem.PyData.strOk y = true ∧ y.length ≤ sizeLine := fun p g y hy => g y (p.mem_iff.mp hy)
  unfold sortC at e
  split at e
  · rename_i xs hx
    obtain ⟨a, ws, e1, hs, t⟩ := lsOf_rep rel r hx
    split at e
    · rename_i is hi
      cases e
      refine .inl ⟨a, is, by rw [e1], by rw [← intsOf_rep t hi]; exact hs, fun zs p hp pw fresh => ?_⟩
      rw [sortI_eq hp pw]
      exact h _ p rp_ints fresh
    · split at e
      · rename_i ss hss
        split at e
        · rename_i hl
          cases e
          obtain ⟨g1, g2⟩ := strsOf_rep t hss
          refine .inr (.inl ⟨a, ss, by rw [e1], by rw [← g1]; exact hs, hl, fun zs p hp pw fresh => ?_⟩)
          have := perm hp g2
          rw [sortS_eq hp pw] at this ⊢
          exact h _ p (rp_strs this) fresh
        · cases e
      · cases e
  · split at e
    · rename_i n _
      split at e
      · rename_i kvs hk
        split at e
        · rename_i ss hss
          split at e
          · rename_i hl
            cases e
            obtain ⟨a, e1, _, kws, hH, t⟩ := Rp.obj rel r hk
            refine .inr (.inr ⟨a, kws, ss, by rw [e1], .inl hH, keyStrs_rep t hss, hl.1, fun zs p hp pw fresh => ?_⟩)
            have g2 : ∀ y ∈ ss, PySem.PyData.strOk y = true ∧ y.length ≤ sizeLine := fun y hy => by
              have := List.all_eq_true.mp hl.2 y hy
              unfold okStr at this
              rw [Bool.and_eq_true] at this
              exact ⟨this.1, Nat.le_trans (of_decide_eq_true this.2) million⟩
            have := perm hp g2
            rw [sortS_eq hp pw] at this ⊢
            exact h _ p (rp_strs this) fresh
          · cases e
        · cases e
      · cases e
    · cases e
theorem sortedV_s : CallS K cm (rSortU K) sortedV := fun A c ds vs Q rel rd h => by
  unfold sortedV at h
  split at h
  · split at h
    · rename_i ys hy
      obtain ⟨v, e, r⟩ := RpA.one rd
      rw [e]
      exact sortC_s rel r hy fun ws p t fresh => h.newL rel t p fresh
    · exact h.elim
  · exact h.elim
theorem sortedM_s : CallS K cm (rSortU K) sortedM := fun A c ds vs Q rel rd h => by
  unfold sortedM at h
  split at h
  · split at h
    · rename_i ys hy
      obtain ⟨v, e, r⟩ := RpA.one rd
      rw [e]
      exact sortC_s rel r hy fun ws p t fresh => h.newM rel t p fresh
    · exact h.elim
  · exact h.elim
theorem sortedV_n : NoErrA sortedV := fun ds S => by unfold sortedV; split <;> (try split) <;> exact True.intro
theorem sortedM_n : NoErrA sortedM := fun ds S => by unfold sortedM; split <;> (try split) <;> exact True.intro
/-- str(int), str(text) -/
def strV (ds : List D) (S : Store) : R D := match ds with
  | [.int i] => if i.natAbs.log2 < 1920 ∧ okStr (toString i : String) = true then .ok (.str (toString i : String)) S else .no
  | [.str z] => .ok (.str z) S
  | _ => .no
theorem strV_s : CallS K cm (fun xs H Q => (∃ i, xs = [.int i] ∧ i.natAbs.log2 < 1920 ∧ Q (.str (toString i : String)) H) ∨ ∃ a, xs = [.str a] ∧ Q (.str a) H) strV := fun A c ds vs Q rel rd h => by
  unfold strV at h
  split at h
  · rename_i i
    split at h
    · rename_i hl
      obtain ⟨v, e, r⟩ := RpA.one rd
      have g := hl.2
      unfold okStr at g
      rw [Bool.and_eq_true] at g
      exact .inl ⟨i, by rw [e, show v = .int i from r], hl.1, h.here rel ⟨rfl, g.1, Nat.le_trans (of_decide_eq_true g.2) million⟩⟩
    · exact h.elim
  · obtain ⟨v, e, r⟩ := RpA.one rd
    exact .inr ⟨_, by rw [e, r.1], h.here rel ⟨rfl, r.2⟩⟩
  · exact h.elim
theorem strV_n : NoErrA strV := fun ds S => by unfold strV; split <;> (try split) <;> exact True.intro
theorem call_strU : CallR X (.type "str") (fun xs H Q => (∃ i, xs = [.int i] ∧ i.natAbs.log2 < 1920 ∧ Q (.str (toString i : String)) H) ∨ ∃ a, xs = [.str a] ∧ Q (.str a) H) := call_str_int.or SkE.call_str_str
def upperV (x : D) (ds : List D) (S : Store) : R D := match x, ds with
  | .str z, [] => if z.length ≤ 5592405 ∧ okStr (Txt.upper z) = true then .ok (.str (Txt.upper z)) S else .no
  | _, _ => .no
theorem upperV_s : MtS K cm (fun x xs H Q => ∃ a, x = .str a ∧ xs = [] ∧ a.length ≤ 5592405 ∧ Q (.str (Txt.upper a)) H) upperV := fun A c x v ds vs Q rel rx rd h => by
  unfold upperV at h
  split at h
  · rename_i z
    split at h
    · rename_i hl
      have g := hl.2
      unfold okStr at g
      rw [Bool.and_eq_true] at g
      exact ⟨z, rx.1, rd, hl.1, h.here rel ⟨rfl, g.1, Nat.le_trans (of_decide_eq_true g.2) million⟩⟩
    · exact h.elim
  · exact h.elim
theorem upperV_n : NoErrM upperV := fun x ds S => by unfold upperV; split <;> (try split) <;> exact True.intro
/-- join, split -/
def joinV (x : D) (ds : List D) (S : Store) : R D := match x, ds with
  | .str a, [d] => match sqOf S d with
    | some xs => match strsOf xs with
      | some ys => if (ys.map (·.length)).sum + ys.length * a.length ≤ 1000000 ∧ okStr (Txt.join a ys) = true then .ok (.str (Txt.join a ys)) S else .no
      | none => .no
    | none => .no
  | _, _ => .no
theorem joinV_s : MtS K cm (fun x xs H Q => ∃ a p, ∃ ys : List Str, x = .str a ∧ xs = [.ref p] ∧ (SqL K H p (ys.map V.str) ∨ SqT K H p (ys.map V.str)) ∧ (ys.map (·.length)).sum + ys.length * a.length ≤ 16777216 ∧ Q (.str (Txt.join a ys)) H) joinV := fun A c x v ds vs Q rel rx rd h => by
  unfold joinV at h
  split at h
  · rename_i a d
    split at h
    · rename_i xs hx
      split at h
      · rename_i ys hy
        split at h
        · rename_i hl
          have g := hl.2
          unfold okStr at g
          rw [Bool.and_eq_true] at g
          obtain ⟨u, e, r⟩ := RpA.one rd
          obtain ⟨p, ws, e1, hs, t⟩ := sqOf_rep rel r hx
          obtain ⟨g1, _⟩ := strsOf_rep t hy
          exact ⟨a, p, ys, rx.1, by rw [e, e1], by rw [← g1]; exact hs, Nat.le_trans hl.1 (by decide), h.here rel ⟨rfl, g.1, Nat.le_trans (of_decide_eq_true g.2) million⟩⟩
        · exact h.elim
      · exact h.elim
    · exact h.elim
  · exact h.elim
theorem joinV_n : NoErrM joinV := fun x ds S => by unfold joinV; split <;> (try split) <;> (try split) <;> (try split) <;> exact True.intro
def splitV (x : D) (ds : List D) (S : Store) : R D := match x, ds with
  | .str a, [.str b] => if (b.length == 0) = false ∧ a.length + 2 ≤ 1000000 ∧ (Txt.split a b).all okStr = true then .ok (.lst ((Txt.split a b).map D.str)) S else .no
  | _, _ => .no
theorem splitV_s : MtS K cm (fun x xs H Q => ∃ a b, x = .str a ∧ xs = [.str b] ∧ (b.length == 0) = false ∧ a.length + 2 ≤ sizeLine ∧ rNewStrs (Txt.split a b) H Q) splitV := fun A c x v ds vs Q rel rx rd h => by
  unfold splitV at h
  split at h
  · rename_i a b
    split at h
    · rename_i hl
      obtain ⟨u, e, r⟩ := RpA.one rd
      refine ⟨a, b, rx.1, by rw [e, r.1], hl.1, Nat.le_trans hl.2.1 million, fun p fresh => ?_⟩
      exact h.newL rel (rp_strs fun y hy => by
        have g := List.all_eq_true.mp hl.2.2 y hy
        unfold okStr at g
        rw [Bool.and_eq_true] at g
        exact ⟨g.1, Nat.le_trans (of_decide_eq_true g.2) million⟩) p fresh
    · exact h.elim
  · exact h.elim
theorem splitV_n : NoErrM splitV := fun x ds S => by unfold splitV; split <;> (try split) <;> exact True.intro

/-! ### sorted of data, of a list or a tuple (own work; collect of a tuple stands beside the kit's of a list) -/
section
variable {prog : Program} {w : World} {A : Around} {E : Value → Shared → Prop} {s : Shared}
theorem collect_tup {l : Addr} {o : Obj} {n : Nat} {vs : List Value} {Q : List Value → Shared → Prop} (ho : s.heap.get? l = some o) (hc : o.cls = .type "tuple") (hd : o.data = .seq vs.toArray n)
    (h : Q vs { s with heap := (s.heap.push (seqObj "list" #[] 0)).update s.heap.objs.size (Obj.mapSeq (· ++ vs.toArray)) }) (hz : vs.length ≤ sizeLine) :
    wpAny (model prog w) A (collect (.ref l)) Q E s := by
  unfold collect
  refine wpAny_bind (wpAny_runValue (codeAny_builtin entry_proto_collect' ?_))
  show wpAny _ _ (do
    again (.builtin "list.__iadd__" ⟨[← newList [], .ref l], []⟩)) _ _ s
  refine wpAny_bind (wpAny_newList (wpAny_pure ⟨Code.quiet_builtin _ (by decide +kernel), codeAny_builtin entry_list_iadd' ?_⟩))
  show wpAny _ _ (Builtin.List.listExtendWith (.ref s.heap.objs.size) (.ref l) (.ref s.heap.objs.size)) _ _ { s with heap := s.heap.push (seqObj "list" #[] 0) }
  unfold Builtin.List.listExtendWith
  have hp : (s.heap.push (seqObj "list" #[] 0)).get? l = some o := Heap.get?_push_of_some _ ho
  refine wpAny_bind (wpAny_typeOf (T := "tuple") ⟨o, hp, hc⟩ ?_)
  have ht : (Value.type "tuple" == Value.type "tuple") = true := by rfl
  rw [if_pos (by rw [ht]; simp)]
  refine wpAny_bind (listItems_at hp hd ?_)
  refine wpAny_bind (listItems_at (xs := #[]) (n := 0) (Heap.get?_push_size _ rfl) rfl ?_)
  rw [if_neg (by simp)]
  refine wpAny_bind (listUpdate_at (xs := #[]) (n := 0) (Heap.get?_push_size _ rfl) rfl ?_ (Nat.zero_le _) (by
    show (#[] ++ vs.toArray).size ≤ sizeLine + 1
    simp only [Array.size_append, List.size_toArray, List.length_nil]; omega))
  refine wpAny_pure ?_
  show wpAny (model prog w) A (do
      let o1 ← load s.heap.objs.size
      match o1.data with
      | .seq xs _ => pure xs.toList
      | _ => unsupported "internal:collect") Q E { s with heap := (s.heap.push (seqObj "list" #[] 0)).update s.heap.objs.size (Obj.mapSeq (· ++ vs.toArray)) }
  refine wpAny_bind (wpAny_load (get?_update_seq (Heap.get?_push_size _ rfl) _) ?_)
  show wpAny _ _ (pure ((#[] : Array Value) ++ vs.toArray).toList) Q E _
  rw [show ((#[] : Array Value) ++ vs.toArray).toList = vs by simp]
  exact wpAny_pure h
theorem sortedT_of {l : Addr} {o : Obj} {n : Nat} {vs : List Value} {Q : Value → Shared → Prop} (ho : s.heap.get? l = some o) (hc : o.cls = .type "tuple") (hd : o.data = .seq vs.toArray n) (hL : vs.length ≤ sizeLine)
    (body : ∀ E' : Value → Shared → Prop, wpAny (model prog w) A.in1.in1 (Builtin.«list.sort» ⟨[.ref (s.heap.objs.size + 1)], []⟩) (fun f s' => f = .done (.ret .none) ∧ Q (.ref (s.heap.objs.size + 1)) s') E' { s with heap := PySem.W.copyHeap s.heap vs }) :
    wpAny (model prog w) A (call (.builtin "sorted") [.ref l]) Q E s := by
  refine call_function_entry_kw kind_sorted plain_sorted entry_sorted (args_sorted1 _) ?_
  unfold Builtin.«sorted»
  refine wpAny_bind (m := checkCount "sorted" 1 1 _) (wpAny_pure ?_)
  refine wpAny_bind (collect_tup ho hc hd ?_ hL)
  refine wpAny_bind (wpAny_newList ?_ hL)
  have hz : ((s.heap.push (seqObj "list" #[] 0)).update s.heap.objs.size (Obj.mapSeq (· ++ vs.toArray))).objs.size = s.heap.objs.size + 1 := by
    rw [Heap.size_update, size_push']
  show wpAny _ _ _ _ _ { s with heap := PySem.W.copyHeap s.heap vs }
  rw [hz]
  refine wpAny_bind (wpAny_holding (wpAny_call_entry_kw slot_list_sort ⟨_, PySem.W.copyHeap_at s.heap vs, rfl⟩ entry_list_sort ?b1 (args_list_sort _)))
  case b1 =>
    show wpAny (model prog w) A.in1.in1 (Builtin.«list.sort» ⟨[.ref (s.heap.objs.size + 1)], []⟩) _ _ _
    refine wpAny_mono (body _) (fun f u hf => ?_) fun _ _ e => e
    obtain ⟨rfl, hq⟩ := hf
    exact ⟨_, rfl, wpAny_pure ⟨_, rfl, hq⟩⟩
theorem sorted_dataT {l : Addr} {o : Obj} {n : Nat} {vs : List Value} {β : Type} {bs : List β} {enc : β → PyData} {R : Value → β → Prop} {Q : Value → Shared → Prop} (ho : s.heap.get? l = some o) (hc : o.cls = .type "tuple") (hd : o.data = .seq vs.toArray n)
    (e : PySem.W.EachIs R vs bs) (er : PySem.W.EachIs (fun v b => ∃ as, Reads s.heap v (enc b) as) vs bs) (hal : PySem.W.AllAlike (bs.map enc)) (hk : PySem.W.Sortable (bs.map enc)) (hL : bs.length ≤ sizeLine)
    (hu : ∀ b, b ∈ bs → A.units + 2 + (enc b).depth < cLine) (h : ∀ out, out.length = bs.length → PySem.W.EachIs R out (bs.mergeSort (PySem.W.dataLe false enc)) → Q (.ref (s.heap.objs.size + 1)) { s with heap := sortedAll s.heap vs (List.toArray out) }) :
    wpAny (model prog w) A (call (.builtin "sorted") [.ref l]) Q E s := by
  have er' : PySem.W.EachIs (fun v b => ∃ as, Reads (PySem.W.sortingHeap (PySem.W.copyHeap s.heap vs) (s.heap.objs.size + 1) vs) v (enc b) as) vs bs := er.mono fun _ _ ⟨as, r⟩ => ⟨as, PyProof.Rows.Reads.keeps (fun _ _ => PySem.W.sorting_copy_old) r⟩
  have lz : vs.length ≤ sizeLine := by rw [e.length]; exact hL
  refine sortedT_of ho hc hd lz fun _ => PySem.W.list_sort_vals (s := { s with heap := PySem.W.copyHeap s.heap vs }) (PySem.W.copyHeap_at s.heap vs)
    (PySem.W.SortsAt.data (s := { s with heap := PySem.W.sortingHeap (PySem.W.copyHeap s.heap vs) (s.heap.objs.size + 1) vs }) (PySem.W.each_map (R := fun v d => ∃ as, Reads (PySem.W.sortingHeap (PySem.W.copyHeap s.heap vs) (s.heap.objs.size + 1) vs) v d as) enc er') hal hk (PySem.W.bound_map hu)) lz
    ⟨rfl, h _ (by rw [PySem.W.sortVals_length false rfl]; exact e.length) (PySem.W.sortVals_data false e er' hal)⟩
end
/-- what sorted tells of data -/
def ordV (xs : List V) (ds : List PyData) : List V := ((xs.zip ds).mergeSort (PySem.W.dataLe false Prod.snd)).map Prod.fst
def rSortDat (K : PySem.W.Frag) : List V → Hp → VK → Prop := fun vs H Q => ∃ (a : Addr) (xs : List V) (ds : List PyData), vs = [.ref a] ∧ (SqL K H a xs ∨ SqT K H a xs) ∧ Paired (Dp K H) xs ds ∧ PySem.W.AllAlike ds ∧ PySem.W.Sortable ds ∧ (∀ d ∈ ds, d.depth ≤ 60) ∧
  ∀ p, H p = none → Q (.ref p) (upd H p (.lst (ordV xs ds)))
theorem each_vals : ∀ {out : List Value} {bs : List (V × PyData)}, PySem.W.EachIs (fun v b => RelV b.1 v) out bs → Vals (bs.map Prod.fst) out
  | [], [], _ => .nil
  | _ :: _, _ :: _, .cons r t => .cons r (each_vals t)
theorem vals_each {X : Cx} {pins : List (Addr × Obj)} {σ : L2.St} {H : Hp} {s : Shared} (I : Inv X pins σ H s) : ∀ {xs : List V} {ds : List PyData} {its : List Value}, Paired (Dp X.K H) xs ds → Vals xs its → PySem.W.EachIs (fun v (b : V × PyData) => RelV b.1 v) its (xs.zip ds) ∧ PySem.W.EachIs (fun v (b : V × PyData) => ∃ as, Reads s.heap v b.2 as) its (xs.zip ds) ∧ (xs.zip ds).map Prod.snd = ds ∧ (xs.zip ds).length = xs.length
  | [], [], [], _, _ => ⟨.nil, .nil, rfl, rfl⟩
  | x :: xs, d :: ds, v :: its, .cons h t, .cons r u => by
    obtain ⟨a, b, c, l⟩ := vals_each I t u
    exact ⟨.cons r a, .cons (Dp.reads I d x v h r) b, by rw [List.zip_cons_cons, List.map_cons, c], by rw [List.zip_cons_cons, List.length_cons, List.length_cons, l]⟩
section
variable {X : Cx}
theorem call_sortedDat (hu : X.A.units + 64 < cLine) : CallR X (.builtin "sorted") (rSortDat X.K) := by
  intro pins s σ H vs us Q I r h
  obtain ⟨a, xs, ds, rfl, hs, hp, hal, hk, hdep, q⟩ := h
  obtain ⟨u, rfl, ru⟩ := vals1 r
  obtain rfl : u = Value.ref a := ru
  rcases hs with hs | hs
  · obtain ⟨its, rv, hl, hz⟩ := I.list hs
    obtain ⟨e, er, e2, el⟩ := vals_each I hp rv
    refine PySem.W.sorted_data (R := fun v b => RelV b.1 v) (enc := Prod.snd) hl.isList e er (by rw [e2]; exact hal) (by rw [e2]; exact hk) (by rw [el]; exact hz) (fun b hb => ?_) fun out hlen ho => ?_
    · have : b.2 ∈ ds := by rw [← e2]; exact List.mem_map.mpr ⟨b, hb, rfl⟩
      have := hdep _ this
      omega
    · obtain ⟨n, hn⟩ := sortedAll_at s.heap its out.toArray
      refine ⟨.ref (s.heap.objs.size + 1), upd H (s.heap.objs.size + 1) (.lst (ordV xs ds)), I.laid (t' := s.toks) (fun b o e => sortedAll_old e) (Nat.le_succ _) ⟨?_, out, n, each_vals ho, hn⟩, rfl, q _ (I.hok.fresh (Nat.le_succ _))⟩
      unfold ordV
      rw [List.length_map, List.length_mergeSort, el]
      exact hz
  · obtain ⟨its, rv, ⟨o, hob, hc, n, hd⟩, hz⟩ := I.tuple hs
    obtain ⟨e, er, e2, el⟩ := vals_each I hp rv
    refine sorted_dataT (R := fun v b => RelV b.1 v) (enc := Prod.snd) hob hc hd e er (by rw [e2]; exact hal) (by rw [e2]; exact hk) (by rw [el]; exact hz) (fun b hb => ?_) fun out hlen ho => ?_
    · have : b.2 ∈ ds := by rw [← e2]; exact List.mem_map.mpr ⟨b, hb, rfl⟩
      have := hdep _ this
      omega
    · obtain ⟨n, hn⟩ := sortedAll_at s.heap its out.toArray
      refine ⟨.ref (s.heap.objs.size + 1), upd H (s.heap.objs.size + 1) (.lst (ordV xs ds)), I.laid (t' := s.toks) (fun b o e => sortedAll_old e) (Nat.le_succ _) ⟨?_, out, n, each_vals ho, hn⟩, rfl, q _ (I.hok.fresh (Nat.le_succ _))⟩
      unfold ordV
      rw [List.length_map, List.length_mergeSort, el]
      exact hz
end
def ordD (xs : List D) (ds : List PyData) : List D := ((xs.zip ds).mergeSort (PySem.W.dataLe false Prod.snd)).map Prod.fst
theorem ord_rep {G : Gam} {c : Cfg} {xs : List D} {vs : List V} {ds : List PyData} (r : RpA G c xs vs) (hl : ds.length = vs.length) : RpA G c (ordD xs ds) (ordV vs ds) := by
  have tri : ∀ (xs : List D) (vs : List V) (ds : List PyData), RpA G c xs vs → ds.length = vs.length → ∃ L : List (D × V × PyData), L.map (fun t => (t.1, t.2.2)) = xs.zip ds ∧ L.map (fun t => t.2) = vs.zip ds ∧ ∀ t ∈ L, Rp G c t.1 t.2.1 := by
    intro xs
    induction xs with
    | nil =>
      intro vs ds r hl
      cases r
      exact ⟨[], by simp, by simp, fun _ h => absurd h (by simp)⟩
    | cons x xs ih =>
      rintro _ ds ⟨v, vs, rfl, h, t⟩ hl
      cases ds with
      | nil => simp at hl
      | cons d ds =>
        obtain ⟨L, h1, h2, h3⟩ := ih vs ds t (by simpa using hl)
        refine ⟨(x, v, d) :: L, by simp [h1], by simp [h2], fun z hz => ?_⟩
        rcases List.mem_cons.mp hz with e | hz
        · rw [e]; exact h
        · exact h3 z hz
  obtain ⟨L, h1, h2, h3⟩ := tri xs vs ds r hl
  have m1 : ordD xs ds = (L.mergeSort (PySem.W.dataLe false fun t => t.2.2)).map fun t => t.1 := by
    unfold ordD
    rw [← h1, ← List.map_mergeSort (f := fun t : D × V × PyData => (t.1, t.2.2)) (s := PySem.W.dataLe false Prod.snd) (r := PySem.W.dataLe false fun t : D × V × PyData => t.2.2) (fun a _ b _ => rfl), List.map_map]
    rfl
  have m2 : ordV vs ds = (L.mergeSort (PySem.W.dataLe false fun t => t.2.2)).map fun t => t.2.1 := by
    unfold ordV
    rw [← h2, ← List.map_mergeSort (f := fun t : D × V × PyData => t.2) (s := PySem.W.dataLe false Prod.snd) (r := PySem.W.dataLe false fun t : D × V × PyData => t.2.2) (fun a _ b _ => rfl), List.map_map]
    rfl
  rw [m1, m2]
  have h4 : ∀ t ∈ L.mergeSort (PySem.W.dataLe false fun t => t.2.2), Rp G c t.1 t.2.1 := fun t ht => h3 t ((List.mergeSort_perm _ _).mem_iff.mp ht)
  generalize L.mergeSort (PySem.W.dataLe false fun t => t.2.2) = M at h4
  induction M with
  | nil => exact RpA.nil
  | cons t M ih => exact RpA.cons (h4 t List.mem_cons_self) (ih fun z hz => h4 z (List.mem_cons_of_mem _ hz))
def isTN : PyData → Bool
  | .tuple (_ :: _) => true
  | _ => false
def isNT : PyData → Bool
  | .none => false
  | .tuple _ => false
  | _ => true
def srtOk (ds : List PyData) : Bool := (ds.all fun d => ds.all fun d' => PySem.W.alike d d') && ((ds.all isTN || ds.all isNT) && ds.all fun d => decide (d.depth ≤ 60))
theorem srtOk_is {ds : List PyData} (h : srtOk ds = true) : PySem.W.AllAlike ds ∧ PySem.W.Sortable ds ∧ ∀ d ∈ ds, d.depth ≤ 60 := by
  unfold srtOk at h
  rw [Bool.and_eq_true, Bool.and_eq_true, Bool.or_eq_true] at h
  obtain ⟨h1, h2, h3⟩ := h
  refine ⟨fun d hd d' hd' => List.all_eq_true.mp (List.all_eq_true.mp h1 d hd) d' hd', ?_, fun d hd => of_decide_eq_true (List.all_eq_true.mp h3 d hd)⟩
  rcases h2 with h2 | h2
  · refine .inl fun d hd => ?_
    have := List.all_eq_true.mp h2 d hd
    unfold isTN at this
    split at this
    · exact ⟨_, _, rfl⟩
    · cases this
  · refine .inr fun d hd => ?_
    have := List.all_eq_true.mp h2 d hd
    unfold isNT at this
    split at this
    · cases this
    · cases this
    · rename_i a b
      exact ⟨a, b⟩
def sortC2 (d : D) (S : Store) : Option (List D) := match sortC d S with
  | some ys => some ys
  | none => match sqOf S d with
    | some xs => match toPyA xs with
      | some ds => if srtOk ds = true then some (ordD xs ds) else none
      | none => none
    | none => none
def sortedW (ds : List D) (S : Store) : R D := match ds with
  | [d] => match sortC2 d S with
    | some ys => .ok (.lst ys) S
    | none => .no
  | _ => .no
def sortedX (ds : List D) (S : Store) : R D := match ds with
  | [d] => match sortC2 d S with
    | some ys => .ok (.loc S.length) (S ++ [.lst ys])
    | none => .no
  | _ => .no
def rSortW (K : PySem.W.Frag) : List V → Hp → VK → Prop := fun vs H Q => rSortU K vs H Q ∨ rSortDat K vs H Q
theorem call_sortedW (hc : X.calm = true) (hu : X.A.units + 64 < cLine) : CallR X (.builtin "sorted") (rSortW X.K) := (call_sortedU hc).or (call_sortedDat hu)
theorem dpAll_pair {K : PySem.W.Frag} {H : Hp} : ∀ {vs : List V} {ds : List PyData}, DpAll K H vs ds → Paired (Dp K H) vs ds
  | [], [], _ => .nil
  | _ :: _, _ :: _, .cons h t => .cons h (dpAll_pair t)
theorem sortC2_s {K : PySem.W.Frag} {A : Addr → Prop} {c : Cfg} {d : D} {v : V} {Q : VK} {ys : List D} (rel : RelC ⟨K, cm, A⟩ c) (r : Rp ⟨K, cm, A⟩ c d v) (e : sortC2 d c.S = some ys)
    (h : ∀ ws p, RpA ⟨K, cm, A⟩ c ys ws → c.H p = none → Q (.ref p) (upd c.H p (.lst ws))) : rSortW K [v] c.H Q := by
  unfold sortC2 at e
  split at e
  · rename_i zs hz
    cases e
    exact .inl (sortC_s rel r hz h)
  · split at e
    · rename_i xs hx
      split at e
      · rename_i ds hd
        split at e
        · rename_i ok
          cases e
          obtain ⟨a, vs, e1, hs, t⟩ := sqOf_rep rel r hx
          obtain ⟨dp, _⟩ := toPyA_rep xs vs ds t hd
          obtain ⟨g1, g2, g3⟩ := srtOk_is ok
          have pr := dpAll_pair dp
          exact .inr ⟨a, vs, ds, by rw [e1], hs, pr, g1, g2, g3, fun p fresh => h _ p (ord_rep t (Paired.length pr).symm) fresh⟩
        · cases e
      · cases e
    · cases e
theorem sortedW_s : CallS K cm (rSortW K) sortedW := fun A c ds vs Q rel rd h => by
  unfold sortedW at h
  split at h
  · split at h
    · rename_i ys hy
      obtain ⟨v, e, r⟩ := RpA.one rd
      rw [e]
      exact sortC2_s rel r hy fun ws p t fresh => h.newL rel t p fresh
    · exact h.elim
  · exact h.elim
theorem sortedX_s : CallS K cm (rSortW K) sortedX := fun A c ds vs Q rel rd h => by
  unfold sortedX at h
  split at h
  · split at h
    · rename_i ys hy
      obtain ⟨v, e, r⟩ := RpA.one rd
      rw [e]
      exact sortC2_s rel r hy fun ws p t fresh => h.newM rel t p fresh
    · exact h.elim
  · exact h.elim
theorem sortedW_n : NoErrA sortedW := fun ds S => by unfold sortedW; split <;> (try split) <;> exact True.intro
theorem sortedX_n : NoErrA sortedX := fun ds S => by unfold sortedX; split <;> (try split) <;> exact True.intro

/-! ### truths among ints: +, -, *, unary -, str -/
section
variable {X : Cx}
def b2 (p : Bool) : Int := if p = true then 1 else 0
def rB1 (C : Int → Int → Prop) (g : Int → Int → Int) : R2 := fun x y H Q => ∃ p j, x = .bl p ∧ y = .int j ∧ C (b2 p) j ∧ Q (.int (g (b2 p) j)) H
theorem op_addB : OpR X (binaryOp .Add) (rB1 (fun _ _ => True) fun i j => i + j) := by
  intro pins s σ H x y v u Q I rx ry h
  obtain ⟨p, j, rfl, rfl, _, q⟩ := h
  cases rx
  obtain ⟨t, rfl⟩ := ry
  exact PySem.IntBool.add_bool_int ⟨.int _, H, I.tok _, ⟨_, rfl⟩, q⟩
theorem op_subB : OpR X (binaryOp .Sub) (rB1 (fun _ _ => True) fun i j => i - j) := by
  intro pins s σ H x y v u Q I rx ry h
  obtain ⟨p, j, rfl, rfl, _, q⟩ := h
  cases rx
  obtain ⟨t, rfl⟩ := ry
  exact PySem.IntBool.sub_bool_int ⟨.int _, H, I.tok _, ⟨_, rfl⟩, q⟩
theorem op_mulB : OpR X (binaryOp .Mult) (rB1 (fun _ _ => True) fun i j => i * j) := by
  intro pins s σ H x y v u Q I rx ry h
  obtain ⟨p, j, rfl, rfl, _, q⟩ := h
  cases rx
  obtain ⟨t, rfl⟩ := ry
  exact PySem.IntBool.mul_bool_int ⟨.int _, H, I.tok _, ⟨_, rfl⟩, q⟩
theorem neg_bool {prog : Program} {w : World} {A : Around} {E : Value → Shared → Prop} {s : Shared} {p : Bool} {Q : Value → Shared → Prop} (h : Q (.int (-(b2 p)) s.toks) { s with toks := s.toks + 1 }) : wpAny (model prog w) A (unaryOp .USub (.bool p)) Q E s := by
  unfold unaryOp
  refine wpAny_holding ?_
  refine wpAny_bind (m := callSpecial? (.bool p) (Str.ofString "__neg__")) (wpAny_callSpecial?_slot (name := Str.ofString "__neg__") (typeIs_bool' s p) F.slot_bool_neg
    (wpAny_call_entry F.slot_bool_neg (typeIs_bool' s p) entry_int_neg ?_ (args_int_neg _)))
  show wpAny _ _ (do ret (← mkInt (-(b2 p)))) _ _ s
  exact wpAny_ret_mkInt (wpAny_pure h)
theorem un_negB : UnR X (unaryOp .USub) (fun x H Q => rU (fun i => .int (-i)) x H Q ∨ ∃ p, x = .bl p ∧ Q (.int (-(b2 p))) H) := by
  intro pins s σ H x v Q I rx h
  rcases h with h | ⟨p, rfl, q⟩
  · exact un_neg pins s σ H x v Q I rx h
  · cases rx
    exact neg_bool ⟨.int _, H, I.tok _, ⟨_, rfl⟩, q⟩
theorem call_str_bool : CallR X (.type "str") (fun xs H Q => ∃ p, xs = [.bl p] ∧ Q (.str (if p then "True" else "False")) H) := by
  intro pins s σ H xs us Q I r h
  obtain ⟨p, rfl, q⟩ := h
  obtain ⟨u, rfl, r1⟩ := vals1 r
  cases r1
  exact PySem.P.str_of_bool ⟨.str _, H, I.tok _, ⟨_, rfl⟩, q⟩
end
def addB (x y : D) (S : Store) : R D := match x, y with
  | .bl p, .int j => .ok (.int (b2 p + j)) S
  | _, _ => addV x y S
def subB (x y : D) (S : Store) : R D := match x, y with
  | .bl p, .int j => .ok (.int (b2 p - j)) S
  | _, _ => subV x y S
def mulB (x y : D) (S : Store) : R D := match x, y with
  | .bl p, .int j => .ok (.int (b2 p * j)) S
  | _, _ => mulV x y S
def negB (x : D) (S : Store) : R D := match x with
  | .bl p => .ok (.int (-(b2 p))) S
  | _ => negV x S
def strB (ds : List D) (S : Store) : R D := match ds with
  | [.bl p] => .ok (.str (if p then "True" else "False")) S
  | _ => strV ds S
theorem opB_s {f fB : D → D → Store → R D} {r : R2} {g : Int → Int → Int} (h : OpS K cm r f) (e : ∀ x y S, fB x y S = match x, y with
  | .bl p, .int j => .ok (.int (g (b2 p) j)) S
  | _, _ => f x y S) : OpS K cm (fun x y H Q => r x y H Q ∨ rB1 (fun _ _ => True) g x y H Q) fB := fun A c x y v w Q rel rx ry z => by
  rw [e] at z
  split at z
  · exact .inr ⟨_, _, rx, ry, True.intro, z.here rel rfl⟩
  · exact .inl (h A c x y v w Q rel rx ry z)
theorem opB_n {f fB : D → D → Store → R D} {g : Int → Int → Int} (h : NoErr f) (e : ∀ x y S, fB x y S = match x, y with
  | .bl p, .int j => .ok (.int (g (b2 p) j)) S
  | _, _ => f x y S) : NoErr fB := fun x y S => by
  rw [e]
  split
  · exact True.intro
  · exact h x y S
theorem de_addB (ha : DE X cm E a da) (hb : DE X cm E b db) : DE X cm E (.BinOp a .Add b pos) (dOp addB da db) := de_op (op_addU.or op_addB) (opB_s addV_s fun _ _ _ => by rfl) (opB_n (g := fun i j => i + j) addV_n fun _ _ _ => by rfl) ha hb
theorem de_subB (ha : DE X cm E a da) (hb : DE X cm E b db) : DE X cm E (.BinOp a .Sub b pos) (dOp subB da db) := de_op (op_sub.or op_subB) (opB_s subV_s fun _ _ _ => by rfl) (opB_n (g := fun i j => i - j) subV_n fun _ _ _ => by rfl) ha hb
theorem de_mulB (ha : DE X cm E a da) (hb : DE X cm E b db) : DE X cm E (.BinOp a .Mult b pos) (dOp mulB da db) := de_op (op_mul.or op_mulB) (opB_s mulV_s fun _ _ _ => by rfl) (opB_n (g := fun i j => i * j) mulV_n fun _ _ _ => by rfl) ha hb
theorem de_negB (ha : DE X cm E a da) : DE X cm E (.UnaryOp .USub a pos) (dUn negB da) := de_un un_negB (fun A c x v Q rel rx h => by
  unfold negB at h
  split at h
  · exact .inr ⟨_, rx, h.here rel rfl⟩
  · unfold negV at h
    split at h
    · exact .inl ⟨_, rx, h.here rel rfl⟩
    · exact h.elim) (fun x S => by
  unfold negB
  split
  · exact True.intro
  · unfold negV; split <;> exact True.intro) ha
def rStrB : List V → Hp → VK → Prop := fun xs H Q => ((∃ i, xs = [.int i] ∧ i.natAbs.log2 < 1920 ∧ Q (.str (toString i : String)) H) ∨ ∃ a, xs = [.str a] ∧ Q (.str a) H) ∨ ∃ p, xs = [.bl p] ∧ Q (.str (if p then "True" else "False")) H
theorem call_strB : CallR X (.type "str") rStrB := call_strU.or call_str_bool
theorem strB_s : CallS K cm rStrB strB := fun A c ds vs Q rel rd h => by
  unfold strB at h
  split at h
  · obtain ⟨v, e, r⟩ := RpA.one rd
    rename_i p
    exact .inr ⟨p, by rw [e, show v = .bl p from r], h.here rel ⟨rfl, by cases p <;> decide +kernel, by cases p <;> decide +kernel⟩⟩
  · exact .inl (strV_s A c ds vs Q rel rd h)
theorem strB_n : NoErrA strB := fun ds S => by
  unfold strB
  split
  · exact True.intro
  · exact strV_n ds S
/-! ### lists of unlike lengths are unlike, whatever they hold -/
def rNeLen (K : PySem.W.Frag) : R2 := fun x y H Q => ∃ a b vs ws, x = .ref a ∧ y = .ref b ∧ SqL K H a vs ∧ SqL K H b ws ∧ vs.length ≠ ws.length ∧ Q (.bl true) H
theorem op_neLen {X : Cx} (hu : X.A.units < cLine) : OpR X (compareOp .NotEq) (rNeLen X.K) := by
  intro pins s σ H x y v u Q I rx ry h
  obtain ⟨a, b, vs, ws, rfl, rfl, hs, hs', ne, q⟩ := h
  obtain rfl : v = Value.ref a := rx
  obtain rfl : u = Value.ref b := ry
  obtain ⟨its, rv, hl, hz⟩ := I.list hs
  obtain ⟨its', rv', hl', hz'⟩ := I.list hs'
  have l1 := rv.length
  have l2 := rv'.length
  exact PySem.SeqAt.RcNeAt.lists_lengths hl.isList hl'.isList (by simp only [bne_iff_ne, List.size_toArray]; omega) hu _ _ _ _ ⟨.bl true, H, I, rfl, q⟩
def neL (x y : D) (S : Store) : R D := match lsOf S x, lsOf S y with
  | some xs, some ys => if xs.length = ys.length then neV x y S else .ok (.bl true) S
  | _, _ => neV x y S
def rNeL (K : PySem.W.Frag) : R2 := fun x y H Q => rEqM K not x y H Q ∨ rNeLen K x y H Q
theorem op_neL {X : Cx} (hu : X.A.units + 64 < cLine) : OpR X (compareOp .NotEq) (rNeL X.K) := (op_neM hu).or (op_neLen (Nat.lt_of_le_of_lt (Nat.le_add_right _ _) hu))
theorem neL_s {K : PySem.W.Frag} : OpS K cm (rNeL K) neL := fun A c x y v w Q rel rx ry h => by
  unfold neL at h
  split at h
  · rename_i xs ys h1 h2
    split at h
    · exact .inl (neV_s A c x y v w Q rel rx ry h)
    · rename_i ne
      obtain ⟨a, vs, e1, g1, t1⟩ := lsOf_rep rel rx h1
      obtain ⟨b, ws, e2, g2, t2⟩ := lsOf_rep rel ry h2
      exact .inr ⟨a, b, vs, ws, e1, e2, g1, g2, by rw [← t1.length, ← t2.length]; exact ne, h.here rel rfl⟩
  · exact .inl (neV_s A c x y v w Q rel rx ry h)
theorem neL_n : NoErr neL := fun x y S => by
  unfold neL
  split
  · split
    · exact neV_n x y S
    · exact True.intro
  · exact neV_n x y S
def rEqLen (K : PySem.W.Frag) : R2 := fun x y H Q => ∃ a b vs ws, x = .ref a ∧ y = .ref b ∧ SqL K H a vs ∧ SqL K H b ws ∧ vs.length ≠ ws.length ∧ Q (.bl false) H
theorem op_eqLen {X : Cx} (hu : X.A.units < cLine) : OpR X (compareOp .Eq) (rEqLen X.K) := by
  intro pins s σ H x y v u Q I rx ry h
  obtain ⟨a, b, vs, ws, rfl, rfl, hs, hs', ne, q⟩ := h
  obtain rfl : v = Value.ref a := rx
  obtain rfl : u = Value.ref b := ry
  obtain ⟨its, rv, hl, hz⟩ := I.list hs
  obtain ⟨its', rv', hl', hz'⟩ := I.list hs'
  have l1 := rv.length
  have l2 := rv'.length
  exact PySem.SeqAt.RcAt.lists_lengths hl.isList hl'.isList (by simp only [bne_iff_ne, List.size_toArray]; omega) hu _ _ _ _ ⟨.bl false, H, I, rfl, q⟩
def eqL (x y : D) (S : Store) : R D := match lsOf S x, lsOf S y with
  | some xs, some ys => if xs.length = ys.length then eqV x y S else .ok (.bl false) S
  | _, _ => eqV x y S
def rEqL (K : PySem.W.Frag) : R2 := fun x y H Q => rEqM K id x y H Q ∨ rEqLen K x y H Q
theorem op_eqL {X : Cx} (hu : X.A.units + 64 < cLine) : OpR X (compareOp .Eq) (rEqL X.K) := (op_eqM hu).or (op_eqLen (Nat.lt_of_le_of_lt (Nat.le_add_right _ _) hu))
theorem eqL_s {K : PySem.W.Frag} : OpS K cm (rEqL K) eqL := fun A c x y v w Q rel rx ry h => by
  unfold eqL at h
  split at h
  · rename_i xs ys h1 h2
    split at h
    · exact .inl (eqV_s A c x y v w Q rel rx ry h)
    · rename_i ne
      obtain ⟨a, vs, e1, g1, t1⟩ := lsOf_rep rel rx h1
      obtain ⟨b, ws, e2, g2, t2⟩ := lsOf_rep rel ry h2
      exact .inr ⟨a, b, vs, ws, e1, e2, g1, g2, by rw [← t1.length, ← t2.length]; exact ne, h.here rel rfl⟩
  · exact .inl (eqV_s A c x y v w Q rel rx ry h)
theorem eqL_n : NoErr eqL := fun x y S => by
  unfold eqL
  split
  · split
    · exact eqV_n x y S
    · exact True.intro
  · exact eqV_n x y S

/-! ### a comprehension with two fors: its list is one of the store -/
section
variable {X : Cx} {cm : String → Addr → Prop} {E : XK}
noncomputable def lm2T (n : Nat) (g : DGv) (t : DTv) (i1 : DIv) (g1 : DGv) (t1 : DTv) (e : DEv) (us : List Nat) (st : DSt) (x : D) (S : Store) : R Unit :=
  (g x st S).bind fun st1 S1 => (t st1 S1).bind fun k S2 => if k = true then (i1 st1 S2).bind fun s1 S3 => lmD s1 n g1 t1 e (wipeD st1 us) s1.xs S3 else .ok () S2
open Classical in
noncomputable def lm2D (s : Src) (n : Nat) (g : DGv) (t : DTv) (i1 : DIv) (g1 : DGv) (t1 : DTv) (e : DEv) (us : List Nat) (st : DSt) : List D → Store → R Unit
  | [], S => if s.held S then .ok () S else .no
  | x :: xs, S => if s.held S then (lm2T n g t i1 g1 t1 e us st x S).mute.bind fun _ S' => lm2D s n g t i1 g1 t1 e us st xs S' else .no
noncomputable def dLc2 (i : DIv) (g : DGv) (t : DTv) (i1 : DIv) (g1 : DGv) (t1 : DTv) (e : DEv) (us vs : List Nat) : DEv := fun st S =>
  (i st S).bind fun s S1 => (lm2D s S1.length g t i1 g1 t1 e us (wipeD st vs) s.xs (S1 ++ [.lst []])).bind fun _ S2 => .ok (.loc S1.length) S2
theorem lm_in {K : PySem.W.Frag} {A : Addr → Prop} {J : It} {s : Src} {n : Nat} {p : Addr} {g : TG} {tt : TT} {te : TE} {vs : List Nat} {dg : DGv} {dt : DTv} {de : DEv} {st : DSt} {σ : L2.St} {Nx : Hp → Prop} {S' : Store}
    (sg : SndG K cm E0 g dg) (og : OnlyG vs g) (st' : SndT K cm E0 tt dt) (se : Snd K cm E0 te de) (c1 : Cfg) (rel1 : RelC ⟨K, cm, A⟩ c1) (hφ1 : c1.φ[n]? = some p) (loc1 : LocR ⟨K, cm, A⟩ c1 (wipeD st vs) (wipe σ vs)) (wk : WalkD K cm A c1 J s)
    (run1 : lmD s n dg dt de (wipeD st vs) s.xs c1.S = .ok () S') (hN : ∀ c', Ext c1 c' → RelC ⟨K, cm, A⟩ c' → c'.S = S' → Nx c'.H) :
    ∃ W : Nat → Nat → Hp → Prop, (∃ m, W 0 m c1.H) ∧ ∀ j k H, W j k H → (J.stop j H ∧ Nx H) ∨ (J.go j H ∧ ∃ Nx1 : Hp → Prop, (∀ H', Nx1 H' → ∃ k', k' < k ∧ W (j + 1) k' H') ∧ ∀ x H', J.yld j H x H' → g x (wipe σ vs) H' fun σ3 H5 => wipe σ3 vs = wipe σ vs ∧ tt σ3 H5 fun b H6 =>
      if b = true then te σ3 H6 fun y H7 => ∃ acc, H7 p = some (.lst acc) ∧ acc.length < sizeLine ∧ Nx1 (upd H7 p (.lst (acc ++ [y]))) else Nx1 H6) := by
  refine ⟨fun i m H => m = s.xs.length - i ∧ i ≤ s.xs.length ∧ ∃ c : Cfg, c.H = H ∧ Ext c1 c ∧ RelC ⟨K, cm, A⟩ c ∧ lmD s n dg dt de (wipeD st vs) (s.xs.drop i) c.S = .ok () S',
    ⟨_, rfl, Nat.zero_le _, c1, rfl, .refl c1, rel1, by rw [List.drop_zero]; exact run1⟩, ?_⟩
  rintro i m H ⟨rfl, hi, c, rfl, x, relc, hc⟩
  have locc := loc1.mono x
  by_cases hlt : i < s.xs.length
  · rw [List.drop_eq_getElem_cons hlt] at hc
    unfold lmD at hc
    split at hc
    · rename_i held
      obtain ⟨w1, _⟩ := wk A (fun a z => .inl z) c x relc held i
      obtain ⟨go, yld⟩ := w1 _ (List.getElem?_eq_getElem hlt)
      refine .inr ⟨go, fun H' => ∃ c' : Cfg, c'.H = H' ∧ Ext c1 c' ∧ RelC ⟨K, cm, A⟩ c' ∧ lmD s n dg dt de (wipeD st vs) (s.xs.drop (i + 1)) c'.S = .ok () S',
        fun H' ⟨c', e1, e2, e3, e4⟩ => ⟨s.xs.length - (i + 1), by omega, rfl, hlt, c', e1, e2, e3, e4⟩, fun v H' hy => ?_⟩
      obtain ⟨c2, e2, eS, x2, rel2, rv⟩ := yld v H' hy
      subst e2
      rw [← eS] at hc
      have key : Post ⟨K, cm, A⟩ E0 (fun _ (a : Unit) (b : Unit) => a = b) c2 (fun o H' => True) (lmT n dg dt de (wipeD st vs) s.xs[i] c2.S) := by
        cases q : lmT n dg dt de (wipeD st vs) s.xs[i] c2.S with
        | no => rw [q] at hc; cases hc
        | err z S => rw [q] at hc; cases hc
        | ok o S => exact fun _ _ _ _ _ _ => True.intro
      have hc' : ∀ S2, lmT n dg dt de (wipeD st vs) s.xs[i] c2.S = R.ok () S2 → lmD s n dg dt de (wipeD st vs) (s.xs.drop (i + 1)) S2 = .ok () S' := fun S2 q => by
        rw [q] at hc
        exact hc
      unfold lmT at key
      refine og v (wipe σ vs) c2.H _ _ (fun σ2 H2 e q => ⟨by rw [e]; exact wipe_wipe, q⟩) (sg _ c2 (wipeD st vs) (wipe σ vs) _ v _ rel2 (locc.mono x2) rv (Post.seq key fun st1 σ1 c3 q3 x3 rel3 loc3 h3 => ?_))
      refine st' _ c3 st1 σ1 _ rel3 loc3 (Post.seq h3 fun k k' c4 q4 x4 rel4 rk h4 => ?_)
      cases rk
      have φ2 : c2.φ[n]? = some p := x2.pre _ _ (x.pre _ _ hφ1)
      cases k with
      | true =>
        rw [if_pos rfl]
        rw [if_pos rfl] at h4
        refine se _ c4 st1 σ1 _ rel4 (loc3.mono x4) (Post.seq h4 fun z w c6 q6 x6 rel6 rw6 h6 => ?_)
        have run : lmT n dg dt de (wipeD st vs) s.xs[i] c2.S = putL n z c6.S := by
          unfold lmT
          rw [q3, R.bind_ok, q4, R.bind_ok, if_pos rfl, q6, R.bind_ok]
        unfold putL at h6 run
        split at h6
        · rename_i acc hS
          split at h6
          · rename_i hl
            rw [hS] at run
            replace run : lmT n dg dt de (wipeD st vs) s.xs[i] c2.S = .ok () (c6.S.set n (.lst (acc ++ [z]))) := by rw [run]; exact if_pos hl
            have x26 : Ext c2 c6 := (x3.trans x4).trans x6
            have φ6 : c6.φ[n]? = some p := x26.pre _ _ φ2
            obtain ⟨ws, hH, t⟩ := rel6.obj _ _ _ φ6 hS
            have xq : Ext c6 ⟨c6.φ, c6.S.set n (.lst (acc ++ [z])), upd c6.H p (.lst (ws ++ [w]))⟩ := Ext.put rel6 φ6 hS (by simp)
            exact ⟨ws, hH, by rw [← t.length]; exact Nat.lt_of_lt_of_le hl million, _, rfl, ((x.trans x2).trans x26).trans xq, rel6.put (o' := .lst (acc ++ [z])) φ6 hS (by simp) ⟨_, upd_same, RpA.mono xq _ _ (t.append ⟨w, [], rfl, rw6, rfl⟩)⟩, hc' _ run⟩
          · exact h6.elim
        · exact h6.elim
      | false =>
        rw [if_neg Bool.false_ne_true]
        have run : lmT n dg dt de (wipeD st vs) s.xs[i] c2.S = .ok () c4.S := by
          unfold lmT
          rw [q3, R.bind_ok, q4, R.bind_ok, if_neg Bool.false_ne_true]
        exact ⟨c4, rfl, (x.trans x2).trans (x3.trans x4), rel4, hc' _ run⟩
    · cases hc
  · have e : i = s.xs.length := by omega
    subst e
    rw [List.drop_length] at hc
    unfold lmD at hc
    split at hc
    · rename_i held
      obtain ⟨_, w2⟩ := wk A (fun a z => .inl z) c x relc held s.xs.length
      cases hc
      exact .inl ⟨w2 (Nat.le_refl _), hN c x relc rfl⟩
    · cases hc
theorem snd_lc2 {K : PySem.W.Frag} {wi wi1 : TI} {g g1 : TG} {tt tt1 : TT} {te : TE} {vs us : List Nat} {di di1 : DIv} {dg dg1 : DGv} {dt dt1 : DTv} {de : DEv} (si : SndI K cm E wi di) (sg : SndG K cm E0 g dg) (og : OnlyG vs g) (st' : SndT K cm E0 tt dt)
    (si1 : SndI K cm E0 wi1 di1) (sg1 : SndG K cm E0 g1 dg1) (og1 : OnlyG us g1) (st1' : SndT K cm E0 tt1 dt1) (se : Snd K cm E0 te de) : Snd K cm E (tLc2 wi g tt wi1 g1 tt1 te vs us) (dLc2 di dg dt di1 dg1 dt1 de us vs) := fun A c0 st σ Q rel loc h => by
  refine si A c0 st σ _ rel loc (Post.seq h fun s J c1 _ x1 rel1 ⟨wk, held1⟩ h1 => ?_)
  intro p hp
  have xp : Ext c1 ⟨c1.φ ++ [p], c1.S ++ [.lst []], upd c1.H p (.lst [])⟩ := Ext.push rel1 hp
  have relp : RelC ⟨K, cm, A⟩ ⟨c1.φ ++ [p], c1.S ++ [.lst []], upd c1.H p (.lst [])⟩ := rel1.push (o := .lst []) hp (notA_new rel1 hp) ⟨[], upd_same, rfl⟩
  have φp : (c1.φ ++ [p])[c1.S.length]? = some p := by rw [← rel1.len]; simp
  refine ⟨fun i m H => m = s.xs.length - i ∧ i ≤ s.xs.length ∧ ∃ c : Cfg, c.H = H ∧ Ext c1 c ∧ c.φ[c1.S.length]? = some p ∧ RelC ⟨K, cm, A⟩ c ∧ LocR ⟨K, cm, A⟩ c (wipeD st vs) (wipe σ vs) ∧
      Post ⟨K, cm, A⟩ E (Rp ⟨K, cm, A⟩) c1 Q ((lm2D s c1.S.length dg dt di1 dg1 dt1 de us (wipeD st vs) (s.xs.drop i) c.S).bind fun _ S2 => .ok (.loc c1.S.length) S2),
    ⟨_, rfl, Nat.zero_le _, ⟨c1.φ ++ [p], c1.S ++ [.lst []], upd c1.H p (.lst [])⟩, rfl, xp, φp, relp, ((loc.mono x1).wipes vs).mono xp, by rw [List.drop_zero]; exact h1⟩, ?_⟩
  rintro i m H ⟨rfl, hi, c, rfl, x, hφ, relc, locc, hc⟩
  by_cases hlt : i < s.xs.length
  · rw [List.drop_eq_getElem_cons hlt] at hc
    unfold lm2D at hc
    split at hc
    · rename_i held
      obtain ⟨w1, _⟩ := wk A (fun a z => .inl z) c x relc held i
      obtain ⟨go, yld⟩ := w1 _ (List.getElem?_eq_getElem hlt)
      refine .inr ⟨go, fun H' => ∃ c' : Cfg, c'.H = H' ∧ Ext c1 c' ∧ c'.φ[c1.S.length]? = some p ∧ RelC ⟨K, cm, A⟩ c' ∧ LocR ⟨K, cm, A⟩ c' (wipeD st vs) (wipe σ vs) ∧
          Post ⟨K, cm, A⟩ E (Rp ⟨K, cm, A⟩) c1 Q ((lm2D s c1.S.length dg dt di1 dg1 dt1 de us (wipeD st vs) (s.xs.drop (i + 1)) c'.S).bind fun _ S2 => .ok (.loc c1.S.length) S2),
        fun H' ⟨c', e1, e2, e3, e4, e5, e6⟩ => ⟨s.xs.length - (i + 1), by omega, rfl, hlt, c', e1, e2, e3, e4, e5, e6⟩, fun v H' hy => ?_⟩
      obtain ⟨c2, e2, eS, x2, rel2, rv⟩ := yld v H' hy
      subst e2
      rw [← eS] at hc
      have key : Post ⟨K, cm, A⟩ E0 (fun _ (a : Unit) (b : Unit) => a = b) c2 (fun o H' => True) (lm2T c1.S.length dg dt di1 dg1 dt1 de us (wipeD st vs) s.xs[i] c2.S) := by
        cases q : lm2T c1.S.length dg dt di1 dg1 dt1 de us (wipeD st vs) s.xs[i] c2.S with
        | no => rw [q] at hc; exact hc.elim
        | err z S => rw [q] at hc; exact hc.elim
        | ok o S => exact fun _ _ _ _ _ _ => True.intro
      have hc' : ∀ S', lm2T c1.S.length dg dt di1 dg1 dt1 de us (wipeD st vs) s.xs[i] c2.S = R.ok () S' →
          Post ⟨K, cm, A⟩ E (Rp ⟨K, cm, A⟩) c1 Q ((lm2D s c1.S.length dg dt di1 dg1 dt1 de us (wipeD st vs) (s.xs.drop (i + 1)) S').bind fun _ S2 => .ok (.loc c1.S.length) S2) := fun S' q => by
        rw [q] at hc
        exact hc
      unfold lm2T at key
      refine og v (wipe σ vs) c2.H _ _ (fun σ2 H2 e q => ⟨by rw [e]; exact wipe_wipe, q⟩) (sg _ c2 (wipeD st vs) (wipe σ vs) _ v _ rel2 (locc.mono x2) rv (Post.seq key fun st1 σ1 c3 q3 x3 rel3 loc3 h3 => ?_))
      refine st' _ c3 st1 σ1 _ rel3 loc3 (Post.seq h3 fun k k' c4 q4 x4 rel4 rk h4 => ?_)
      cases rk
      have φ2 : c2.φ[c1.S.length]? = some p := x2.pre _ _ hφ
      cases k with
      | true =>
        rw [if_pos rfl]
        rw [if_pos rfl] at h4
        refine si1 _ c4 st1 σ1 _ rel4 (loc3.mono x4) (Post.seq h4 fun s1 J1 c5 q5 x5 rel5 ⟨wk5, _⟩ h5 => ?_)
        have x25 : Ext c2 c5 := (x3.trans x4).trans x5
        have run : lm2T c1.S.length dg dt di1 dg1 dt1 de us (wipeD st vs) s.xs[i] c2.S = lmD s1 c1.S.length dg1 dt1 de (wipeD st1 us) s1.xs c5.S := by
          unfold lm2T
          rw [q3, R.bind_ok, q4, R.bind_ok, if_pos rfl, q5, R.bind_ok]
        cases q7 : lmD s1 c1.S.length dg1 dt1 de (wipeD st1 us) s1.xs c5.S with
        | no => rw [q7] at h5; exact h5.elim
        | err z S =>
          have hh : Post ⟨K, cm, A⟩ E (Rp ⟨K, cm, A⟩) c1 Q (((lm2T c1.S.length dg dt di1 dg1 dt1 de us (wipeD st vs) s.xs[i] c2.S).mute.bind fun _ S' => lm2D s c1.S.length dg dt di1 dg1 dt1 de us (wipeD st vs) (s.xs.drop (i + 1)) S').bind fun _ S2 => .ok (.loc c1.S.length) S2) := hc
          rw [run, q7] at hh
          exact hh.elim
        | ok u S6 =>
          rw [q7] at run
          exact lm_in sg1 og1 st1' se c5 rel5 (x25.pre _ _ φ2) ((loc3.mono (x4.trans x5)).wipes us) wk5 q7 fun c7 x7 rel7 e7 => ⟨c7, rfl, ((x.trans x2).trans x25).trans x7, x7.pre _ _ (x25.pre _ _ φ2), rel7, ((locc.mono x2).mono x25).mono x7, by rw [e7]; exact hc' _ run⟩
      | false =>
        rw [if_neg Bool.false_ne_true]
        have run : lm2T c1.S.length dg dt di1 dg1 dt1 de us (wipeD st vs) s.xs[i] c2.S = .ok () c4.S := by
          unfold lm2T
          rw [q3, R.bind_ok, q4, R.bind_ok, if_neg Bool.false_ne_true]
        have x24 : Ext c2 c4 := x3.trans x4
        exact ⟨c4, rfl, (x.trans x2).trans x24, x24.pre _ _ φ2, rel4, (locc.mono x2).mono x24, hc' _ run⟩
    · exact hc.elim
  · have e : i = s.xs.length := by omega
    subst e
    rw [List.drop_length] at hc
    unfold lm2D at hc
    split at hc
    · rename_i held
      obtain ⟨_, w2⟩ := wk A (fun a z => .inl z) c x relc held s.xs.length
      exact .inl ⟨w2 (Nat.le_refl _), hc (.ref p) c rfl x relc ⟨p, rfl, hφ⟩⟩
    · exact hc.elim
def canonI (K : PySem.W.Frag) (cm : String → Addr → Prop) (E : XK) (d : DIv) : TI := fun σ H Q => ∃ (A : Addr → Prop) (c : Cfg) (st : DSt), c.H = H ∧ RelC ⟨K, cm, A⟩ c ∧ LocR ⟨K, cm, A⟩ c st σ ∧ Post ⟨K, cm, A⟩ E (fun c' s J => WalkD K cm A c' J s ∧ s.held c'.S) c Q (d st c.S)
theorem DI.canon {tg e : Expr} {d : DIv} (h : DI X cm E tg e d) : PI X tg e (canonI X.K cm E d) := by
  obtain ⟨t, p, s⟩ := h.ex
  refine ⟨fun pins st σ H Q I ⟨A, c, ds, e, rel, loc, post⟩ => ?_⟩
  subst e
  exact p.run pins st σ c.H Q I (s A c ds σ Q rel loc post)
theorem snd_canonI {K : PySem.W.Frag} {d : DIv} : SndI K cm E (canonI K cm E d) d := fun A c st σ Q rel loc h => ⟨A, c, st, rfl, rel, loc, h⟩
section
variable {elt tg iter tg1 iter1 : Expr} {ifs ifs1 : List Expr} {scope : Scope} {own : List (Str × Nat)} {us : List Nat} {pos : Pos} {di di1 : DIv} {dg dg1 : DGv} {dt dt1 : DTv} {de : DEv} {g g1 : TG} {k : Nat}
theorem de_lc2 (G : GX X E k) (hi : DI X cm E tg iter di) (ok : BlkOk X.N X.env.scope scope own) (hv : ∀ i ∈ us, i ∈ own.map (·.2))
    (hg : ∀ (s : Shared) (H : Hp) (C : Addr) (cl : List (Str × Addr)) (fp : List Addr), GX (X.blk s H scope (compEnvC scope cl C X.env) fp) E0 k → DGo (X.blk s H scope (compEnvC scope cl C X.env) fp) cm E0 tg (own.map (·.2)) dg g)
    (ht : ∀ (s : Shared) (H : Hp) (C : Addr) (cl : List (Str × Addr)) (fp : List Addr), GX (X.blk s H scope (compEnvC scope cl C X.env) fp) E0 k → DTs (X.blk s H scope (compEnvC scope cl C X.env) fp) cm E0 ifs dt)
    (hi1 : ∀ (s : Shared) (H : Hp) (C : Addr) (cl : List (Str × Addr)) (fp : List Addr), GX (X.blk s H scope (compEnvC scope cl C X.env) fp) E0 k → DI (X.blk s H scope (compEnvC scope cl C X.env) fp) cm E0 tg1 iter1 di1)
    (hg1 : ∀ (s : Shared) (H : Hp) (C : Addr) (cl : List (Str × Addr)) (fp : List Addr), GX (X.blk s H scope (compEnvC scope cl C X.env) fp) E0 k → DGo (X.blk s H scope (compEnvC scope cl C X.env) fp) cm E0 tg1 us dg1 g1)
    (ht1 : ∀ (s : Shared) (H : Hp) (C : Addr) (cl : List (Str × Addr)) (fp : List Addr), GX (X.blk s H scope (compEnvC scope cl C X.env) fp) E0 k → DTs (X.blk s H scope (compEnvC scope cl C X.env) fp) cm E0 ifs1 dt1)
    (he : ∀ (s : Shared) (H : Hp) (C : Addr) (cl : List (Str × Addr)) (fp : List Addr), GX (X.blk s H scope (compEnvC scope cl C X.env) fp) E0 k → DE (X.blk s H scope (compEnvC scope cl C X.env) fp) cm E0 elt de)
    (hs : ∀ x, foldedSetIterable iter X.env x = pure x := by intro _; rfl) (hs1 : ∀ env x, foldedSetIterable iter1 env x = pure x := by intro _ _; rfl) : DE X cm E (.ListComp elt [⟨tg, iter, ifs, 0⟩, ⟨tg1, iter1, ifs1, 0⟩] scope pos) (dLc2 di dg dt di1 dg1 dt1 de us (own.map (·.2))) := by
  obtain ⟨ti, pi, si⟩ := hi.ex
  have o := hg {} (fun _ => none) 0 [] [] (G.blk _ _ _ _ _)
  have o1 := hg1 {} (fun _ => none) 0 [] [] (G.blk _ _ _ _ _)
  refine ⟨_, pe_lc2 (g := g) (g1 := g1) (vs1 := us) (tt := canonT X.K cm E0 dt) (tt1 := canonT X.K cm E0 dt1) (wi1 := canonI X.K cm E0 di1) (te := canonE X.K cm E0 de) G.calm G.nd pi ok hv (fun s H C cl fp => (hg s H C cl fp (G.blk _ _ _ _ _)).pg) (fun s H C cl fp => (ht s H C cl fp (G.blk _ _ _ _ _)).canon)
    (fun s H C cl fp => (hi1 s H C cl fp (G.blk _ _ _ _ _)).canon) (fun s H C cl fp => (hg1 s H C cl fp (G.blk _ _ _ _ _)).pg) (fun s H C cl fp => (ht1 s H C cl fp (G.blk _ _ _ _ _)).canon) (fun s H C cl fp => (he s H C cl fp (G.blk _ _ _ _ _)).canon) hs hs1, ?_⟩
  exact snd_lc2 si o.snd o.only snd_canonT snd_canonI o1.snd o1.only snd_canonT snd_canonE
theorem ds_setLc2 {i : Nat} {y : Str} {py spos : Pos} (G : GX X E k) (hsw : swapsWith (.ListComp elt [⟨tg, iter, ifs, 0⟩, ⟨tg1, iter1, ifs1, 0⟩] scope pos) (some (.Name y py)) spos.line X.env = pure true) (hi : DI X cm E tg iter di) (ok : BlkOk X.N X.env.scope scope own) (hv : ∀ i ∈ us, i ∈ own.map (·.2))
    (hg : ∀ (s : Shared) (H : Hp) (C : Addr) (cl : List (Str × Addr)) (fp : List Addr), GX (X.blk s H scope (compEnvC scope cl C X.env) fp) E0 k → DGo (X.blk s H scope (compEnvC scope cl C X.env) fp) cm E0 tg (own.map (·.2)) dg g)
    (ht : ∀ (s : Shared) (H : Hp) (C : Addr) (cl : List (Str × Addr)) (fp : List Addr), GX (X.blk s H scope (compEnvC scope cl C X.env) fp) E0 k → DTs (X.blk s H scope (compEnvC scope cl C X.env) fp) cm E0 ifs dt)
    (hi1 : ∀ (s : Shared) (H : Hp) (C : Addr) (cl : List (Str × Addr)) (fp : List Addr), GX (X.blk s H scope (compEnvC scope cl C X.env) fp) E0 k → DI (X.blk s H scope (compEnvC scope cl C X.env) fp) cm E0 tg1 iter1 di1)
    (hg1 : ∀ (s : Shared) (H : Hp) (C : Addr) (cl : List (Str × Addr)) (fp : List Addr), GX (X.blk s H scope (compEnvC scope cl C X.env) fp) E0 k → DGo (X.blk s H scope (compEnvC scope cl C X.env) fp) cm E0 tg1 us dg1 g1)
    (ht1 : ∀ (s : Shared) (H : Hp) (C : Addr) (cl : List (Str × Addr)) (fp : List Addr), GX (X.blk s H scope (compEnvC scope cl C X.env) fp) E0 k → DTs (X.blk s H scope (compEnvC scope cl C X.env) fp) cm E0 ifs1 dt1)
    (he : ∀ (s : Shared) (H : Hp) (C : Addr) (cl : List (Str × Addr)) (fp : List Addr), GX (X.blk s H scope (compEnvC scope cl C X.env) fp) E0 k → DE (X.blk s H scope (compEnvC scope cl C X.env) fp) cm E0 elt de)
    (hy : X.N[i]? = some y := by rfl) (hyl : X.env.scope.names.lookup y = some .local := by rfl) (hs : ∀ x, foldedSetIterable iter X.env x = pure x := by intro _; rfl) (hs1 : ∀ env x, foldedSetIterable iter1 env x = pure x := by intro _ _; rfl) :
    DS X cm E (.Assign [.Name y py] (.ListComp elt [⟨tg, iter, ifs, 0⟩, ⟨tg1, iter1, ifs1, 0⟩] scope pos) spos) (dSet i (dLc2 di dg dt di1 dg1 dt1 de us (own.map (·.2)))) := by
  obtain ⟨ti, pi, si⟩ := hi.ex
  have o := hg {} (fun _ => none) 0 [] [] (G.blk _ _ _ _ _)
  have o1 := hg1 {} (fun _ => none) 0 [] [] (G.blk _ _ _ _ _)
  refine ⟨_, ps_setLc2 (g := g) (g1 := g1) (vs1 := us) (tt := canonT X.K cm E0 dt) (tt1 := canonT X.K cm E0 dt1) (wi1 := canonI X.K cm E0 di1) (te := canonE X.K cm E0 de) G.calm G.nd hy hyl hsw pi ok hv (fun s H C cl fp => (hg s H C cl fp (G.blk _ _ _ _ _)).pg) (fun s H C cl fp => (ht s H C cl fp (G.blk _ _ _ _ _)).canon)
    (fun s H C cl fp => (hi1 s H C cl fp (G.blk _ _ _ _ _)).canon) (fun s H C cl fp => (hg1 s H C cl fp (G.blk _ _ _ _ _)).pg) (fun s H C cl fp => (ht1 s H C cl fp (G.blk _ _ _ _ _)).canon) (fun s H C cl fp => (he s H C cl fp (G.blk _ _ _ _ _)).canon) hs hs1, ?_⟩
  have sn := snd_lc2 si o.snd o.only (snd_canonT (cm := cm) (E := E0) (K := X.K) (d := dt)) (snd_canonI (cm := cm) (E := E0) (K := X.K) (d := di1)) o1.snd o1.only (snd_canonT (cm := cm) (E := E0) (K := X.K) (d := dt1)) (snd_canonE (K := X.K) (cm := cm) (E := E0) (d := de))
  exact fun A c st σ Ds rel loc h => sn A c st σ _ rel loc (Post.seqS h fun x v c1 _ x1 rel1 rx h1 => h1 _ c1 rfl (.refl c1) rel1 ((loc.mono x1).set rx))
end
end

/-! ### how many unlike ints -/
section
variable {X : Cx} {cm : String → Addr → Prop} {E : XK}
/-- as the set made of them has it -/
def cntI (ns : List Int) : Nat := (PyProof.Rows.firstMet (fun j => ns.getD j 0) ns.length).length
theorem cntI_le (ns : List Int) : cntI ns ≤ ns.length := PyProof.Rows.firstMet_length_le _ _
def tCnt (K : PySem.W.Frag) (ta : TE) : TE := fun σ H Q => ta σ H fun x G => ∃ (p : Addr) (ns : List Int), x = .ref p ∧ SqL K G p (ns.map V.int) ∧ ns.length < 4000 ∧ Q (.int (cntI ns : Nat)) G
theorem pe_cnt {a : Expr} {ta : TE} {p1 p2 q1 q2 : Pos} (G : GX X E k) (g1 : Gl X "len") (m1 : X.mg "len" = none) (g2 : Gl X "set") (m2 : X.mg "set" = none) (ha : PE X a ta)
    (one : starEach [a] X.env = (false, eval a X.env) :: starEach [] X.env := by rfl) : PE X (.Call (.Name "len" p1) [.Call (.Name "set" p2) [a] [] q1] [] q2) (tCnt X.K ta) := by
  constructor
  intro pins u σ H Q J h
  refine Call_ (ld_blt J g1 m1 boot_len (callWith_builtin1 (args_cons ?_ rfl) rfl rfl))
  refine Call_ (ld_blt J g2 m2 boot_set (callWith_type1 (args_cons (thn (ha.run pins u σ H _ J h) ?_) one) one rfl))
  rintro v u1 ⟨x, H1, J1, r1, p, ns, e, hq, hl, post⟩
  subst e
  cases r1
  refine args_nil ?_
  obtain ⟨its, r, pl, hz⟩ := J1.list hq
  have nl : its.toArray.size = ns.length := by rw [List.size_toArray, ← r.length, List.length_map]
  have room : its.toArray.size + 1 < scanBound := by rw [nl]; unfold scanBound; omega
  refine PySem.call_set_list (J1.ok.hd G.calm) pl.isList (by rw [List.toList_toArray]; exact RZ.intsAre_vals r) room ?_
  intro h2 tk made old
  refine args_nil ?_
  rw [nl] at made
  obtain ⟨o, es, ep, t, at1, exact1, data1, _, _, _, fits1, size1⟩ := made
  have J2 : Inv X pins σ H1 { u1 with heap := h2, toks := tk } := J1.kept fun b o e => old b o (Heap.lt_size e) e
  have few : (es.size : Int) < 2 ^ 63 := by
    have := cntI_le ns
    have e : es.size = cntI ns := size1
    rw [e]
    omega
  exact call_len_set at1 exact1 data1 fits1 few ⟨.int (cntI ns : Nat), H1, J2.tok _, ⟨_, by rw [size1]; rfl⟩, post⟩
def cntV (x : D) (S : Store) : R D := match lsOf S x with
  | some xs => match intsOf xs with
    | some ns => if ns.length < 4000 then .ok (.int (cntI ns : Nat)) S else .no
    | none => .no
  | none => .no
def dCnt (a : DEv) : DEv := fun st S => (a st S).bind fun x S1 => cntV x S1
theorem de_cnt {a : Expr} {da : DEv} {p1 p2 q1 q2 : Pos} (G : GX X E k) (g1 : Gl X "len") (m1 : X.mg "len" = none) (g2 : Gl X "set") (m2 : X.mg "set" = none) (ha : DE X cm E a da)
    (one : starEach [a] X.env = (false, eval a X.env) :: starEach [] X.env := by rfl) : DE X cm E (.Call (.Name "len" p1) [.Call (.Name "set" p2) [a] [] q1] [] q2) (dCnt da) := by
  obtain ⟨t, p, s⟩ := ha.ex
  refine ⟨_, pe_cnt G g1 m1 g2 m2 p one, fun A c st σ Q rel loc h => s A c st σ _ rel loc (Post.seq h fun x v c1 _ x1 rel1 rx h1 => ?_)⟩
  unfold cntV at h1
  split at h1
  · rename_i xs hx
    split at h1
    · rename_i ns hi
      split at h1
      · rename_i hl
        obtain ⟨b, ws, e, hs, r⟩ := lsOf_rep rel1 rx hx
        have ei := intsOf_rep r hi
        subst ei
        exact ⟨b, ns, e, hs, hl, h1.here rel1 rfl⟩
      · exact h1.elim
    · exact h1.elim
  · exact h1.elim
end

/-! ### a, b, *rest = a tuple -/
section
variable {prog : Program} {w : World} {A : Around} {E : Value → Shared → Prop} {s : Shared}
theorem star_items {l : Addr} {its : Array Value} {n : Nat} {Q : List Value → Shared → Prop} (calm : A.handled = none) (tup : IsTup s.heap l its) (le : n ≤ its.size) (small : its.size < 16000)
    (h : ∀ g tk, (∀ b o, s.heap.get? b = some o → g.get? b = some o) → wpAny (model prog w) A (newList (its.toList.drop n)) (fun d u => Q (its.toList.take n ++ [d]) u) E { s with heap := g, toks := tk }) :
    wpAny (model prog w) A (unpackItems (.ref l) (n + 1) (some n)) Q E s := by
  obtain ⟨ot, at_l, _⟩ := id tup
  have low := Heap.lt_size at_l
  have ne : l ≠ s.heap.objs.size := Nat.ne_of_lt low
  have can : ∀ {R : Bool → Shared → Prop}, R false s → wpAny (model prog w) A (notIterableAtAll (.ref l)) R E s := fun z => by
    unfold notIterableAtAll
    exact wpAny_bind (wpAny_specialOf tup.typeIs slot_tuple_iter.lookup (wpAny_pure z))
  unfold unpackItems
  refine wpAny_bind (can ?_)
  simp only [Bool.false_eq_true, if_false]
  refine wpAny_bind (wpAny_holding (iter_tuple tup (wpAny_bind (wpAny_holding ?_))))
  refine draw_tuple ne n 0 _ _ ⟨_, Heap.get?_push_size _ rfl, rfl, rfl⟩ (tup.push _) (by omega) fun g1 it1 same1 => ?_
  have tup1 : IsTup g1 l its := (tup.push _).extBut same1.extBut ne
  rw [Nat.zero_add] at it1
  obtain ⟨oi, at_i, _⟩ := id it1
  obtain ⟨o2, at_2, _⟩ := id tup1
  simp only [List.drop_zero]
  have full : (its.toList.take n).length = n := by simp; omega
  rw [if_neg (by omega : ¬ (its.toList.take n).length < n)]
  refine wpAny_bind (wpAny_holding ?_)
  refine PySem.W.kun_collect (s := { s with heap := g1 }) (T := "tuple_iterator") (k := n) (by simp) (Walks.tuple (A := A.in1) calm s.heap.objs.size l ne its) (fun j u st => st.1.typeIs) le ⟨it1, tup1⟩ (Heap.lt_size at_i) (Heap.lt_size at_2) (fun g2 tk keep => ?_) (by rw [sizeLine_eq]; omega)
  simp only [Nat.add_sub_cancel, Nat.sub_self, Nat.not_lt_zero, if_false, Nat.sub_zero, List.take_length, List.drop_length, List.append_nil]
  refine wpAny_bind (wpAny_mono (h g2 tk fun b o e => ?_) (fun d u q => wpAny_pure q) fun _ _ z => z)
  have nb : b ≠ s.heap.objs.size := Nat.ne_of_lt (Heap.lt_size e)
  exact keep b o nb (same1.extBut b o nb (Heap.get?_push_of_some _ e))
end
section
variable {prog : Program} {w : World} {A : Around} {E : Value → Shared → Prop} {s : Shared}
theorem draw_list {it t : Addr} {items : Array Value} (hne : t ≠ it) : ∀ (n i : Nat) (s : Shared) (Q : List Value → Shared → Prop), s.heap.IsListIter it t i → s.heap.IsList t items → i + n ≤ items.size →
    (∀ h', Heap.IsListIter h' it t (i + n) → Heap.SameBut it s.heap h' → Q ((items.toList.drop i).take n) { s with heap := h' }) → wpAny (model prog w) A (draw (.ref it) n) Q E s
  | 0, i, s, Q, hit, _, _, hQ => by
    show wpAny _ _ (pure []) Q E s
    exact wpAny_pure (by simpa using hQ s.heap hit (Heap.SameBut.refl ..))
  | n + 1, i, s, Q, hit, ht, hle, hQ => by
    have hlt : i < items.size := by omega
    show wpAny _ _ (pyNext (.ref it) >>= _) Q E s
    refine wpAny_bind (wpAny_pyNext_list_item hit ht (x := items[i]) (by simp [hlt]) fun h₁ hit₁ hs₁ => ?_)
    refine wpAny_bind (wpAny_holding (draw_list hne n (i + 1) _ _ hit₁ (ht.extBut hs₁.extBut hne) (by omega) fun h₂ hit₂ hs₂ => wpAny_pure ?_))
    have hd : items.toList.drop i = items[i] :: items.toList.drop (i + 1) := by simp [List.drop_eq_getElem_cons, hlt]
    have := hQ h₂ (by rw [show i + (n + 1) = i + 1 + n by omega]; exact hit₂) (hs₁.trans hs₂)
    rw [hd, List.take_succ_cons] at this
    exact this
theorem star_itemsL {l : Addr} {its : Array Value} {n : Nat} {Q : List Value → Shared → Prop} (calm : A.handled = none) (tup : s.heap.IsList l its) (le : n ≤ its.size) (small : its.size < 16000)
    (h : ∀ g tk, (∀ b o, s.heap.get? b = some o → g.get? b = some o) → wpAny (model prog w) A (newList (its.toList.drop n)) (fun d u => Q (its.toList.take n ++ [d]) u) E { s with heap := g, toks := tk }) :
    wpAny (model prog w) A (unpackItems (.ref l) (n + 1) (some n)) Q E s := by
  obtain ⟨ot, at_l, _⟩ := id tup
  have low := Heap.lt_size at_l
  have ne : l ≠ s.heap.objs.size := Nat.ne_of_lt low
  have can : ∀ {R : Bool → Shared → Prop}, R false s → wpAny (model prog w) A (notIterableAtAll (.ref l)) R E s := fun z => by
    unfold notIterableAtAll
    exact wpAny_bind (wpAny_specialOf tup.typeIs slot_list_iter.lookup (wpAny_pure z))
  unfold unpackItems
  refine wpAny_bind (can ?_)
  simp only [Bool.false_eq_true, if_false]
  refine wpAny_bind (wpAny_holding (wpAny_pyIter_list tup (wpAny_bind (wpAny_holding ?_))))
  refine draw_list ne n 0 _ _ ⟨_, Heap.get?_push_size _ rfl, rfl, rfl⟩ (tup.push _) (by omega) fun g1 it1 same1 => ?_
  have tup1 : g1.IsList l its := (tup.push _).extBut same1.extBut ne
  rw [Nat.zero_add] at it1
  obtain ⟨oi, at_i, _⟩ := id it1
  obtain ⟨o2, at_2, _⟩ := id tup1
  simp only [List.drop_zero]
  have full : (its.toList.take n).length = n := by simp; omega
  rw [if_neg (by omega : ¬ (its.toList.take n).length < n)]
  refine wpAny_bind (wpAny_holding ?_)
  refine PySem.W.kun_collect (s := { s with heap := g1 }) (T := "list_iterator") (k := n) (by simp) (Walks.list (A := A.in1) calm s.heap.objs.size l ne its) (fun j u st => st.1.typeIs) le ⟨it1, tup1⟩ (Heap.lt_size at_i) (Heap.lt_size at_2) (fun g2 tk keep => ?_) (by rw [sizeLine_eq]; omega)
  simp only [Nat.add_sub_cancel, Nat.sub_self, Nat.not_lt_zero, if_false, Nat.sub_zero, List.take_length, List.drop_length, List.append_nil]
  refine wpAny_bind (wpAny_mono (h g2 tk fun b o e => ?_) (fun d u q => wpAny_pure q) fun _ _ z => z)
  have nb : b ≠ s.heap.objs.size := Nat.ne_of_lt (Heap.lt_size e)
  exact keep b o nb (same1.extBut b o nb (Heap.get?_push_of_some _ e))
end
section
variable {X : Cx} {cm : String → Addr → Prop} {E : XK} {k : Nat}
/-- the names ahead of the star get the first n, the starred one a new list of the rest -/
def gStar (K : PySem.W.Frag) (n : Nat) (t : TGs) : TG := fun v σ H Q => ∃ a xs, v = .ref a ∧ (SqT K H a xs ∨ SqL K H a xs) ∧ n ≤ xs.length ∧ xs.length < 16000 ∧ ∀ p, H p = none → t (xs.take n ++ [.ref p]) σ (upd H p (.lst (xs.drop n))) Q
theorem pg_star {es fs : List Expr} {kk : Nat} {pos : Pos} {t : TGs} {n : Nat} (hc : X.calm = true) (h : PGs X fs t) (same : (assignEach es X.env).map (·.2) = (assignEach fs X.env).map (·.2) := by rfl)
    (hn : (assignEach es X.env).length = n + 1 := by rfl) (hst : (assignEach es X.env).findIdx? (·.1) = some n := by rfl) : PG X (.Tuple es kk pos) (gStar X.K n t) := by
  constructor
  intro pins u σ H v ref Q J r ⟨a, xs, e1, hq, le, small, hw⟩
  subst e1
  cases r
  rcases hq with hq | hq
  · obtain ⟨its, rv, tup, hz⟩ := J.tuple hq
    have sz : its.toArray.size = xs.length := by rw [List.size_toArray, ← rv.length]
    rw [assign_Tuple]
    refine wpAny_bind (wpAny_standAt ?_)
    unfold unpack
    rw [hn, hst, same]
    refine wpAny_bind (wpAny_holding (star_items (J.ok.hd hc) tup (by omega) (by omega) fun g tk keep => ?_))
    simp only [List.toList_toArray]
    have J1 : Inv X pins σ H { u with heap := g, toks := tk } := J.kept keep
    have rd : Vals (xs.drop n) (its.drop n) := rv.drop n
    have rt : Vals (xs.take n) (its.take n) := rv.take n
    refine wpAny_newObj_type ?_ (by show (its.drop n).toArray.size ≤ sizeLine; rw [List.size_toArray, List.length_drop, sizeLine_eq, ← rv.length]; omega)
    have new : H g.objs.size = none := J1.hok.fresh (Nat.le_refl _)
    refine h.run pins _ σ (upd H g.objs.size (.lst (xs.drop n))) (xs.take n ++ [.ref g.objs.size]) _ Q ?_ (rt.append (show Vals [V.ref g.objs.size] [Value.ref g.objs.size] from .cons (show RelV (V.ref g.objs.size) (Value.ref g.objs.size) from rfl) .nil)) (hw _ new)
    refine J1.laid (t' := tk) (fun b o e => Heap.get?_push_of_some _ e) (Nat.le_refl _) ⟨by rw [List.length_drop, sizeLine_eq]; omega, its.drop n, 0, rd, ?_⟩
    exact Heap.get?_push_size _ rfl
  · obtain ⟨its, rv, tup, hz⟩ := J.list hq
    have sz : its.toArray.size = xs.length := by rw [List.size_toArray, ← rv.length]
    rw [assign_Tuple]
    refine wpAny_bind (wpAny_standAt ?_)
    unfold unpack
    rw [hn, hst, same]
    refine wpAny_bind (wpAny_holding (star_itemsL (J.ok.hd hc) tup.isList (by omega) (by omega) fun g tk keep => ?_))
    simp only [List.toList_toArray]
    have J1 : Inv X pins σ H { u with heap := g, toks := tk } := J.kept keep
    have rd : Vals (xs.drop n) (its.drop n) := rv.drop n
    have rt : Vals (xs.take n) (its.take n) := rv.take n
    refine wpAny_newObj_type ?_ (by show (its.drop n).toArray.size ≤ sizeLine; rw [List.size_toArray, List.length_drop, sizeLine_eq, ← rv.length]; omega)
    have new : H g.objs.size = none := J1.hok.fresh (Nat.le_refl _)
    refine h.run pins _ σ (upd H g.objs.size (.lst (xs.drop n))) (xs.take n ++ [.ref g.objs.size]) _ Q ?_ (rt.append (show Vals [V.ref g.objs.size] [Value.ref g.objs.size] from .cons (show RelV (V.ref g.objs.size) (Value.ref g.objs.size) from rfl) .nil)) (hw _ new)
    refine J1.laid (t' := tk) (fun b o e => Heap.get?_push_of_some _ e) (Nat.le_refl _) ⟨by rw [List.length_drop, sizeLine_eq]; omega, its.drop n, 0, rd, ?_⟩
    exact Heap.get?_push_size _ rfl
def dgStar (n : Nat) (gs : DGsv) : DGv := fun d st S => match d with
  | .tup xs => if n ≤ xs.length ∧ xs.length < 16000 then gs (xs.take n ++ [.lst (xs.drop n)]) st S else .no
  | .lst xs => if n ≤ xs.length ∧ xs.length < 16000 then gs (xs.take n ++ [.lst (xs.drop n)]) st S else .no
  | _ => .no
theorem snd_gstar {K : PySem.W.Frag} {n : Nat} {gs : DGsv} {t : TGs} (h : SndGs K cm E t gs) : SndG K cm E (gStar K n t) (dgStar n gs) := fun A c st σ d v Q rel loc rd q => by
  unfold dgStar at q
  split at q
  · rename_i xs
    split at q
    · rename_i hl
      obtain ⟨a, vs, e, _, h1, t1⟩ := rd
      refine ⟨a, vs, e, .inl (.inl (.inl h1)), by rw [← t1.length]; exact hl.1, by rw [← t1.length]; exact hl.2, fun p hp => ?_⟩
      have x : Ext c ⟨c.φ, c.S, upd c.H p (.lst (vs.drop n))⟩ := Ext.lay rel hp
      have t2 := RpA.mono x _ _ t1
      exact h A ⟨c.φ, c.S, upd c.H p (.lst (vs.drop n))⟩ st σ _ _ Q (RelC.lay rel hp) (loc.mono x) ((t2.take n).append (show RpA _ _ [.lst (xs.drop n)] [.ref p] from ⟨_, [], rfl, ⟨p, vs.drop n, rfl, own_new rel hp, upd_same, t2.drop n⟩, rfl⟩)) (Post.trans x q)
    · exact q.elim
  · rename_i xs
    split at q
    · rename_i hl
      obtain ⟨a, vs, e, h0, h1, t1⟩ := rd
      refine ⟨a, vs, e, .inr (.inl (.inl h1)), by rw [← t1.length]; exact hl.1, by rw [← t1.length]; exact hl.2, fun p hp => ?_⟩
      have x : Ext c ⟨c.φ, c.S, upd c.H p (.lst (vs.drop n))⟩ := Ext.lay rel hp
      have t2 := RpA.mono x _ _ t1
      exact h A ⟨c.φ, c.S, upd c.H p (.lst (vs.drop n))⟩ st σ _ _ Q (RelC.lay rel hp) (loc.mono x) ((t2.take n).append (show RpA _ _ [.lst (xs.drop n)] [.ref p] from ⟨_, [], rfl, ⟨p, vs.drop n, rfl, own_new rel hp, upd_same, t2.drop n⟩, rfl⟩)) (Post.trans x q)
    · exact q.elim
  · exact q.elim
theorem dg_star {es fs : List Expr} {kk : Nat} {pos : Pos} {gs : DGsv} {n : Nat} (G : GX X E k) (h : DGs X cm E fs gs) (same : (assignEach es X.env).map (·.2) = (assignEach fs X.env).map (·.2) := by rfl)
    (hn : (assignEach es X.env).length = n + 1 := by rfl) (hst : (assignEach es X.env).findIdx? (·.1) = some n := by rfl) : DG X cm E (.Tuple es kk pos) (dgStar n gs) :=
  let ⟨_, a, b⟩ := h.ex; ⟨_, pg_star G.calm a same hn hst, snd_gstar b⟩
end

/-! ### a tuple, a list, taken some times -/
section
variable {X : Cx} {cm : String → Addr → Prop} {E : XK} {k : Nat} {pos : Pos}
theorem tup_once (l : Addr) (its : Array Value) (n : Nat) (dd : Option Addr) (sl : Array (Option Value)) (u : Tok) (ne : its.isEmpty = false) :
    Meets (Builtin.«tuple.__mul__» ⟨[.ref l, .int 1 u], []⟩) (fun _ R s => s.heap.get? l = some { cls := .type "tuple", dict := dd, data := .seq its n, slots := sl } ∧ R (.ok (.ret (.ref l))) s) :=
  .of_wp fun prog w A R s ⟨hl, h⟩ => by
    obtain ⟨hp, g, d, tk, os⟩ := s
    have f1 := AutoSeq1.idx_int
    have e1 : (its.isEmpty || ((1 : Int) == 1)) = true := by rw [ne]; rfl
    wp_walk using wpAny_loadPart' hl
    exact ⟨_, rfl, h⟩
theorem tup_never (l : Addr) (its : Array Value) (n : Nat) (dd : Option Addr) (sl : Array (Option Value)) (u : Tok) (ne : its.isEmpty = false) :
    Meets (Builtin.«tuple.__mul__» ⟨[.ref l, .int 0 u], []⟩) (fun _ R s => s.heap.get? l = some { cls := .type "tuple", dict := dd, data := .seq its n, slots := sl } ∧
      R (.ok (.ret (.ref s.heap.objs.size))) { s with heap := s.heap.push { cls := .type "tuple", data := .seq #[] } }) :=
  .of_wp fun prog w A R s ⟨hl, h⟩ => by
    obtain ⟨hp, g, d, tk, os⟩ := s
    have f1 := AutoSeq1.idx_int
    wp_walk using wpAny_loadPart' hl
    exact ⟨_, rfl, h⟩
def rRepB (K : PySem.W.Frag) : R2 := fun x y H Q => ∃ (l : Addr) (i : Int) (xs : List V), x = .ref l ∧ y = .int i ∧ SqT K H l xs ∧ xs ≠ [] ∧ ((i = 1 ∧ Q (.ref l) H) ∨ (i = 0 ∧ ∀ p, H p = none → Q (.ref p) (upd H p (.tup []))))
theorem op_repB : OpR X (binaryOp .Mult) (rRepB X.K) := by
  intro pins u σ H x y v w Q J rx ry ⟨l, i, xs, e1, e2, sq, ne, q⟩
  subst e1 e2
  cases rx
  obtain ⟨t, e3⟩ := ry
  subst e3
  obtain ⟨its, r, ⟨⟨cls, dd, data, sl⟩, at_l, hc, n, hd⟩, _⟩ := J.tuple sq
  simp only at hc hd
  subst hc hd
  have some_ : its.toArray.isEmpty = false := by
    cases its with
    | nil => cases r; exact absurd rfl ne
    | cons => rfl
  have is : u.TypeIs (.ref l) "tuple" := ⟨_, at_l, rfl⟩
  rcases q with ⟨e, q⟩ | ⟨e, q⟩
  all_goals
    subst e
    refine wpAny_binaryOp_repeat_ref (T := "tuple") (U := "int") (by decide) is (fun z => typeIs_int z _ t) noFill_tuple_mul F.fills_int_mul F.slot_int_rmul repeat_tuple F.slot_int_index.lookup ?_
    refine call_meets F.slot_int_rmul (typeIs_int u _ t) F.entry_int_rmul (F.args_int_rmul_2 _ _) (int_rmul_tuple _ t l its.toArray n dd sl) ⟨at_l, rfl, is, ?_⟩
  · exact call_meets F.slot_tuple_mul is F.entry_tuple_mul (F.args_tuple_mul_2 _ _) (tup_once l its.toArray n dd sl t some_) ⟨at_l, .ref l, H, J, rfl, q⟩
  · refine call_meets F.slot_tuple_mul is F.entry_tuple_mul (F.args_tuple_mul_2 _ _) (tup_never l its.toArray n dd sl t some_) ⟨at_l, .ref _, upd H u.heap.objs.size (.tup []), ?_, rfl, q _ (J.hok.fresh (Nat.le_refl _))⟩
    exact J.laid (t' := u.toks) (fun b o z => Heap.get?_push_of_some _ z) (Nat.le_refl _) ⟨Nat.zero_le _, [], .nil, IsTup.new _ _⟩
def mulX (x y : D) (S : Store) : R D := match x, y with
  | .tup xs, .int i => if 0 ≤ i ∧ i ≤ 1000 ∧ xs.isEmpty = false ∧ xs.length ≤ 1000 then .ok (.tup (List.replicate i.toNat xs).flatten) S else .no
  | .lst xs, .int i => if 0 ≤ i ∧ i ≤ 1000 ∧ xs.length ≤ 1000 then .ok (.lst (List.replicate i.toNat xs).flatten) S else .no
  | _, _ => mulV x y S
theorem RpA.rep {G : Gam} {c : Cfg} {xs : List D} {vs : List V} (h : RpA G c xs vs) : ∀ n : Nat, RpA G c (List.replicate n xs).flatten (List.replicate n vs).flatten
  | 0 => rfl
  | n + 1 => by
    rw [List.replicate_succ, List.replicate_succ, List.flatten_cons, List.flatten_cons]
    exact h.append (RpA.rep h n)
def rMulX (K : PySem.W.Frag) : R2 := fun x y H Q => (rI CMul fun i j => .int (i * j)) x y H Q ∨ (rRepT K x y H Q ∨ (rRepB K x y H Q ∨ rRep x y H Q))
theorem op_mulX : OpR X (binaryOp .Mult) (rMulX X.K) := op_mul.or (op_repT.or (op_repB.or op_rep))
theorem mulX_s {K : PySem.W.Frag} : OpS K cm (rMulX K) mulX := fun A c x y v w Q rel rx ry h => by
  unfold mulX at h
  split at h
  · rename_i xs i
    split at h
    · rename_i hl
      obtain ⟨a, vs, e, nA, hH, t⟩ := id rx
      have ew : w = .int i := ry
      have ln := t.length
      have ne : vs ≠ [] := fun z => by
        subst z
        cases xs with
        | nil => exact absurd hl.2.2.1 (by simp)
        | cons => cases ln
      subst e ew
      have new : ∀ {us : List V} {zs : List D}, (∀ c', Ext c c' → RpA ⟨K, cm, A⟩ c' zs us) → Post ⟨K, cm, A⟩ (fun _ _ _ => False) (Rp ⟨K, cm, A⟩) c Q (.ok (.tup zs) c.S) → ∀ p, c.H p = none → Q (.ref p) (upd c.H p (.tup us)) := fun {us zs} r q p hp =>
        q (.ref p) ⟨c.φ, c.S, upd c.H p (.tup us)⟩ rfl (Ext.lay rel hp) (RelC.lay rel hp) ⟨p, us, rfl, own_new rel hp, upd_same, r _ (Ext.lay rel hp)⟩
      by_cases h1 : i = 1
      · subst h1
        refine .inr (.inr (.inl ⟨a, 1, vs, rfl, rfl, .inl (.inl hH), ne, .inl ⟨rfl, ?_⟩⟩))
        have e1 : (List.replicate (1 : Int).toNat xs).flatten = xs := by simp
        rw [e1] at h
        exact h.here rel rx
      · by_cases h0 : i = 0
        · subst h0
          exact .inr (.inr (.inl ⟨a, 0, vs, rfl, rfl, .inl (.inl hH), ne, .inr ⟨rfl, new (us := []) (zs := []) (fun _ _ => rfl) h⟩⟩))
        · exact .inr (.inl ⟨a, i, vs, rfl, rfl, .inl (.inl hH), ne, by omega, hl.2.1, by rw [← ln]; exact hl.2.2.2, new (fun c' x' => (RpA.mono x' _ _ t).rep _) h⟩)
    · exact h.elim
  · rename_i xs i
    split at h
    · rename_i hl
      obtain ⟨a, vs, e, nA, hH, t⟩ := id rx
      have ew : w = .int i := ry
      have ln := t.length
      subst e ew
      refine .inr (.inr (.inr ⟨a, i, vs, rfl, rfl, hH, by omega, by omega, ?_, fun p hp => ?_⟩))
      · rw [← ln, sizeLine_eq]
        have := Nat.mul_le_mul hl.2.2 (by omega : i.toNat ≤ 1000)
        omega
      · exact h (.ref p) ⟨c.φ, c.S, upd c.H p (.lst (List.replicate i.toNat vs).flatten)⟩ rfl (Ext.lay rel hp) (RelC.lay rel hp) ⟨p, _, rfl, own_new rel hp, upd_same, (RpA.mono (Ext.lay rel hp) _ _ t).rep _⟩
    · exact h.elim
  · exact .inl (mulV_s A c x y v w Q rel rx ry h)
theorem mulX_n : NoErr mulX := fun x y S => by
  unfold mulX
  split
  · split <;> exact True.intro
  · split <;> exact True.intro
  · exact mulV_n x y S
theorem de_mulX {a b : Expr} {da db : DEv} (ha : DE X cm E a da) (hb : DE X cm E b db) : DE X cm E (.BinOp a .Mult b pos) (dOp mulX da db) := de_op op_mulX mulX_s mulX_n ha hb
end

/-! ### a dict display with entries -/
section
variable {X : Cx} {cm : String → Addr → Prop} {E : XK} {k : Nat} {pos : Pos}
abbrev RpP (G : Gam) (c : Cfg) : List (D × D) → List (V × V) → Prop := Paired fun p q => Rp G c p.1 q.1 ∧ Rp G c p.2 q.2
theorem RpP.mono {G : Gam} {c c' : Cfg} (x : Ext c c') {ds : List (D × D)} {vs : List (V × V)} (h : RpP G c ds vs) : RpP G c' ds vs := by
  unfold RpP at h ⊢
  induction h with
  | nil => exact .nil
  | cons a _ ih => exact .cons ⟨Rp.mono x _ _ a.1, Rp.mono x _ _ a.2⟩ ih
abbrev DPv2 := DSt → Store → R (List (D × D))
def SndP (K : PySem.W.Frag) (cm : String → Addr → Prop) (E : XK) (t : List (TE × TE)) (d : DPv2) : Prop := ∀ (A : Addr → Prop) (c : Cfg) (st : DSt) (σ : L2.St) (Q : List (V × V) → Hp → Prop), RelC ⟨K, cm, A⟩ c → LocR ⟨K, cm, A⟩ c st σ → Post ⟨K, cm, A⟩ E (RpP ⟨K, cm, A⟩) c Q (d st c.S) → tPairs t σ c.H Q
structure DPs (X : Cx) (cm : String → Addr → Prop) (E : XK) (pos : Pos) (ks : List (Option Expr)) (vs : List Expr) (d : DPv2) : Prop where
  ex : ∃ t, PPs X pos ks vs t ∧ SndP X.K cm E t d
def dP0 : DPv2 := fun _ S => .ok [] S
def dP1 (a b : DEv) (r : DPv2) : DPv2 := fun st S => (a st S).bind fun x S1 => (b st S1).bind fun y S2 => (r st S2).bind fun ds S3 => .ok ((x, y) :: ds) S3
theorem dps_nil : DPs X cm E pos [] [] dP0 := ⟨[], pps_nil, fun A c st σ Q rel loc h => h.here rel .nil⟩
theorem dps_cons {a b : Expr} {ks : List (Option Expr)} {vs : List Expr} {da db : DEv} {dr : DPv2} (ha : DE X cm E a da) (hb : DE X cm E b db) (hr : DPs X cm E pos ks vs dr) : DPs X cm E pos (some a :: ks) (b :: vs) (dP1 da db dr) := by
  obtain ⟨ta, pa, sa⟩ := ha.ex
  obtain ⟨tb, pb, sb⟩ := hb.ex
  obtain ⟨tr, pr, sr⟩ := hr.ex
  refine ⟨_, pps_cons pa pb pr, fun A c st σ Q rel loc h => ?_⟩
  refine sa A c st σ _ rel loc (Post.seq h fun x v c1 _ x1 rel1 rx h1 => ?_)
  refine sb A c1 st σ _ rel1 (loc.mono x1) (Post.seq h1 fun y u c2 _ x2 rel2 ry h2 => ?_)
  refine sr A c2 st σ _ rel2 ((loc.mono x1).mono x2) (Post.seq h2 fun ds ps c3 _ x3 rel3 rd h3 => ?_)
  exact h3.here rel3 (.cons ⟨Rp.mono (x2.trans x3) _ _ rx, Rp.mono x3 _ _ ry⟩ rd)
def keyed : List (D × D) → Option (List (Key × D))
  | [] => some []
  | (x, y) :: r => match keyOf x, keyed r with
    | some q, some kvs => some ((q, y) :: kvs)
    | _, _ => none
theorem keyed_rep {G : Gam} {c : Cfg} : ∀ {ds : List (D × D)} {ps : List (V × V)} {kvs : List (Key × D)}, RpP G c ds ps → keyed ds = some kvs → ∃ kws, ps = kws.map (fun kv => (kV kv.1, kv.2)) ∧ RpK G c kvs kws
  | [], _, _, .nil, e => by
    cases e
    exact ⟨[], rfl, .nil⟩
  | (x, y) :: r, _, kvs, .cons (b := b) h t, e => by
    unfold keyed at e
    split at e
    · rename_i q kvs' hq hk
      cases e
      obtain ⟨kws, e1, r1⟩ := keyed_rep t hk
      refine ⟨(q, b.2) :: kws, ?_, .cons ⟨rfl, h.2⟩ r1⟩
      have e2 : b.1 = kV q := keyOf_rep h.1 hq
      rw [List.map_cons, ← e1, ← e2]
    · cases e
def putAll (kvs : List (Key × D)) : List (Key × D) := kvs.foldl (fun acc kv => putA acc kv.1 kv.2) []
theorem putAll_rep {G : Gam} {c : Cfg} {kvs : List (Key × D)} {kws : List (Key × V)} (h : RpK G c kvs kws) : RpK G c (putAll kvs) (mergeK [] kws) := by
  have go : ∀ {kvs : List (Key × D)} {kws : List (Key × V)} {a : List (Key × D)} {b : List (Key × V)}, RpK G c kvs kws → RpK G c a b → RpK G c (kvs.foldl (fun acc kv => putA acc kv.1 kv.2) a) (kws.foldl (fun acc kv => putK acc kv.1 kv.2) b) := by
    intro kvs kws a b h
    unfold RpK at h
    induction h generalizing a b with
    | nil => intro q; exact q
    | @cons p q ps qs h1 _ ih =>
      intro q0
      rw [List.foldl_cons, List.foldl_cons]
      exact ih (by rw [h1.1]; exact RpK.put q0 q.1 h1.2)
  exact go h .nil
def dispC (n : Nat) (ds : List (D × D)) (S : Store) : R D := match S[n]?, keyed ds with
  | some (.dK []), some kvs => if kvs.length ≤ 15 then .ok (.loc n) (S.set n (.dK (putAll kvs))) else .no
  | _, _ => .no
def dDisp (d : DPv2) : DEv := fun st S => (d st (S ++ [.dK []])).bind fun ds S2 => dispC S.length ds S2
theorem de_disp {ks : List (Option Expr)} {vs : List Expr} {d : DPv2} (h : DPs X cm E pos ks vs d) (hall : ks.all (·.isSome) = true := by rfl) (hl : ks.length = vs.length := by rfl) (h0 : ks ≠ [] := by simp) (h15 : ks.length ≤ 15 := by decide) : DE X cm E (.Dict ks vs pos) (dDisp d) := by
  obtain ⟨t, p, s⟩ := h.ex
  refine ⟨_, pe_disp p hall hl h0 h15, fun A c st σ Q rel loc post q hq => ?_⟩
  have x : Ext c ⟨c.φ ++ [q], c.S ++ [.dK []], upd c.H q (.dK [])⟩ := Ext.push rel hq
  have rel0 : RelC ⟨X.K, cm, A⟩ ⟨c.φ ++ [q], c.S ++ [.dK []], upd c.H q (.dK [])⟩ := rel.push (o := .dK []) hq (notA_new rel hq) ⟨[], upd_same, .nil⟩
  have φ0 : (c.φ ++ [q])[c.S.length]? = some q := by rw [← rel.len]; simp
  refine s A ⟨c.φ ++ [q], c.S ++ [.dK []], upd c.H q (.dK [])⟩ st σ _ rel0 (loc.mono x) (Post.seq (Post.trans x post) fun ds ps c1 _ x1 rel1 rd h1 => ?_)
  unfold dispC at h1
  split at h1
  · rename_i kvs hS hk
    split at h1
    · rename_i hn
      have φ1 := x1.pre _ _ φ0
      obtain ⟨kws0, hH, t0⟩ := rel1.obj _ _ _ φ1 hS
      cases t0
      obtain ⟨kws, e, r⟩ := keyed_rep rd hk
      have xq : Ext c1 ⟨c1.φ, c1.S.set c.S.length (.dK (putAll kvs)), upd c1.H q (.dK (mergeK [] kws))⟩ := Ext.put rel1 φ1 hS (by simp)
      refine ⟨hH, kws, e, by rw [← r.length]; exact hn, ?_⟩
      exact h1 (.ref q) ⟨c1.φ, c1.S.set c.S.length (.dK (putAll kvs)), upd c1.H q (.dK (mergeK [] kws))⟩ rfl xq (rel1.put (o' := .dK (putAll kvs)) φ1 hS (by simp) ⟨_, upd_same, (putAll_rep r).map (Rp.mono xq)⟩) ⟨q, rfl, φ1⟩
    · exact h1.elim
  · exact h1.elim
end

/-! ### instances of own classes -/
def cmM (mg : Str → Option Value) : String → Addr → Prop := fun n a => mg (Str.ofString n) = some (.ref a)
section
variable {X : Cx} {E : XK} {pos : Pos} {k : String} {C : Addr}
theorem RpK.lookup {G : Gam} {c : Cfg} {fs : List (Str × D)} {gs : List (Str × V)} (r : RpK G c fs gs) (f : Str) : (fs.lookup f = none ∧ gs.lookup f = none) ∨ ∃ d v, fs.lookup f = some d ∧ gs.lookup f = some v ∧ Rp G c d v := by
  unfold RpK at r
  induction r with
  | nil => exact .inl ⟨rfl, rfl⟩
  | @cons p q ps qs h t ih =>
    obtain ⟨p1, p2⟩ := p
    obtain ⟨q1, q2⟩ := q
    obtain ⟨h1, h2⟩ := h
    have h1 : p1 = q1 := h1
    subst h1
    by_cases e : f = p1
    · subst e
      exact .inr ⟨p2, q2, by simp [List.lookup], by simp [List.lookup], h2⟩
    · have e' : (f == p1) = false := beq_eq_false_iff_ne.mpr e
      simp only [List.lookup, e']
      exact ih
def putFd (f : Str) (v : D) : List (Str × D) → List (Str × D)
  | [] => [(f, v)]
  | (g, x) :: r => if g = f then (g, v) :: r else (g, x) :: putFd f v r
theorem RpK.putF {G : Gam} {c : Cfg} {f : Str} {d : D} {v : V} (rd : Rp G c d v) : ∀ {fs : List (Str × D)} {gs : List (Str × V)}, RpK G c fs gs → RpK G c (putFd f d fs) (L2.putF f v gs) := fun {fs gs} r => by
  unfold RpK at r ⊢
  induction r with
  | nil => exact .cons ⟨rfl, rd⟩ .nil
  | @cons p q ps qs h t ih =>
    obtain ⟨p1, p2⟩ := p
    obtain ⟨q1, q2⟩ := q
    obtain ⟨h1, h2⟩ := h
    have h1 : p1 = q1 := h1
    subst h1
    show Paired _ (if p1 = f then (p1, d) :: ps else (p1, p2) :: putFd f d ps) (if p1 = f then (p1, v) :: qs else (p1, q2) :: L2.putF f v qs)
    split
    · exact .cons ⟨rfl, rd⟩ t
    · exact .cons ⟨rfl, h2⟩ ih
/-- x.f, x of class k -/
def fldV (k : String) (f : Str) (x : D) (S : Store) : R D := match x with
  | .loc n => match S[n]? with
    | some (.ins k' fs) => if k' = k then (match fs.lookup f with
      | some d => .ok d S
      | none => .no) else .no
    | _ => .no
  | _ => .no
def rFld (K : PySem.W.Frag) (f : Str) (v : V) (H : Hp) (Q : VK) : Prop := ∃ a C dx fs u, v = .ref a ∧ H a = some (.ins C dx fs) ∧ Cls K C ∧ NoAttr K C f ∧ fs.lookup f = some u ∧ Q u H
theorem fldV_s {K : PySem.W.Frag} {mg : Str → Option Value} {f : Str} (hC : mg (Str.ofString k) = some (.ref C)) (cl : Cls K C) (na : NoAttr K C f) : UnS K (cmM mg) (rFld K f) (fldV k f) := fun A c x v Q rel rx h => by
  unfold fldV at h
  split at h
  · rename_i n
    split at h
    · rename_i k' fs hS
      split at h
      · rename_i hk
        subst hk
        obtain ⟨a, e, _, C', dx, gs, hH, hm, r⟩ := Rp.obj rel rx hS
        have hm : mg (Str.ofString k') = some (.ref C') := hm
        have : C' = C := by
          rw [hC] at hm
          cases hm
          rfl
        subst this
        rcases r.lookup f with ⟨e1, _⟩ | ⟨d, u, e1, e2, ru⟩
        · rw [e1] at h
          exact h.elim
        · rw [e1] at h
          exact ⟨a, C', dx, gs, u, e, hH, cl, na, e2, h.here rel ru⟩
      · exact h.elim
    · exact h.elim
  · exact h.elim
theorem fldV_n {f : Str} : NoErr1 (fldV k f) := fun x S => by
  unfold fldV
  split
  · split
    · split
      · split <;> exact True.intro
      · exact True.intro
    · exact True.intro
  · exact True.intro
theorem de_fld {f : Str} {e : Expr} {d : DEv} (hC : X.mg (Str.ofString k) = some (.ref C)) (cl : Cls X.K C) (na : NoAttr X.K C f) (h : DE X (cmM X.mg) E e d) (hb : attributeBase e f X.env (eval e X.env) = eval e X.env := by rfl) : DE X (cmM X.mg) E (.Attribute e f pos) (dUn (fldV k f) d) := by
  obtain ⟨t, p, s⟩ := h.ex
  exact ⟨tFld X.K t f, pe_fld p hb, snd_un (r := rFld X.K f) (fldV_s hC cl na) fldV_n s⟩
/-- x.f = v -/
def setF (k : String) (f : Str) (x v : D) (S : Store) : R Unit := match x with
  | .loc n => match S[n]? with
    | some (.ins k' fs) => if k' = k ∧ fs.length < 900 then .ok () (S.set n (.ins k' (putFd f v fs))) else .no
    | _ => .no
  | _ => .no
def dSetF (k : String) (f : Str) (o e : DEv) : DSv := fun st S => (e st S).bind fun v S1 => (o st S1).bind fun x S2 => (setF k f x v S2).bind fun _ S3 => .ok (.nx st) S3
theorem ds_fld {f : Str} {o e : Expr} {d d' : DEv} {pos' : Pos} (hC : X.mg (Str.ofString k) = some (.ref C)) (cl : Cls X.K C) (na : NoAttr X.K C f) (ho : DE X (cmM X.mg) E o d) (he : DE X (cmM X.mg) E e d')
    (hs : swapsWith e (some (.Attribute o f pos')) pos.line X.env = pure false := by rfl) : DS X (cmM X.mg) E (.Assign [.Attribute o f pos'] e pos) (dSetF k f d d') := by
  obtain ⟨t, p, s⟩ := ho.ex
  obtain ⟨t', p', s'⟩ := he.ex
  refine ⟨_, ps_fld p p' hs, fun A c st σ Ds rel loc h => s' A c st σ _ rel loc (Post.seqS h fun v u c1 q1 x1 rel1 rv h1 => s A c1 st σ _ rel1 (loc.mono x1) (Post.seqS h1 fun x w c2 q2 x2 rel2 rx h2 => ?_))⟩
  clear q2
  unfold setF at h2
  split at h2
  · rename_i n
    split at h2
    · rename_i k' fs hS
      split at h2
      · rename_i hk
        obtain ⟨rfl, hl⟩ := hk
        obtain ⟨a, e1, hφ, C', dx, gs, hH, hm, r⟩ := Rp.obj rel2 rx hS
        have hm : X.mg (Str.ofString k') = some (.ref C') := hm
        have : C' = C := by
          rw [hC] at hm
          cases hm
          rfl
        subst this
        have rv2 := Rp.mono x2 v u rv
        have x3 : Ext c2 ⟨c2.φ, c2.S.set n (.ins k' (putFd f v fs)), upd c2.H a (.ins C' dx (putF f u gs))⟩ := Ext.put rel2 hφ hS (by simp)
        exact ⟨a, C', dx, gs, e1, hH, cl, na, by rw [← Paired.length (show Paired _ fs gs from r)]; omega, h2 σ ⟨c2.φ, c2.S.set n (.ins k' (putFd f v fs)), upd c2.H a (.ins C' dx (putF f u gs))⟩ rfl x3
          (rel2.put (o' := .ins k' (putFd f v fs)) hφ hS (by simp) ⟨C', dx, _, upd_same, hm, (r.putF rv2).map (Rp.mono x3)⟩) (((loc.mono x1).mono x2).mono x3)⟩
      · exact h2.elim
    · exact h2.elim
  · exact h2.elim
end
section
variable {X : Cx} {E : XK} {pos : Pos} {k : String} {C : Addr}
/-- the call of a method -/
def isIns (k : String) (m : Str) (S : Store) (x : D) : Bool := match x with
  | .loc n => match S[n]? with
    | some (.ins k' fs) => decide (k' = k) && (fs.lookup m).isNone
    | _ => false
  | _ => false
theorem isIns_rep {K : PySem.W.Frag} {mg : Str → Option Value} {A : Addr → Prop} {c : Cfg} {m : Str} {x : D} {v : V} (hC : mg (Str.ofString k) = some (.ref C)) (rel : RelC ⟨K, cmM mg, A⟩ c) (r : Rp ⟨K, cmM mg, A⟩ c x v) (h : isIns k m c.S x = true) :
    ∃ a dx gs, v = .ref a ∧ c.H a = some (.ins C dx gs) ∧ gs.lookup m = none := by
  unfold isIns at h
  split at h
  · rename_i n
    split at h
    · rename_i k' fs hS
      rw [Bool.and_eq_true] at h
      have hk : k' = k := of_decide_eq_true h.1
      subst hk
      obtain ⟨a, e, _, C', dx, gs, hH, hm, r⟩ := Rp.obj rel r hS
      have hm : mg (Str.ofString k') = some (.ref C') := hm
      have : C' = C := by
        rw [hC] at hm
        cases hm
        rfl
      subst this
      refine ⟨a, dx, gs, e, hH, ?_⟩
      rcases r.lookup m with ⟨_, e2⟩ | ⟨d, u, e1, _⟩
      · exact e2
      · rw [e1] at h
        cases h.2
    · cases h
  · cases h
def dMth (k : String) (m : Str) (F : List D → Store → R D) (n : Nat) (dd : List D) (a : DEv) (r : DAv) : DEv := fun st S => (a st S).bind fun x S1 => if isIns k m S1 x = true then (r st S1).bind fun ds S2 => if (x :: (ds ++ dd)).length = n then F (x :: (ds ++ dd)) S2 else .no else .no
theorem snd_mth {K : PySem.W.Frag} {mg : Str → Option Value} {m : Str} {F : List D → Store → R D} {n : Nat} {dd : List D} {dvs : List V} {ta : TE} {t : TA} {a : DEv} {r : DAv} (hC : mg (Str.ofString k) = some (.ref C)) (hd : ∀ G c, RpA G c dd dvs) (s : Snd K (cmM mg) E ta a) (s' : SndA K (cmM mg) E t r) :
    Snd K (cmM mg) E (tMeth C m (spD K (cmM mg) n F) dvs E ta t) (dMth k m F n dd a r) := fun A c st σ Q rel loc h =>
  s A c st σ _ rel loc (Post.seq h fun x v c1 q1 x1 rel1 rx h1 => by
    split at h1
    · rename_i hi
      obtain ⟨p, dx, gs, e, hH, hl⟩ := isIns_rep hC rel1 rx hi
      refine ⟨p, dx, gs, e, hH, hl, s' A c1 st σ _ rel1 (loc.mono x1) (Post.seq h1 fun ds vs c2 q2 x2 rel2 rd h2 => ?_)⟩
      have rr : RpA ⟨K, cmM mg, A⟩ c2 (x :: (ds ++ dd)) (v :: (vs ++ dvs)) := RpA.cons (Rp.mono x2 x v rx) (rd.append (hd ⟨K, cmM mg, A⟩ c2))
      split at h2
      · rename_i hn
        exact ⟨by rw [← rr.length]; exact hn, A, c2, _, rfl, rel2, rr, h2⟩
      · exact h2.elim
    · exact h1.elim)
variable {j n : Nat} {f : Addr} {fd : FuncData} {ps : List Str} {F : List D → Store → R D} {m : Str} {apos : Pos} {o e : Expr} {es : List Expr} {da : DEv} {dr : DAv} {dd : List D} {dvs : List V} {dvl : List Value}
theorem de_meth {pl : Sem Bool} {kk : Nat} (G : GX X E kk) (hC : X.mg (Str.ofString k) = some (.ref C)) (cl : Cls X.K C) (hm : Meth X.K C m f) (ok : FnOk X.prog X.w X.K X.mg X.base (CX X.prog X.w) j f fd ps (spD X.K (cmM X.mg) n F)) (hr : Room j X.A) (hb : Binds X.K fd ps dvl) (hv : Vals dvs dvl) (hd : ∀ G c, RpA G c dd dvs)
    (ho : DE X (cmM X.mg) E o da) (ha : DA X (cmM X.mg) E (e :: es) dr)
    (hst : starEach (e :: es) X.env = (false, eval e X.env) :: starEach es X.env := by rfl) (hpl : (backTo pos (starEach es X.env)).any (·.1) = false := by rfl)
    (ht : eval (.Call (.Attribute o m apos) (e :: es) [] pos) X.env = (do
      let ov ← eval o X.env
      standAt apos.atName
      let (f, first) ← holding [ov] (getMethod ov m pl)
      callWith pos f first (backTo pos (starEach (e :: es) X.env)) (backToKw pos (keywordEach [] X.env))) := by rfl) : DE X (cmM X.mg) E (.Call (.Attribute o m apos) (e :: es) [] pos) (dMth k m F n dd da dr) :=
  let ⟨_, a, b⟩ := ho.ex; let ⟨_, a', b'⟩ := ha.ex; ⟨_, pe_meth a cl hm ok hr hb hv G.pass a' hst hpl ht, snd_mth hC hd b b'⟩
theorem de_meth0 {pl : Sem Bool} {kk : Nat} (G : GX X E kk) (hC : X.mg (Str.ofString k) = some (.ref C)) (cl : Cls X.K C) (hm : Meth X.K C m f) (ok : FnOk X.prog X.w X.K X.mg X.base (CX X.prog X.w) j f fd ps (spD X.K (cmM X.mg) n F)) (hr : Room j X.A) (hb : Binds X.K fd ps dvl) (hv : Vals dvs dvl) (hd : ∀ G c, RpA G c dd dvs)
    (ho : DE X (cmM X.mg) E o da)
    (ht : eval (.Call (.Attribute o m apos) [] [] pos) X.env = (do
      let ov ← eval o X.env
      standAt apos.atName
      let (f, first) ← holding [ov] (getMethod ov m pl)
      callWith pos f first (backTo pos (starEach [] X.env)) (backToKw pos (keywordEach [] X.env))) := by rfl) : DE X (cmM X.mg) E (.Call (.Attribute o m apos) [] [] pos) (dMth k m F n dd da dNil) :=
  let ⟨_, a, b⟩ := ho.ex; ⟨_, pe_meth0 a cl hm ok hr hb hv G.pass ht, snd_mth hC hd b snd_nil⟩
/-- a new instance -/
def dMake (k : String) (F : List D → Store → R D) (n : Nat) (dd : List D) (r : DAv) : DEv := fun st S => (r st S).bind fun ds S1 => if (ds ++ dd).length + 1 = n then (F (.loc S1.length :: (ds ++ dd)) (S1 ++ [.ins k []])).bind fun v S2 => if isNon v = true then .ok (.loc S1.length) S2 else .no else .no
theorem isNon_is {d : D} (h : isNon d = true) : d = .non := by cases d <;> first | rfl | cases h
theorem made_cfg {K : PySem.W.Frag} {mg : Str → Option Value} {A : Addr → Prop} {c : Cfg} (hC : mg (Str.ofString k) = some (.ref C)) (rel : RelC ⟨K, cmM mg, A⟩ c) {x dx : Addr} (hx : c.H x = none) (hdx : c.H dx = none) (ne : dx ≠ x) :
    Ext c ⟨c.φ ++ [x], c.S ++ [.ins k []], upd (upd c.H dx (.own x)) x (.ins C dx [])⟩ ∧ RelC ⟨K, cmM mg, A⟩ ⟨c.φ ++ [x], c.S ++ [.ins k []], upd (upd c.H dx (.own x)) x (.ins C dx [])⟩ := by
  have x1 : Ext c ⟨c.φ, c.S, upd c.H dx (.own x)⟩ := Ext.lay rel hdx
  have r1 : RelC ⟨K, cmM mg, A⟩ ⟨c.φ, c.S, upd c.H dx (.own x)⟩ := rel.lay hdx
  have hx1 : upd c.H dx (.own x) x = none := by rw [upd_ne (Ne.symm ne)]; exact hx
  exact ⟨x1.trans (Ext.push r1 hx1), r1.push (o := .ins k []) hx1 (notA_new rel hx) ⟨C, dx, [], upd_same, hC, .nil⟩⟩
theorem snd_make {K : PySem.W.Frag} {mg : Str → Option Value} {t : TA} {r : DAv} (hC : mg (Str.ofString k) = some (.ref C)) (hd : ∀ G c, RpA G c dd dvs) (s : SndA K (cmM mg) E t r) :
    Snd K (cmM mg) E (tMake C (spD K (cmM mg) n F) dvs E t) (dMake k F n dd r) := fun A c st σ Q rel loc h =>
  s A c st σ _ rel loc (Post.seq h fun ds vs c1 q1 x1 rel1 rd h1 x dx hx hdx ne => by
    obtain ⟨x2, rel2⟩ := made_cfg hC rel1 hx hdx ne
    split at h1
    · rename_i hn
      have rr := RpA.mono x2 _ _ (rd.append (hd ⟨K, cmM mg, A⟩ c1))
      have rl : Rp ⟨K, cmM mg, A⟩ ⟨c1.φ ++ [x], c1.S ++ [.ins k []], upd (upd c1.H dx (.own x)) x (.ins C dx [])⟩ (.loc c1.S.length) (.ref x) := ⟨x, rfl, by show (c1.φ ++ [x])[c1.S.length]? = _; rw [← rel1.len]; simp⟩
      refine ⟨by rw [List.length_cons, ← rr.length]; exact hn, A, ⟨c1.φ ++ [x], c1.S ++ [.ins k []], upd (upd c1.H dx (.own x)) x (.ins C dx [])⟩, _, rfl, rel2, RpA.cons rl rr, ?_⟩
      refine Post.seq (Post.trans x2 h1) fun d v c3 q3 x3 rel3 rv h3 => ?_
      split at h3
      · rename_i hv
        have e := isNon_is hv
        subst e
        exact ⟨rv, h3.here rel3 (Rp.mono x3 _ _ rl)⟩
      · exact h3.elim
    · exact h1.elim)
theorem de_make {x : Str} {p : Pos} {kk : Nat} (G : GX X E kk) (hC : X.mg (Str.ofString k) = some (.ref C)) (M : Mk X.K C f) (ok : FnOk X.prog X.w X.K X.mg X.base (CX X.prog X.w) j f fd ps (spD X.K (cmM X.mg) n F)) (hr : Room (j + 1) X.A) (hm : X.mg x = some (.ref C)) (hb : Binds X.K fd ps dvl) (hv : Vals dvs dvl) (hd : ∀ G c, RpA G c dd dvs)
    (ha : DA X (cmM X.mg) E (e :: es) dr) (hg : Gl X x := by rfl) (hdb : (x == ("__debug__" : Str)) = false := by decide) (he : starEach (e :: es) X.env = (false, eval e X.env) :: starEach es X.env := by rfl) (hpl : (backTo pos (starEach es X.env)).any (·.1) = false := by rfl) :
    DE X (cmM X.mg) E (.Call (.Name x p) (e :: es) [] pos) (dMake k F n dd dr) :=
  let ⟨_, a, b⟩ := ha.ex; ⟨_, pe_make M ok hr hg hm hb hv G.pass a hdb he hpl, snd_make hC hd b⟩
end

/-! ### methods, constructors with keywords -/
section
variable {X : Cx} {E : XK} {pos : Pos} {k : String} {C : Addr}
def tMethK (C : Addr) (m : Str) (n l : Nat) (sp : Sp) (gV : List V → List V → List V) (E : XK) (ta : TE) (t tk : TA) : TE := fun σ H Q => ta σ H fun x H1 => ∃ a dx fs, x = .ref a ∧ H1 a = some (.ins C dx fs) ∧ fs.lookup m = none ∧
  t σ H1 fun vs H2 => tk σ H2 fun zs H3 => vs.length = n ∧ zs.length = l ∧ sp (gV (x :: vs) zs) H3 Q E
variable {j n l mm : Nat} {f : Addr} {fd : FuncData} {ps ks : List Str} {F : List D → Store → R D} {m x : Str} {p apos : Pos} {o e : Expr} {es : List Expr} {kws : List Keyword} {ta : TE} {t tk : TA} {sp : Sp} {da : DEv} {dr kk : DAv} {gU : List Value → List Value → List Value} {gV : List V → List V → List V} {g : List D → List D → List D}
theorem pe_methK {pl : Sem Bool} (he : PE X o ta) (c : Cls X.K C) (hm : Meth X.K C m f) (F : FnOk X.prog X.w X.K X.mg X.base (CX X.prog X.w) j f fd ps sp) (hr : Room j X.A) (hb : KBn X.K fd ps (n + 1) ks gU gV) (hx : Passes (CX X.prog X.w) X E) (ha : PA X (e :: es) t) (hkw : PK X kws tk)
    (hall : (backToKw pos (keywordEach kws X.env)).all (·.1.isSome) = true := by rfl) (hks : (backToKw pos (keywordEach kws X.env)).filterMap (·.1) = ks := by rfl)
    (hst : starEach (e :: es) X.env = (false, eval e X.env) :: starEach es X.env := by rfl) (hpl : ((backTo pos (starEach (e :: es) X.env)).any (·.1) || (backToKw pos (keywordEach kws X.env)).any (·.1.isNone)) = false := by rfl)
    (ht : eval (.Call (.Attribute o m apos) (e :: es) kws pos) X.env = (do
      let ov ← eval o X.env
      standAt apos.atName
      let (f, first) ← holding [ov] (getMethod ov m pl)
      callWith pos f first (backTo pos (starEach (e :: es) X.env)) (backToKw pos (keywordEach kws X.env))) := by rfl) :
    PE X (.Call (.Attribute o m apos) (e :: es) kws pos) (tMethK C m n ks.length sp gV E ta t tk) := by
  refine ⟨fun pins s σ H Q I h => ?_⟩
  refine PySem.W.methodCall_KW (pl := pl) (thn (he.run pins s σ H _ I h) fun u s1 ⟨x, H1, I1, rx, a, dx, fs, ex, ea, l, q⟩ => ?_) ht
  subst ex
  obtain rfl : u = Value.ref a := rx
  refine getmeth_ok I1 ea c hm l ?_
  refine PySem.W.callWith_KW (first := [.ref a]) (h₀ := X.base) I.ok.mod.kin hm.kp hall (thn (ha.run pos pins s1 σ H1 _ I1 q) fun us s2 ⟨vs, H2, I2, r, q2⟩ => ?_) hpl hst
  refine thn (hkw.run pos pins s2 σ H2 _ I2 q2) fun ws s3 ⟨zs, H3, I3, rz, l1, l2, q3⟩ => ⟨I3.kIn, ?_⟩
  rw [hks]
  exact run_fnN (us := .ref a :: us) (vs := .ref a :: vs) F hr hb hx I3 (.cons rfl r) rz (by rw [List.length_cons, l1]) l2 q3
theorem pe_methK0 {pl : Sem Bool} (he : PE X o ta) (c : Cls X.K C) (hm : Meth X.K C m f) (F : FnOk X.prog X.w X.K X.mg X.base (CX X.prog X.w) j f fd ps sp) (hr : Room j X.A) (hb : KBn X.K fd ps 1 ks gU gV) (hx : Passes (CX X.prog X.w) X E) (hkw : PK X kws tk)
    (hall : (backToKw pos (keywordEach kws X.env)).all (·.1.isSome) = true := by rfl) (hks : (backToKw pos (keywordEach kws X.env)).filterMap (·.1) = ks := by rfl)
    (hpl : ((backTo pos (starEach [] X.env)).any (·.1) || (backToKw pos (keywordEach kws X.env)).any (·.1.isNone)) = false := by rfl)
    (ht : eval (.Call (.Attribute o m apos) [] kws pos) X.env = (do
      let ov ← eval o X.env
      standAt apos.atName
      let (f, first) ← holding [ov] (getMethod ov m pl)
      callWith pos f first (backTo pos (starEach [] X.env)) (backToKw pos (keywordEach kws X.env))) := by rfl) :
    PE X (.Call (.Attribute o m apos) [] kws pos) (tMethK C m 0 ks.length sp gV E ta tNil tk) := by
  refine ⟨fun pins s σ H Q I h => ?_⟩
  refine PySem.W.methodCall_KW (pl := pl) (thn (he.run pins s σ H _ I h) fun u s1 ⟨x, H1, I1, rx, a, dx, fs, ex, ea, l, q⟩ => ?_) ht
  subst ex
  obtain rfl : u = Value.ref a := rx
  refine getmeth_ok I1 ea c hm l ?_
  refine PySem.W.callWith_KW0 (first := [.ref a]) (h₀ := X.base) I.ok.mod.kin hm.kp hall ?_ hpl
  refine thn (hkw.run pos pins s1 σ H1 _ I1 q) fun ws s3 ⟨zs, H3, I3, rz, l1, l2, q3⟩ => ⟨I3.kIn, ?_⟩
  rw [hks]
  exact run_fnN (us := [.ref a]) (vs := [.ref a]) F hr hb hx I3 (.cons rfl .nil) rz rfl l2 q3
def dMthK (k : String) (m : Str) (F : List D → Store → R D) (mm n l : Nat) (g : List D → List D → List D) (a : DEv) (r kk : DAv) : DEv := fun st S => (a st S).bind fun x S1 => if isIns k m S1 x = true then (r st S1).bind fun ds S2 => (kk st S2).bind fun zs S3 => if ds.length = n ∧ zs.length = l ∧ (g (x :: ds) zs).length = mm then F (g (x :: ds) zs) S3 else .no else .no
theorem snd_mthK {K : PySem.W.Frag} {mg : Str → Option Value} {a : DEv} (hC : mg (Str.ofString k) = some (.ref C)) (hrel : ∀ {G : Gam} {c : Cfg} {ds zs vs ws}, RpA G c ds vs → RpA G c zs ws → RpA G c (g ds zs) (gV vs ws)) (s : Snd K (cmM mg) E ta a) (s' : SndA K (cmM mg) E t dr) (s2 : SndA K (cmM mg) E tk kk) :
    Snd K (cmM mg) E (tMethK C m n l (spD K (cmM mg) mm F) gV E ta t tk) (dMthK k m F mm n l g a dr kk) := fun A c st σ Q rel loc h =>
  s A c st σ _ rel loc (Post.seq h fun x v c1 q1 x1 rel1 rx h1 => by
    split at h1
    · rename_i hi
      obtain ⟨p, dx, gs, e, hH, hl⟩ := isIns_rep hC rel1 rx hi
      refine ⟨p, dx, gs, e, hH, hl, s' A c1 st σ _ rel1 (loc.mono x1) (Post.seq h1 fun ds vs c2 q2 x2 rel2 rd h2 => s2 A c2 st σ _ rel2 ((loc.mono x1).mono x2) (Post.seq h2 fun zs ws c3 q3 x3 rel3 rz h3 => ?_))⟩
      have rr := hrel (RpA.cons (Rp.mono x3 x v (Rp.mono x2 x v rx)) (RpA.mono x3 ds vs rd)) rz
      split at h3
      · rename_i hn
        exact ⟨by rw [← rd.length]; exact hn.1, by rw [← rz.length]; exact hn.2.1, by rw [← rr.length]; exact hn.2.2, A, c3, _, rfl, rel3, rr, h3⟩
      · exact h3.elim
    · exact h1.elim)
theorem de_methK {pl : Sem Bool} {z : Nat} (G : GX X E z) (hC : X.mg (Str.ofString k) = some (.ref C)) (cl : Cls X.K C) (hm : Meth X.K C m f) (ok : FnOk X.prog X.w X.K X.mg X.base (CX X.prog X.w) j f fd ps (spD X.K (cmM X.mg) mm F)) (hr : Room j X.A) (hb : KBn X.K fd ps (n + 1) ks gU gV) (hrel : ∀ {G : Gam} {c : Cfg} {ds zs vs ws}, RpA G c ds vs → RpA G c zs ws → RpA G c (g ds zs) (gV vs ws))
    (ho : DE X (cmM X.mg) E o da) (ha : DA X (cmM X.mg) E (e :: es) dr) (hkw : DK X (cmM X.mg) E kws kk)
    (hall : (backToKw pos (keywordEach kws X.env)).all (·.1.isSome) = true := by rfl) (hks : (backToKw pos (keywordEach kws X.env)).filterMap (·.1) = ks := by rfl)
    (hst : starEach (e :: es) X.env = (false, eval e X.env) :: starEach es X.env := by rfl) (hpl : ((backTo pos (starEach (e :: es) X.env)).any (·.1) || (backToKw pos (keywordEach kws X.env)).any (·.1.isNone)) = false := by rfl)
    (ht : eval (.Call (.Attribute o m apos) (e :: es) kws pos) X.env = (do
      let ov ← eval o X.env
      standAt apos.atName
      let (f, first) ← holding [ov] (getMethod ov m pl)
      callWith pos f first (backTo pos (starEach (e :: es) X.env)) (backToKw pos (keywordEach kws X.env))) := by rfl) : DE X (cmM X.mg) E (.Call (.Attribute o m apos) (e :: es) kws pos) (dMthK k m F mm n ks.length g da dr kk) :=
  let ⟨_, a, b⟩ := ho.ex; let ⟨_, a', b'⟩ := ha.ex; let ⟨_, a2, b2⟩ := hkw.ex; ⟨_, pe_methK a cl hm ok hr hb G.pass a' a2 hall hks hst hpl ht, snd_mthK hC hrel b b' b2⟩
theorem de_methK0 {pl : Sem Bool} {z : Nat} (G : GX X E z) (hC : X.mg (Str.ofString k) = some (.ref C)) (cl : Cls X.K C) (hm : Meth X.K C m f) (ok : FnOk X.prog X.w X.K X.mg X.base (CX X.prog X.w) j f fd ps (spD X.K (cmM X.mg) mm F)) (hr : Room j X.A) (hb : KBn X.K fd ps 1 ks gU gV) (hrel : ∀ {G : Gam} {c : Cfg} {ds zs vs ws}, RpA G c ds vs → RpA G c zs ws → RpA G c (g ds zs) (gV vs ws))
    (ho : DE X (cmM X.mg) E o da) (hkw : DK X (cmM X.mg) E kws kk)
    (hall : (backToKw pos (keywordEach kws X.env)).all (·.1.isSome) = true := by rfl) (hks : (backToKw pos (keywordEach kws X.env)).filterMap (·.1) = ks := by rfl)
    (hpl : ((backTo pos (starEach [] X.env)).any (·.1) || (backToKw pos (keywordEach kws X.env)).any (·.1.isNone)) = false := by rfl)
    (ht : eval (.Call (.Attribute o m apos) [] kws pos) X.env = (do
      let ov ← eval o X.env
      standAt apos.atName
      let (f, first) ← holding [ov] (getMethod ov m pl)
      callWith pos f first (backTo pos (starEach [] X.env)) (backToKw pos (keywordEach kws X.env))) := by rfl) : DE X (cmM X.mg) E (.Call (.Attribute o m apos) [] kws pos) (dMthK k m F mm 0 ks.length g da dNil kk) :=
  let ⟨_, a, b⟩ := ho.ex; let ⟨_, a2, b2⟩ := hkw.ex; ⟨_, pe_methK0 a cl hm ok hr hb G.pass a2 hall hks hpl ht, snd_mthK hC hrel b snd_nil b2⟩
/-- a new instance by keywords -/
def dMakeK (k : String) (F : List D → Store → R D) (mm n l : Nat) (g : List D → List D → List D) (r kk : DAv) : DEv := fun st S => (r st S).bind fun ds S1 => (kk st S1).bind fun zs S2 => if ds.length = n ∧ zs.length = l ∧ (g (.loc S2.length :: ds) zs).length = mm then (F (g (.loc S2.length :: ds) zs) (S2 ++ [.ins k []])).bind fun v S3 => if isNon v = true then .ok (.loc S2.length) S3 else .no else .no
theorem snd_makeK {K : PySem.W.Frag} {mg : Str → Option Value} (hC : mg (Str.ofString k) = some (.ref C)) (hrel : ∀ {G : Gam} {c : Cfg} {ds zs vs ws}, RpA G c ds vs → RpA G c zs ws → RpA G c (g ds zs) (gV vs ws)) (s : SndA K (cmM mg) E t dr) (s2 : SndA K (cmM mg) E tk kk) :
    Snd K (cmM mg) E (tMakeK C n l (spD K (cmM mg) mm F) gV E t tk) (dMakeK k F mm n l g dr kk) := fun A c st σ Q rel loc h =>
  s A c st σ _ rel loc (Post.seq h fun ds vs c1 q1 x1 rel1 rd h1 => s2 A c1 st σ _ rel1 (loc.mono x1) (Post.seq h1 fun zs ws c2 q2 x2 rel2 rz h2 => by
    split at h2
    · rename_i hn
      refine ⟨by rw [← rd.length]; exact hn.1, by rw [← rz.length]; exact hn.2.1, fun x dx hx hdx ne => ?_⟩
      obtain ⟨x3, rel3⟩ := made_cfg hC rel2 hx hdx ne
      have rl : Rp ⟨K, cmM mg, A⟩ ⟨c2.φ ++ [x], c2.S ++ [.ins k []], upd (upd c2.H dx (.own x)) x (.ins C dx [])⟩ (.loc c2.S.length) (.ref x) := ⟨x, rfl, by show (c2.φ ++ [x])[c2.S.length]? = _; rw [← rel2.len]; simp⟩
      have rr := hrel (RpA.cons rl (RpA.mono x3 _ _ (RpA.mono x2 ds vs rd))) (RpA.mono x3 _ _ rz)
      refine ⟨by rw [← rr.length]; exact hn.2.2, A, ⟨c2.φ ++ [x], c2.S ++ [.ins k []], upd (upd c2.H dx (.own x)) x (.ins C dx [])⟩, _, rfl, rel3, rr, ?_⟩
      refine Post.seq (Post.trans x3 h2) fun d v c3 q3 x4 rel4 rv h3 => ?_
      split at h3
      · rename_i hv
        have e := isNon_is hv
        subst e
        exact ⟨rv, h3.here rel4 (Rp.mono x4 _ _ rl)⟩
      · exact h3.elim
    · exact h2.elim))
theorem de_makeK {z : Nat} (G : GX X E z) (hC : X.mg (Str.ofString k) = some (.ref C)) (M : Mk X.K C f) (ok : FnOk X.prog X.w X.K X.mg X.base (CX X.prog X.w) j f fd ps (spD X.K (cmM X.mg) mm F)) (hr : Room (j + 1) X.A) (hm : X.mg x = some (.ref C)) (hb : KBn X.K fd ps (n + 1) ks gU gV) (hrel : ∀ {G : Gam} {c : Cfg} {ds zs vs ws}, RpA G c ds vs → RpA G c zs ws → RpA G c (g ds zs) (gV vs ws))
    (ha : DA X (cmM X.mg) E (e :: es) dr) (hkw : DK X (cmM X.mg) E kws kk) (hg : Gl X x := by rfl)
    (hall : (backToKw pos (keywordEach kws X.env)).all (·.1.isSome) = true := by rfl) (hks : (backToKw pos (keywordEach kws X.env)).filterMap (·.1) = ks := by rfl) (hdb : (x == ("__debug__" : Str)) = false := by decide)
    (he : starEach (e :: es) X.env = (false, eval e X.env) :: starEach es X.env := by rfl) (hpl : ((backTo pos (starEach (e :: es) X.env)).any (·.1) || (backToKw pos (keywordEach kws X.env)).any (·.1.isNone)) = false := by rfl) :
    DE X (cmM X.mg) E (.Call (.Name x p) (e :: es) kws pos) (dMakeK k F mm n ks.length g dr kk) :=
  let ⟨_, a, b⟩ := ha.ex; let ⟨_, a2, b2⟩ := hkw.ex; ⟨_, pe_makeK M ok hr hg hm hb G.pass a a2 hall hks hdb he hpl, snd_makeK hC hrel b b2⟩
end

/-! ### refusals: raised, let through -/
section
variable {X : Cx} {E : XK} {pos : Pos} {k : String} {C : Addr}
/-- raise C("..") -/
def dRaise0 (k : String) : DSv := fun _ S => .err ⟨k, []⟩ S
theorem ds_raise0 {bmB : List Value} {B newId initId : String} {x m : Str} {j : Nat} {p p2 pos' : Pos} (F : ExcBaseFacts B newId initId bmB) (hC : X.mg (Str.ofString k) = some (.ref C)) (q : PySem.W.excIn X.K C bmB newId = true) (gC : X.mg x = some (.ref C)) (kC : PySem.W.keepIn X.K (.ref C) = true) (r : Raises X (.ref C)) (hc : X.calm = true)
    (tk : Takes X (fun cls d _ H => E cls d H)) (hg : Gl X x := by rfl) (hdb : (x == ("__debug__" : Str)) = false := by decide) : DS X (cmM X.mg) E (.Raise (some (.Call (.Name x p) [.Constant (.str m) j p2] [] pos)) none pos') (dRaise0 k) :=
  ⟨_, ps_raise hc tk (pmk_own F q gC kC r hg hdb), fun A c st σ Ds rel loc h => h (.ref C) none c rfl (.refl c) rel ⟨C, rfl, hC, .inl ⟨rfl, rfl⟩⟩⟩
/-- Base.__init__(self, "..") within an own exception's __init__ -/
theorem pe_bsinit {B : Addr} {b : Str} {p1 p2 : Pos} {e : Expr} {es : List Expr} {ta : TA} {pl : Sem Bool} (hg : Gl X b) (hm : X.mg b = some (.ref B)) (sp : PySem.W.specialIn X.K (.ref B) "__getattribute__" = some (some (.builtin "type.__getattribute__"))) (ti : PySem.W.typeIn X.K (.ref B) = some (.type "type")) (rd : PySem.W.readsIn X.K B (.type "type") = true)
    (vV : PySem.W.findCls X.K (.ref B) (.type "type") "__init__" = some (.val (.builtin "ValueError.__init__"))) (ha : PA X (e :: es) ta)
    (hc : eval (.Call (.Attribute (.Name b p1) "__init__" p2) (e :: es) [] pos) X.env = (do
      let ov ← eval (.Name b p1) X.env
      standAt p2.atName
      let (f, first) ← holding [ov] (getMethod ov "__init__" pl)
      callWith pos f first (backTo pos (starEach (e :: es) X.env)) (backToKw pos (keywordEach [] X.env))) := by rfl)
    (hdb : (b == ("__debug__" : Str)) = false := by decide) (he : starEach (e :: es) X.env = (false, eval e X.env) :: starEach es X.env := by rfl) (hpl : (backTo pos (starEach es X.env)).any (·.1) = false := by rfl) :
    PE X (.Call (.Attribute (.Name b p1) "__init__" p2) (e :: es) [] pos) (tVeI X.K ta) := by
  refine ⟨fun pins s σ H Q I h => ?_⟩
  refine PySem.W.methodCall_KW (ld_glob I hg hm ?_ hdb) hc
  obtain ⟨m, fr⟩ := I.fr
  refine PySem.W.method_of_cls fr I.ok.mod.kin sp ?_
  refine PySem.W.cls_val fr I.ok.mod.kin ti rd vV (by decide +kernel) ?_
  show wpAny _ _ (callWith pos (Value.builtin "ValueError.__init__") [] (backTo pos (starEach (e :: es) X.env)) []) _ _ _
  refine PyProof.Rows.callWith_method1 (thn (ha.run pos pins _ σ H _ (I.tok _) h) fun us s1 ⟨vs, H1, I1, r1, a, C, ws, ev, hl, T, ea, q⟩ => ?_) he hpl
  subst ev
  cases r1 with
  | @cons _ u0 _ ur ra rw' =>
    obtain rfl : u0 = Value.ref a := ra
    have hlen : ur.length ≤ sizeLine := by
      rw [← Paired.length rw', sizeLine_eq]
      omega
    exact oinit_ok T I1 ea hlen fun s' J => ⟨.non, H1, J, rfl, q⟩
end
/-- what such an __init__ promises -/
def spInit (K : PySem.W.Frag) (f : Str) : Sp := fun vs H Q _ => ∃ (a C : Addr) (y : V), vs = [.ref a, y] ∧ OexC K C ∧ PySem.W.findIn K (.ref C) f = some none ∧ H a = some (exo a C none) ∧
  ∀ dx, H dx = none → dx ≠ a → Q .non (upd (upd H dx (exd dx [(f, y)])) a (exo a C (some dx)))
section
variable {P : Program} {w : World} {K : PySem.W.Frag} {mg : Str → Option Value} {base : Heap} {qual : Str} {params : Arguments} {scope : Scope} {dvs : List V} {kws : List (Str × V)} {fI : Addr} {fd : FuncData}
theorem okInit {f b m : Str} {B : Addr} {j : Nat} {p1 p2 p3 p4 p5 q1 q2 q3 q4 q5 : Pos}
    (F : FunD K "__init__" qual params [.Expr (.Call (.Attribute (.Name b p1) "__init__" p2) [.Name "self" p3, .Constant (.str m) j p4] [] p5) q1, .Assign [.Attribute (.Name "self" q2) f q3] (.Name f q4) q5] scope dvs kws fI fd) (S : FnScope ["self", f] ["self", f] scope)
    (hm : mg b = some (.ref B)) (sp : PySem.W.specialIn K (.ref B) "__getattribute__" = some (some (.builtin "type.__getattribute__"))) (ti : PySem.W.typeIn K (.ref B) = some (.type "type")) (rd : PySem.W.readsIn K B (.type "type") = true)
    (vV : PySem.W.findCls K (.ref B) (.type "type") "__init__" = some (.val (.builtin "ValueError.__init__")))
    (hgb : ∀ (cdv : Value) (A : Around) (outer : List Env) (s : Shared) (H : Hp) (E : XK), Gl (cxOf (CX P w) P w K mg base ["self", f] qual scope fI cdv A outer s H E) b)
    (h0 : ∀ (cdv : Value) (A : Around) (outer : List Env) (s : Shared) (H : Hp) (E : XK), Vis (cxOf (CX P w) P w K mg base ["self", f] qual scope fI cdv A outer s H E).env.scope "self" ∧ Vis (cxOf (CX P w) P w K mg base ["self", f] qual scope fI cdv A outer s H E).env.scope f)
    (hcl : ∀ env, ∃ pl, eval (.Call (.Attribute (.Name b p1) "__init__" p2) [.Name "self" p3, .Constant (.str m) j p4] [] p5) env = (do
      let ov ← eval (.Name b p1) env
      standAt p2.atName
      let (f, first) ← holding [ov] (getMethod ov "__init__" pl)
      callWith p5 f first (backTo p5 (starEach [.Name "self" p3, .Constant (.str m) j p4] env)) (backToKw p5 (keywordEach [] env))))
    (hs1 : ∀ env, swapsWith (.Call (.Attribute (.Name b p1) "__init__" p2) [.Name "self" p3, .Constant (.str m) j p4] [] p5) none q1.line env = pure false)
    (hs2 : ∀ env, swapsWith (.Name f q4) (some (.Attribute (.Name "self" q2) f q3)) q5.line env = pure false)
    (hd1 : (f == ("__debug__" : Str)) = false := by decide) (hd2 : (f == ("__classdict__" : Str)) = false := by decide) (hdb : (b == ("__debug__" : Str)) = false := by decide) :
    FnOk P w K mg base (CX P w) 1 fI fd ["self", f] (spInit K f) := by
  refine F.ok S (fun vs H Q E ⟨a, C, y, e, _⟩ => by rw [e]; rfl) fun cdv A outer s H vs Q E hr hsp => ?_
  obtain ⟨a, C, y, rfl, T, hno, ha, post⟩ := hsp
  have hv := h0 cdv A outer s H E
  obtain ⟨pl, hpl⟩ := hcl (cxOf (CX P w) P w K mg base ["self", f] qual scope fI cdv A outer s H E).env
  refine ⟨_, pss_cons (ps_expr (pe_bsinit (pl := pl) (hgb cdv A outer s H E) hm sp ti rd vV (pa_cons (pv 0 rfl hv.1 (by decide) (by decide)) (pa_cons pe_str pa_nil)) hpl hdb) (hs1 _)) (pss_one (ps_ost (pv 0 rfl hv.1 (by decide) (by decide)) (pv 1 rfl hv.2 hd1 hd2) (hs2 _))), ?_⟩
  refine ⟨_, rfl, a, C, [.str m], rfl, by simp, T, ha, ?_⟩
  refine ⟨_, rfl, _, rfl, a, C, rfl, T, hno, .inl ⟨ha, fun dx hn ne => ?_⟩⟩
  exact post dx hn ne
end
theorem mk_endN {X : Cx} {pins : List (Addr × Obj)} {σ : L2.St} {H1 H2 : Hp} {Q : XK} {hp hp2 h2 : Heap} {g1 g2 : Array GenState} {d1 d2 : Drawn} {t1 t2 : Nat} {os1 os2 : OsState} {a C d : Addr} {fs : List (Str × V)} (T : Raises X (.ref C)) (I1 : Inv X pins σ H1 ⟨hp, g1, d1, t1, os1⟩)
    (ha : hp.objs.size ≤ a) (k : ∀ b o, hp.get? b = some o → hp2.get? b = some o) (un : Un (frs X.stack) [] (upd H1 a (exo a C none)) H2 hp2 h2) (hok : HOk X.prog X.w H2 h2) (ho : os2 = os1) (hb : AllBare g2)
    (ea : H2 a = some (exo a C (some d))) (ed : H2 d = some (exd d fs)) (hd1 : H1 d = none) (q : Q (.ref C) (some d) (upd (del H2 a) d (.xd fs))) : L2N.MkP X pins σ Q (.ref a) ⟨h2, g2, d2, t2, os2⟩ := by
  obtain ⟨t0, G, J, kG, ge, hoe, na⟩ := mk_end0 (d2 := d2) (t2 := t2) I1 ha k un hok ho hb ea ed hd1
  exact ⟨a, _, _, ⟨G, g2, d2, t2, os2⟩, _, .ref C, some d, rfl, J, kG, ge, hoe, ⟨rfl, rfl, fun vs e => by cases e; rfl⟩, rfl, rfl, na, rfl, hb, T, q⟩
def OexQ (C a : Addr) (H1 : Hp) (Q : XK) : VK := fun v H2 => v = .non ∧ ∃ (d : Addr) (fs : List (Str × V)), H2 a = some (exo a C (some d)) ∧ H2 d = some (exd d fs) ∧ H1 d = none ∧ Q (.ref C) (some d) (upd (del H2 a) d (.xd fs))
/-- an own exception is made of what was evaluated (follows HandS.ExcInit's pmk_oex) -/
theorem make_oex {X : Cx} {CX : CXT} {C fI : Addr} {k : Nat} {fd : FuncData} {ps : List Str} {sp : Sp} {ds : List Value} {dvs : List V} (T : OexC X.K C) (iC : PySem.W.findIn X.K (.ref C) "__init__" = some (some (.ref fI))) (tI : PySem.W.typeIn X.K (.ref fI) = some (.type "function"))
    (F1 : FnOk X.prog X.w X.K X.mg X.base CX k fI fd ps sp) (hr : Room (k + 1) X.A) (hb : Binds X.K fd ps ds) (hd : Vals dvs ds) (hx : Passes CX X (fun _ _ _ => False))
    {pins : List (Addr × Obj)} {σ : L2.St} {H1 : Hp} {Q : XK} {s1 : Shared} {us : List Value} {vs : List V} (I1 : Inv X pins σ H1 s1) (r1 : Vals vs us) (hz : vs.length ≤ 1000) (q1 : ∀ a, H1 a = none → sp (.ref a :: (vs ++ dvs)) (upd H1 a (exo a C none)) (OexQ C a H1 Q) (fun _ _ _ => False)) :
    wpAny (model X.prog X.w) X.A (call (.ref C) us) (L2N.MkP X pins σ Q) X.xe s1 := by
  obtain ⟨nm, q, N, bs, bm, sn, sub, ab, col, dd, k0, k1, k2, k3, k5, hC, hbm⟩ := T.cls
  obtain ⟨hp, g, dr, tk, os⟩ := s1
  have hsz : hp.objs.size ≤ hp.objs.size + 1 := Nat.le_succ _
  have hn : H1 (hp.objs.size + 1) = none := I1.hok.fresh hsz
  have hq := q1 (hp.objs.size + 1) hn
  have kk : ∀ b o, hp.get? b = some o → ((hp.push (PySem.W.kdv_tup us)).push (PySem.HandSPX.excO C hp.objs.size)).get? b = some o := fun b o e => Heap.get?_push_of_some _ (Heap.get?_push_of_some _ e)
  have hget : ((hp.push (PySem.W.kdv_tup us)).push (PySem.HandSPX.excO C hp.objs.size)).get? (hp.objs.size + 1) = some (PySem.HandSPX.excO C hp.objs.size) := by heap_get
  have I2 : Inv X pins σ (upd H1 (hp.objs.size + 1) (exo (hp.objs.size + 1) C none)) ⟨(hp.push (PySem.W.kdv_tup us)).push (PySem.HandSPX.excO C hp.objs.size), g, dr, tk, os⟩ :=
    I1.laid (t' := tk) (a := hp.objs.size + 1) (o := exo (hp.objs.size + 1) C none) (h' := (hp.push (PySem.W.kdv_tup us)).push (PySem.HandSPX.excO C hp.objs.size)) kk hsz (exo_ok hget)
  have r2 : Vals (V.ref (hp.objs.size + 1) :: (vs ++ dvs)) (Value.ref (hp.objs.size + 1) :: (us ++ ds)) := .cons rfl (r1.append hd)
  have hl : (Value.ref (hp.objs.size + 1) :: us ++ ds).length = ps.length := by
    have e := r2.length
    rw [F1.len _ _ _ _ hq] at e
    exact e.symm
  have hus : us.length ≤ sizeLine := by
    rw [← Paired.length r1, sizeLine_eq]
    omega
  refine wpAny_call (PySem.HandSPX.call_own F.excBase_ValueError (fun Y => PySem.HandSPX.refsVE_contains Y bm hbm) (I1.kIn _ _ hC) (PySem.W.looks_findIn I1.kIn iC) (fun self => PySem.W.bind_fn I1.kIn self tI) hus
    (codeAny_mono (F1.run _ X.stack _ _ ⟨Value.ref (hp.objs.size + 1) :: us, []⟩ (Value.ref (hp.objs.size + 1) :: (us ++ ds)) _ _ (fun _ _ _ => False) (hr.make C us []) (I2.env0.make C us []) (hb _ (Value.ref (hp.objs.size + 1) :: us) I2.kIn hl) r2 hq) fun r s' hq' => ?_))
  cases r with
  | error er => exact hx pins σ _ _ er s' I2 hq'
  | ok fl =>
    cases fl with
    | ret u =>
      obtain ⟨v, H2, os2, bare2, un2, hok2, rv, ev, d, fs, ea, ed, hd1, q2⟩ := hq'
      subst ev
      obtain ⟨h2, g2, d2, t2, os'⟩ := s'
      exact ⟨rv, mk_endN (raises_own T.exC T.tyC) I1 hsz kk un2 hok2 os2 bare2 ea ed hd1 q2⟩
    | next => exact False.elim hq'
    | brk => exact False.elim hq'
    | cont => exact False.elim hq'
theorem pmk_oex {X : Cx} {CX : CXT} {x : Str} {C fI : Addr} {k : Nat} {fd : FuncData} {ps : List Str} {sp : Sp} {ds : List Value} {dvs : List V} {p pos : Pos} {e : Expr} {es : List Expr} {ta : TA} (T : OexC X.K C) (iC : PySem.W.findIn X.K (.ref C) "__init__" = some (some (.ref fI))) (tI : PySem.W.typeIn X.K (.ref fI) = some (.type "function"))
    (F1 : FnOk X.prog X.w X.K X.mg X.base CX k fI fd ps sp) (hr : Room (k + 1) X.A) (hb : Binds X.K fd ps ds) (hd : Vals dvs ds) (hx : Passes CX X (fun _ _ _ => False)) (hg : Gl X x) (hm : X.mg x = some (.ref C)) (ha : PA X (e :: es) ta)
    (hdb : (x == ("__debug__" : Str)) = false := by decide) (he : starEach (e :: es) X.env = (false, eval e X.env) :: starEach es X.env := by rfl) (hpl : (backTo pos (starEach es X.env)).any (·.1) = false := by rfl) :
    L2N.PMk X (.Call (.Name x p) (e :: es) [] pos) (tMkO C sp dvs ta) := by
  intro pins s σ H Q I h
  refine wpAny_Call_Name_kw (ld_glob I hg hm ?_ hdb)
  refine PySem.W.callWith_K (h₀ := X.base) I.ok.mod.kin T.kC (thn (ha.run pos pins s σ H _ I h) fun us s1 ⟨vs, H1, I1, r1, hz, q1⟩ => ⟨I1.kIn, ?_⟩) he hpl
  exact make_oex T iC tI F1 hr hb hd hx I1 r1 hz q1
theorem passF {X : Cx} : Passes (CX X.prog X.w) X (fun _ _ _ => False) := passL
theorem del_upd {H : Hp} {a dx : Addr} {u o1 o2 o3 : HO} (ha : H a = none) (ne : dx ≠ a) : upd (del (upd (upd (upd H a o1) dx o2) a o3) a) dx u = upd H dx u := by
  funext b
  by_cases h : b = dx
  · rw [h, upd_same, upd_same]
  · rw [upd_ne h, upd_ne h]
    by_cases h2 : b = a
    · rw [h2, del_same, ha]
    · rw [del_ne h2, upd_ne h2, upd_ne h, upd_ne h2]
section
variable {X : Cx} {E : XK} {pos : Pos} {k : String} {C : Addr}
/-- raise C(e), C's own __init__ keeps e as f -/
def dRaise1 (k : String) (f : Str) (r : DAv) : DSv := fun st S => (r st S).bind fun ds S1 => match ds with
  | [y] => .err ⟨k, [(f, y)]⟩ S1
  | _ => .no
theorem ds_raise1 {x f : Str} {fI : Addr} {fd : FuncData} {p p1 pos' : Pos} {e : Expr} {dr : DAv} {z : Nat} (G : GX X E z) (hC : X.mg (Str.ofString k) = some (.ref C)) (T : OexC X.K C) (hno : PySem.W.findIn X.K (.ref C) f = some none) (iC : PySem.W.findIn X.K (.ref C) "__init__" = some (some (.ref fI))) (tI : PySem.W.typeIn X.K (.ref fI) = some (.type "function"))
    (F1 : FnOk X.prog X.w X.K X.mg X.base (CX X.prog X.w) 1 fI fd ["self", f] (spInit X.K f)) (hr : Room 2 X.A) (hb : Binds X.K fd ["self", f] []) (hm : X.mg x = some (.ref C)) (hc : X.calm = true) (tk : Takes X (fun cls d _ H => E cls d H)) (ha : DA X (cmM X.mg) E [e] dr) (hg : Gl X x := by rfl)
    (hdb : (x == ("__debug__" : Str)) = false := by decide) (he : starEach (e :: []) X.env = (false, eval e X.env) :: starEach [] X.env := by rfl) (hpl : (backTo p1 (starEach [] X.env)).any (·.1) = false := by rfl) : DS X (cmM X.mg) E (.Raise (some (.Call (.Name x p) [e] [] p1)) none pos') (dRaise1 k f dr) := by
  obtain ⟨t, pa, s⟩ := ha.ex
  refine ⟨_, ps_raise hc tk (pmk_oex T iC tI F1 hr hb .nil passF hg hm pa hdb he hpl), fun A c st σ Ds rel loc h => s A c st σ _ rel loc (Post.seqS h fun ds vs c1 q1 x1 rel1 rd h1 => ?_)⟩
  split at h1
  · rename_i y
    obtain ⟨v, r, rfl, rv, hr2⟩ := rd
    cases hr2
    refine ⟨by simp, fun a ha => ⟨a, C, v, rfl, T, hno, upd_same, fun dx hn ne => ⟨rfl, dx, [(f, v)], upd_same, ?_, ?_, ?_⟩⟩⟩
    · rw [upd_ne ne, upd_same]
    · rw [upd_ne ne] at hn
      exact hn
    · rw [upd_ne ne] at hn
      have e1 : upd (del (upd (upd (upd c1.H a (exo a C none)) dx (exd dx [(f, v)])) a (exo a C (some dx))) a) dx (.xd [(f, v)]) = upd c1.H dx (.xd [(f, v)]) := del_upd ha ne
      have x2 : Ext c1 ⟨c1.φ, c1.S, upd c1.H dx (.xd [(f, v)])⟩ := Ext.lay rel1 hn
      exact e1 ▸ h1 (.ref C) (some dx) ⟨c1.φ, c1.S, upd c1.H dx (.xd [(f, v)])⟩ rfl x2 (rel1.lay hn) ⟨C, rfl, hC, .inr ⟨dx, [(f, v)], rfl, own_new rel1 hn, upd_same, .cons ⟨rfl, Rp.mono x2 _ _ rv⟩ .nil⟩⟩
  · exact h1.elim
end

/-! ### try: a call that may raise, caught -/
def CalmE (d : DEv) : Prop := ∀ st S, R.calm (d st S)
def CalmA (d : DAv) : Prop := ∀ st S, R.calm (d st S)
def CalmT (d : DTv) : Prop := ∀ st S, R.calm (d st S)
theorem calm_bind {α β : Type} {r : R α} {f : α → Store → R β} (h : R.calm r) (g : ∀ a S, R.calm (f a S)) : R.calm (r.bind f) := by
  cases r with
  | ok a S => exact g a S
  | err x S => exact h.elim
  | no => exact True.intro
theorem calm_var {i : Nat} : CalmE (dVar i) := fun st S => by
  unfold dVar
  split <;> exact True.intro
theorem calm_c {d : D} : CalmE (dC d) := fun _ _ => True.intro
theorem calm_op {f : D → D → Store → R D} {a b : DEv} (ne : NoErr f) (ha : CalmE a) (hb : CalmE b) : CalmE (dOp f a b) := fun st S => calm_bind (ha st S) fun x S1 => calm_bind (hb st S1) fun y S2 => ne x y S2
theorem calm_nil : CalmA dNil := fun _ _ => True.intro
theorem calm_cons {a : DEv} {r : DAv} (ha : CalmE a) (hr : CalmA r) : CalmA (dCons a r) := fun st S => calm_bind (ha st S) fun _ S1 => calm_bind (hr st S1) fun _ _ => True.intro
theorem calm_test {a : DEv} (ha : CalmE a) : CalmT (dTest a) := fun st S => calm_bind (ha st S) fun x S1 => by cases x <;> exact True.intro
section
variable {X : Cx} {E : XK} {pos : Pos} {k : String} {C : Addr} {cm : String → Addr → Prop}
theorem GX.tr {z : Nat} (G : GX X E z) {pn : List (Addr × Obj)} {xe : Value → Shared → Prop} (own : PassesOwn (model X.prog X.w) X.A X.env xe) : GX (X.tr pn xe) E0 z := ⟨G.calm, G.nd, G.room, passL, own⟩
abbrev EW (W : WX) (σ : L2.St) : XK := fun cls d H => W cls d σ H
def canonW (K : PySem.W.Frag) (cm : String → Addr → Prop) (W : WX) (d : DEv) : TE := fun σ H Q => ∃ (A : Addr → Prop) (c : Cfg) (st : DSt), c.H = H ∧ RelC ⟨K, cm, A⟩ c ∧ LocR ⟨K, cm, A⟩ c st σ ∧ Post ⟨K, cm, A⟩ (EW W σ) (Rp ⟨K, cm, A⟩) c Q (d st c.S)
structure DEW (X : Cx) (cm : String → Addr → Prop) (e : Expr) (d : DEv) : Prop where
  run : ∀ (W : WX) (pn : List (Addr × Obj)) (xe : Value → Shared → Prop), Takes (X.tr pn xe) W → PassesOwn (model X.prog X.w) X.A X.env xe → PE (X.tr pn xe) e (canonW X.K cm W d)
def canonS (K : PySem.W.Frag) (cm : String → Addr → Prop) (W : WX) (d : DSv) : TS := fun Ds σ H => ∃ (A : Addr → Prop) (c : Cfg) (st : DSt), c.H = H ∧ RelC ⟨K, cm, A⟩ c ∧ LocR ⟨K, cm, A⟩ c st σ ∧ PostS ⟨K, cm, A⟩ (EW W σ) c Ds (d st c.S)
structure DB (X : Cx) (cm : String → Addr → Prop) (body : List Stmt) (d : DSv) : Prop where
  run : ∀ (W : WX) (pn : List (Addr × Obj)) (xe : Value → Shared → Prop), Takes (X.tr pn xe) W → PassesOwn (model X.prog X.w) X.A X.env xe → PSs (X.tr pn xe) body (canonS X.K cm W d)
/-- the callee runs, what it raises is wished for at the slots -/
theorem run_fnSd {CX : CXT} {j : Nat} {f : Addr} {fd : FuncData} {ps : List Str} {sp : Sp} {dvs : List V} {ds : List Value} {E : L2.St → XK} {pins : List (Addr × Obj)} {σ : L2.St} {H : Hp} {s : Shared} {Q : VK} {us : List Value} {vs : List V} (F : FnOk X.prog X.w X.K X.mg X.base CX j f fd ps sp) (hr : Room j X.A) (hb : Binds X.K fd ps ds) (hd : Vals dvs ds) (hx : PassesAt CX X σ (E σ))
    (I : Inv X pins σ H s) (r : Vals vs us) (h : sp (vs ++ dvs) H Q (E σ)) : wpAny (model X.prog X.w) X.A (call (.ref f) us) (EP X pins σ Q) X.xe s := by
  have r2 : Vals (vs ++ dvs) (us ++ ds) := r.append hd
  have hl : (us ++ ds).length = ps.length := by rw [← r2.length]; exact F.len _ _ _ _ h
  refine wpAny_call (codeAny_mono (F.run X.A X.stack s H ⟨us, []⟩ (us ++ ds) (vs ++ dvs) Q (E σ) hr I.env0 (hb s us I.kIn hl) r2 h) fun r s' hq => ?_)
  cases r with
  | error e => exact hx pins H s e s' I hq
  | ok fl =>
    cases fl with
    | ret u => exact I.after hq
    | next => exact False.elim hq
    | brk => exact False.elim hq
    | cont => exact False.elim hq
variable {j n : Nat} {f : Addr} {fd : FuncData} {ps : List Str} {F : List D → Store → R D} {m x : Str} {p apos : Pos} {o e : Expr} {es : List Expr} {da : DEv} {dr : DAv} {dd : List D} {dvs : List V} {dvl : List Value}
def tMethW (C : Addr) (m : Str) (sp : Sp) (dvs : List V) (E : L2.St → XK) (ta : TE) (t : TA) : TE := fun σ H Q => ta σ H fun x H1 => ∃ a dx fs, x = .ref a ∧ H1 a = some (.ins C dx fs) ∧ fs.lookup m = none ∧ t σ H1 fun vs H2 => sp (x :: (vs ++ dvs)) H2 Q (E σ)
def tCallW (sp : Sp) (dvs : List V) (E : L2.St → XK) (t : TA) : TE := fun σ H Q => t σ H fun vs H1 => sp (vs ++ dvs) H1 Q (E σ)
theorem pe_methW {CX : CXT} {pl : Sem Bool} {sp : Sp} {E : L2.St → XK} {ta : TE} {t : TA} (he : PE X o ta) (c : Cls X.K C) (hm : Meth X.K C m f) (F : FnOk X.prog X.w X.K X.mg X.base CX j f fd ps sp) (hr : Room j X.A) (hb : Binds X.K fd ps dvl) (hd : Vals dvs dvl) (hx : ∀ σ, PassesAt CX X σ (E σ)) (ha : PA X (e :: es) t)
    (hst : starEach (e :: es) X.env = (false, eval e X.env) :: starEach es X.env := by rfl) (hpl : (backTo pos (starEach es X.env)).any (·.1) = false := by rfl)
    (ht : eval (.Call (.Attribute o m apos) (e :: es) [] pos) X.env = (do
      let ov ← eval o X.env
      standAt apos.atName
      let (f, first) ← holding [ov] (getMethod ov m pl)
      callWith pos f first (backTo pos (starEach (e :: es) X.env)) (backToKw pos (keywordEach [] X.env))) := by rfl) :
    PE X (.Call (.Attribute o m apos) (e :: es) [] pos) (tMethW C m sp dvs E ta t) := by
  refine ⟨fun pins s σ H Q I h => ?_⟩
  refine PySem.W.methodCall_KW (pl := pl) (thn (he.run pins s σ H _ I h) fun u s1 ⟨x, H1, I1, rx, a, dx, fs, ex, ea, l, q⟩ => ?_) ht
  subst ex
  obtain rfl : u = Value.ref a := rx
  refine getmeth_ok I1 ea c hm l ?_
  refine PySem.W.callWith_K (first := [.ref a]) (h₀ := X.base) I.ok.mod.kin hm.kp (thn (ha.run pos pins s1 σ H1 _ I1 q) fun us s2 ⟨vs, H2, I2, r, q2⟩ => ⟨I2.kIn, ?_⟩) hst hpl
  exact run_fnSd (us := .ref a :: us) (vs := .ref a :: vs) F hr hb hd (hx σ) I2 (.cons rfl r) q2
theorem pe_callW {CX : CXT} {sp : Sp} {E : L2.St → XK} {t : TA} (F : FnOk X.prog X.w X.K X.mg X.base CX j f fd ps sp) (hr : Room j X.A) (hg : Gl X x) (hm : X.mg x = some (.ref f)) (hk : PySem.W.keepIn X.K (.ref f) = true) (hb : Binds X.K fd ps dvl) (hd : Vals dvs dvl) (hx : ∀ σ, PassesAt CX X σ (E σ))
    (ha : PA X (e :: es) t) (hdb : (x == ("__debug__" : Str)) = false := by decide) (he : starEach (e :: es) X.env = (false, eval e X.env) :: starEach es X.env := by rfl) (hpl : (backTo pos (starEach es X.env)).any (·.1) = false := by rfl) :
    PE X (.Call (.Name x p) (e :: es) [] pos) (tCallW sp dvs E t) := by
  refine ⟨fun pins s σ H Q I h => ?_⟩
  refine wpAny_Call_Name_kw (ld_glob I hg hm ?_ hdb)
  refine PySem.W.callWith_K (h₀ := X.base) I.ok.mod.kin hk (thn (ha.run pos pins s σ H _ I h) fun us s1 ⟨vs, H1, I1, r, q⟩ => ⟨I1.kIn, ?_⟩) he hpl
  exact run_fnSd F hr hb hd (hx σ) I1 r q
theorem dew_meth {pl : Sem Bool} {z : Nat} (G : GX X E z) (hC : X.mg (Str.ofString k) = some (.ref C)) (cl : Cls X.K C) (hm : Meth X.K C m f) (ok : FnOk X.prog X.w X.K X.mg X.base (CX X.prog X.w) j f fd ps (spD X.K (cmM X.mg) n F)) (hr : Room j X.A) (hb : Binds X.K fd ps dvl) (hv : Vals dvs dvl) (hd : ∀ G c, RpA G c dd dvs)
    (ho : ∀ pn xe, GX (X.tr pn xe) E0 z → DE (X.tr pn xe) (cmM X.mg) E0 o da) (co : CalmE da) (ha : ∀ pn xe, GX (X.tr pn xe) E0 z → DA (X.tr pn xe) (cmM X.mg) E0 (e :: es) dr) (ca : CalmA dr)
    (hst : starEach (e :: es) X.env = (false, eval e X.env) :: starEach es X.env := by rfl) (hpl : (backTo pos (starEach es X.env)).any (·.1) = false := by rfl)
    (ht : eval (.Call (.Attribute o m apos) (e :: es) [] pos) X.env = (do
      let ov ← eval o X.env
      standAt apos.atName
      let (f, first) ← holding [ov] (getMethod ov m pl)
      callWith pos f first (backTo pos (starEach (e :: es) X.env)) (backToKw pos (keywordEach [] X.env))) := by rfl) : DEW X (cmM X.mg) (.Call (.Attribute o m apos) (e :: es) [] pos) (dMth k m F n dd da dr) := by
  refine ⟨fun W pn xe tk own => ?_⟩
  obtain ⟨t, p1, s1⟩ := (ho pn xe (G.tr own)).ex
  obtain ⟨t', p2, s2⟩ := (ha pn xe (G.tr own)).ex
  have pe := pe_methW (X := X.tr pn xe) (E := WE W) (pl := pl) p1 cl hm ok hr hb hv (fun σ => passAt tk σ) p2 hst hpl ht
  refine ⟨fun pins s σ H Q I ⟨A, c, st, e0, rel, loc, post⟩ => ?_⟩
  subst e0
  refine pe.run pins s σ c.H Q I (s1 A c st σ _ rel loc ((Post.seq post fun x v c1 q1 x1 rel1 rx h1 => ?_).noerr (co st c.S)))
  split at h1
  · rename_i hi
    obtain ⟨a, dx, gs, ev, hH, hl⟩ := isIns_rep hC rel1 rx hi
    refine ⟨a, dx, gs, ev, hH, hl, s2 A c1 st σ _ rel1 (loc.mono x1) ((Post.seq h1 fun ds vs c2 q2 x2 rel2 rd h2 => ?_).noerr (ca st c1.S))⟩
    have rr : RpA ⟨X.K, cmM X.mg, A⟩ c2 (x :: (ds ++ dd)) (v :: (vs ++ dvs)) := RpA.cons (Rp.mono x2 x _ rx) (rd.append (hd ⟨X.K, cmM X.mg, A⟩ c2))
    split at h2
    · rename_i hn
      exact ⟨by rw [← rr.length]; exact hn, A, c2, _, rfl, rel2, rr, h2⟩
    · exact h2.elim
  · exact h1.elim
theorem dew_call {z : Nat} (G : GX X E z) (ok : FnOk X.prog X.w X.K X.mg X.base (CX X.prog X.w) j f fd ps (spD X.K cm n F)) (hr : Room j X.A) (hm : X.mg x = some (.ref f)) (hk : PySem.W.keepIn X.K (.ref f) = true) (hb : Binds X.K fd ps dvl) (hv : Vals dvs dvl) (hd : ∀ G c, RpA G c dd dvs)
    (ha : ∀ pn xe, GX (X.tr pn xe) E0 z → DA (X.tr pn xe) cm E0 (e :: es) dr) (ca : CalmA dr) (hg : Gl X x := by rfl)
    (hdb : (x == ("__debug__" : Str)) = false := by decide) (he : starEach (e :: es) X.env = (false, eval e X.env) :: starEach es X.env := by rfl) (hpl : (backTo pos (starEach es X.env)).any (·.1) = false := by rfl) : DEW X cm (.Call (.Name x p) (e :: es) [] pos) (dCallD F n dd dr) := by
  refine ⟨fun W pn xe tk own => ?_⟩
  obtain ⟨t', p2, s2⟩ := (ha pn xe (G.tr own)).ex
  have pe := pe_callW (X := X.tr pn xe) (E := WE W) (p := p) ok hr hg hm hk hb hv (fun σ => passAt tk σ) p2 hdb he hpl
  refine ⟨fun pins s σ H Q I ⟨A, c, st, e0, rel, loc, post⟩ => ?_⟩
  subst e0
  refine pe.run pins s σ c.H Q I (s2 A c st σ _ rel loc ((Post.seq post fun ds vs c2 q2 x2 rel2 rd h2 => ?_).noerr (ca st c.S)))
  have rr := rd.append (hd ⟨X.K, cm, A⟩ c2)
  split at h2
  · rename_i hn
    exact ⟨by rw [← rr.length]; exact hn, A, c2, _, rfl, rel2, rr, h2⟩
  · exact h2.elim
/-- the body of a try -/
theorem db_set {i : Nat} {x : Str} {e : Expr} {d : DEv} {pos' : Pos} {z : Nat} (G : GX X E z) (he : DEW X cm e d) (hi : X.N[i]? = some x := by rfl) (hx : Loc X.env.scope x := by first | exact Or.inl rfl | exact Or.inr rfl) (hs : swapsWith e (some (.Name x pos')) pos.line X.env = pure false := by rfl)
    (hf : X.fn x = true ∨ X.env.scope.names.lookup x = some .local := by first | exact .inl rfl | exact .inr rfl | assumption) : DB X cm [.Assign [.Name x pos'] e pos] (dSet i d) := by
  refine ⟨fun W pn xe tk own => ?_⟩
  have ps := pss_one (ps_set (X := X.tr pn xe) (pos := pos) G.nd hi hx (he.run W pn xe tk own) hs hf)
  refine ⟨fun pins s σ H Ds I ⟨A, c, st, e0, rel, loc, post⟩ => ?_⟩
  subst e0
  refine ps.run pins s σ c.H Ds I ⟨A, c, st, rfl, rel, loc, ?_⟩
  exact Post.seqS post fun x v c1 q1 x1 rel1 rx h1 => h1 _ c1 rfl (.refl c1) rel1 ((loc.mono x1).set rx)
theorem db_expr {e : Expr} {d : DEv} (he : DEW X cm e d) (hs : swapsWith e none pos.line X.env = pure false := by rfl) : DB X cm [.Expr e pos] (dDrop d) := by
  refine ⟨fun W pn xe tk own => ?_⟩
  have ps := pss_one (ps_expr (X := X.tr pn xe) (pos := pos) (he.run W pn xe tk own) hs)
  refine ⟨fun pins s σ H Ds I ⟨A, c, st, e0, rel, loc, post⟩ => ?_⟩
  subst e0
  refine ps.run pins s σ c.H Ds I ⟨A, c, st, rfl, rel, loc, ?_⟩
  exact Post.seqS post fun x v c1 q1 x1 rel1 rx h1 => h1 σ c1 rfl (.refl c1) rel1 (loc.mono x1)
theorem db_ret {e : Expr} {d : DEv} (he : DEW X cm e d) : DB X cm [.Return (some e) pos] (dRet d) := by
  refine ⟨fun W pn xe tk own => ?_⟩
  have ps := pss_one (ps_ret (X := X.tr pn xe) (pos := pos) (he.run W pn xe tk own))
  refine ⟨fun pins s σ H Ds I ⟨A, c, st, e0, rel, loc, post⟩ => ?_⟩
  subst e0
  refine ps.run pins s σ c.H Ds I ⟨A, c, st, rfl, rel, loc, ?_⟩
  exact Post.seqS post fun x v c1 q1 x1 rel1 rx h1 => h1 v c1 rfl (.refl c1) rel1 rx
theorem db_if {t : Expr} {aa bb : List Stmt} {x : DTv} {p q : DSv} {z : Nat} (G : GX X E z) (h : ∀ pn xe, GX (X.tr pn xe) E0 z → DT (X.tr pn xe) cm E0 t x) (ct : CalmT x) (h1 : DB X cm aa p) (h2 : DB X cm bb q) : DB X cm [.If t aa bb pos] (dIfS x p q) := by
  refine ⟨fun W pn xe tk own => ?_⟩
  obtain ⟨tt, a1, b1⟩ := (h pn xe (G.tr own)).ex
  have ps := pss_one (ps_if (X := X.tr pn xe) (pos := pos) a1 (h1.run W pn xe tk own) (h2.run W pn xe tk own))
  refine ⟨fun pins s σ H Ds I ⟨A, c, st, e0, rel, loc, post⟩ => ?_⟩
  subst e0
  refine ps.run pins s σ c.H Ds I (b1 A c st σ _ rel loc ((Post.seqS post fun k k' c1 q1 x1 rel1 rk h1 => ?_).noerr (ct st c.S)))
  cases rk
  cases k with
  | true => exact ⟨A, c1, st, rfl, rel1, loc.mono x1, h1⟩
  | false => exact ⟨A, c1, st, rfl, rel1, loc.mono x1, h1⟩
/-- the suite of an except -/
def canonU (K : PySem.W.Frag) (cm : String → Addr → Prop) (d : DSv) : TS := fun Ds σ H => ∃ (A : Addr → Prop) (c : Cfg) (st : DSt), c.H = H ∧ RelC ⟨K, cm, A⟩ c ∧ LocR ⟨K, cm, A⟩ c st σ ∧ PostS ⟨K, cm, A⟩ E0 c Ds (d st c.S)
theorem DSs.canonU {E : XK} {body : List Stmt} {d : DSv} (hE : E = E0) (h : DSs X cm E body d) : PSs X body (My.canonU X.K cm d) := by
  subst hE
  obtain ⟨t, p, s⟩ := h.ex
  refine ⟨fun pins st σ H Ds I ⟨A, c, ds, e, rel, loc, post⟩ => ?_⟩
  subst e
  exact p.run pins st σ c.H Ds I (s A c ds σ Ds rel loc post)
theorem ds_setN {i : Nat} {x : Str} {e : Expr} {d : DEv} {pos' : Pos} (nd : X.N.Nodup) (he : DE X cm E e d) (hi : X.N[i]? = some x := by rfl) (hx : Loc X.env.scope x := by first | exact Or.inl rfl | exact Or.inr rfl) (hs : swapsWith e (some (.Name x pos')) pos.line X.env = pure false := by rfl)
    (hf : X.fn x = true ∨ X.env.scope.names.lookup x = some .local := by first | exact .inl rfl | exact .inr rfl | assumption) : DS X cm E (.Assign [.Name x pos'] e pos) (dSet i d) := by
  obtain ⟨_, a, b⟩ := he.ex
  exact ⟨_, ps_set nd hi hx a hs hf, fun A c st σ Ds rel loc h => b A c st σ _ rel loc (Post.seqS h fun x v c1 _ x1 rel1 rx h1 => h1 _ c1 rfl (.refl c1) rel1 ((loc.mono x1).set rx))⟩
theorem PostS.noerrS {G : Gam} {E E' : XK} {c : Cfg} {Ds : Ends} {r : R Fl} (h : PostS G E c Ds r) (n : R.calm r) : PostS G E' c Ds r := by
  cases r with
  | no => exact h
  | err x S => exact n.elim
  | ok fl S => cases fl <;> exact h
def dTry (tab : List (String × Bool)) (db ds : DSv) : DSv := fun st S => match db st S with
  | .err x S' => match tab.lookup x.cls with
    | some true => ds st S'
    | some false => .err x S'
    | none => .no
  | r => r
theorem ds_try {x : Str} {c : Value} {body suite : List Stmt} {b₀ : Stmt} {np pos' : Pos} {tab : List (String × Bool)} {db ds : DSv} (hc : Names X x c) (tk : Takes X (fun cls d _ H => E cls d H)) (hb : DB X cm body db)
    (hsu : ∀ a pn, (X.suite a pn).N.Nodup → DSs (X.suite a pn) cm E0 (b₀ :: suite) ds) (nd : X.N.Nodup) (cs : ∀ st S, R.calm (ds st S)) (ht : ∀ n b, tab.lookup n = some b → ∀ C, cm n C → PySem.W.exmOne X.K (.ref C) c = some b)
    (hs : X.stack = X.env :: X.outer := by rfl) (hf : X.env.frame = some X.env.locals := by rfl) : DS X cm E (.Try body [.ExceptHandler (some (.Name x np)) none (b₀ :: suite) pos'] [] [] pos) (dTry tab db ds) := by
  refine ⟨_, L2N.ps_try_many hs hf tk (fun W pn xe tk' own => hb.run W pn xe tk' own) (.cons (ts := fun _ _ _ => My.canonU X.K cm ds) hc (fun a oe cls d pn _ _ => (hsu a _ nd).canonU rfl) .nil), fun A cc st σ Ds rel loc h => ⟨A, cc, st, rfl, rel, loc, ?_⟩⟩
  unfold dTry at h
  split at h
  · rename_i y S' e
    rw [e]
    intro C d c' eS xx rel' er
    obtain ⟨a, ec, hcm, rest⟩ := id er
    subst ec
    split at h
    · rename_i hb
      refine ⟨true, ht _ _ hb a hcm, fun _ a' _ => ⟨A, c', st, rfl, rel', loc.mono xx, ?_⟩, fun z => (Bool.noConfusion z)⟩
      rw [eS]
      exact (PostS.trans xx h).noerrS (cs st S')
    · rename_i hb
      exact ⟨false, ht _ _ hb a hcm, fun z => (Bool.noConfusion z), fun _ => h _ d c' eS xx rel' er⟩
    · exact h.elim
  · rename_i r hr
    cases e : db st cc.S with
    | no => rw [e] at h; exact h
    | err y S => exact absurd e (hr y S)
    | ok fl S =>
      rw [e] at h
      cases fl <;> exact h
end

/-! ### dicts given up, their keys walked; lists of ranges; remove -/
theorem RpK.keys {κ : Type} {G : Gam} {c : Cfg} {kvs : List (κ × D)} {kws : List (κ × V)} (r : RpK G c kvs kws) : kws.map (·.1) = kvs.map (·.1) := by
  unfold RpK at r
  induction r with
  | nil => rfl
  | cons p _ ih => rw [List.map_cons, List.map_cons, ih, p.1]
theorem RpK.vals {κ : Type} {G : Gam} {c : Cfg} {kvs : List (κ × D)} {kws : List (κ × V)} (r : RpK G c kvs kws) : RpA G c (kvs.map (·.2)) (kws.map (·.2)) := by
  unfold RpK at r
  induction r with
  | nil => rfl
  | cons p _ ih => exact ⟨_, _, rfl, p.2, ih⟩
def tFz (t : TE) : TE := fun σ H Q => t σ H fun v H' => ∃ a u, v = .ref a ∧ H' a = some u ∧ Mut (some u) ∧ ∀ od, Q v (upd H' a (.frz od u))
section
variable {X : Cx} {cm : String → Addr → Prop} {E : XK} {pos : Pos}
theorem pe_fz {e : Expr} {t : TE} (h : PE X e t) : PE X e (tFz t) := by
  refine ⟨fun pins s σ H Q I hw => thn (h.run pins s σ H _ I hw) fun v s1 ⟨x, H1, I1, r, a, u, ex, ha, mu, q⟩ => ?_⟩
  obtain ⟨od, I2⟩ := I1.lock ha mu
  exact ⟨x, _, I2, r, q od⟩
def frzD (x : D) (S : Store) : R D := match x with
  | .loc n => match S[n]? with
    | some (.dK kvs) => .ok (.dct (kvs.map (·.1)) (kvs.map (·.2))) (S.set n .gone)
    | _ => .no
  | _ => .no
def dFrzD (e : DEv) : DEv := fun st S => (e st S).bind fun x S1 => frzD x S1
theorem Ext.freeze {G : Gam} {c : Cfg} (r : RelC G c) {p : Addr} {n : Nat} {u : HO} {o : O} (hφ : c.φ[n]? = some p) (hS : c.S[n]? = some o) (ho : o ≠ .gone) : Ext c ⟨c.φ, c.S.set n .gone, upd c.H p u⟩ :=
  Ext.put r hφ hS ho
theorem RelC.freeze {G : Gam} {c : Cfg} (r : RelC G c) {p : Addr} {n : Nat} {u : HO} {o : O} (hφ : c.φ[n]? = some p) (hS : c.S[n]? = some o) (ho : o ≠ .gone) : RelC G ⟨c.φ, c.S.set n .gone, upd c.H p u⟩ :=
  r.put hφ hS ho True.intro
theorem notLive_gone {G : Gam} {c : Cfg} (r : RelC G c) {p : Addr} {n : Nat} {u : HO} {o : O} (hφ : c.φ[n]? = some p) (hS : c.S[n]? = some o) : ¬ Live ⟨c.φ, c.S.set n .gone, upd c.H p u⟩ p := fun ⟨m, o', h1, h2, h3⟩ => by
  have h1 : c.φ[m]? = some p := h1
  have e3 := phi_inj r h1 hφ
  subst e3
  have h2 : (c.S.set m O.gone)[m]? = some o' := h2
  rw [List.getElem?_set_self (List.getElem?_eq_some_iff.mp hS).1] at h2
  exact h3 (Option.some.inj h2).symm
theorem de_frzD {e : Expr} {d : DEv} (h : DE X cm E e d) : DE X cm E e (dFrzD d) := by
  obtain ⟨t, p, s⟩ := h.ex
  refine ⟨_, pe_fz p, fun A c st σ Q rel loc h => s A c st σ _ rel loc (Post.seq h fun x v c1 q1 x1 rel1 rx h1 => ?_)⟩
  unfold frzD at h1
  split at h1
  · rename_i n
    clear q1
    split at h1
    · rename_i kvs hS
      obtain ⟨a, e1, hφ, kws, hH, r⟩ := Rp.obj rel1 rx hS
      refine ⟨a, _, e1, hH, True.intro, fun od => ?_⟩
      have x2 : Ext c1 ⟨c1.φ, c1.S.set n .gone, upd c1.H a (.frz od (.dK kws))⟩ := Ext.freeze rel1 hφ hS (by simp)
      have rel2 : RelC ⟨X.K, cm, A⟩ ⟨c1.φ, c1.S.set n .gone, upd c1.H a (.frz od (.dK kws))⟩ := rel1.freeze hφ hS (by simp)
      refine h1 v ⟨c1.φ, c1.S.set n .gone, upd c1.H a (.frz od (.dK kws))⟩ rfl x2 rel2 ⟨a, od, kws, e1, fun z => z.elim (fun z => rel1.apart a ⟨n, _, hφ, hS, by simp⟩ z) (notLive_gone rel1 hφ hS), upd_same, r.keys, RpA.mono x2 _ _ r.vals⟩
    · exact h1.elim
  · exact h1.elim
/-- the keys of a dict given up, whole numbers all -/
def keyInts : List Key → Option (List Int)
  | [] => some []
  | .inl i :: ks => (keyInts ks).map (i :: ·)
  | .inr _ :: _ => none
theorem keyInts_is : ∀ {ks : List Key} {is : List Int}, keyInts ks = some is → ks = is.map Sum.inl
  | [], _, e => by cases e; rfl
  | .inl i :: ks, _, e => by
    obtain ⟨js, e1, e2⟩ := Option.map_eq_some_iff.mp e
    rw [← e2, keyInts_is e1]
    rfl
  | .inr _ :: _, _, e => by cases e
def keysI (x : D) (S : Store) : R Src := match x with
  | .dct ks _ => match keyInts ks with
    | some is => .ok ⟨is.map D.int, []⟩ S
    | none => .no
  | _ => .no
def diKeys (e : DEv) : DIv := fun st S => (e st S).bind fun x S1 => keysI x S1
theorem di_keys {tg e : Expr} {d : DEv} (h : DE X cm E e d) : DI X cm E tg e (diKeys d) := by
  obtain ⟨t, p, s⟩ := h.ex
  refine ⟨_, pi_keys p, fun A c st σ Q rel loc h => s A c st σ _ rel loc (Post.seq h fun x v c1 q1 x1 rel1 rx h1 => ?_)⟩
  unfold keysI at h1
  split at h1
  · rename_i ks ds
    clear q1
    split at h1
    · rename_i is hk
      obtain ⟨a, o, kws, e1, na, hH, ek, _⟩ := rx
      refine ⟨a, o, e1, .inl ⟨kws, hH, h1.here rel1 ⟨fun B hB c2 x2 rel2 _ i => ?_, held_nil⟩⟩⟩
      have h2 := (x2.keep a _ (Own.not na) hH).1
      have kl : kws.length = is.length := by
        have := congrArg List.length (ek.trans (keyInts_is hk))
        rwa [List.length_map, List.length_map] at this
      refine ⟨fun y hy => ?_, fun hl => ⟨h2, by rw [kl]; rw [List.length_map] at hl; exact hl⟩⟩
      have hy : (is.map D.int)[i]? = some y := hy
      rw [List.getElem?_map] at hy
      obtain ⟨j, hj, rfl⟩ := Option.map_eq_some_iff.mp hy
      refine ⟨⟨h2, by rw [kl]; exact (List.getElem?_eq_some_iff.mp hj).1⟩, fun u H' hu => ?_⟩
      obtain ⟨e3, k, w, e4, e5⟩ := hu
      refine ⟨c2, e3.symm, rfl, .refl c2, rel2, ?_⟩
      have e6 : (kws.map (·.1))[i]? = some k := by rw [List.getElem?_map, e4]; rfl
      rw [ek, keyInts_is hk, List.getElem?_map, hj] at e6
      cases e6
      exact e5
    · exact h1.elim
  · exact h1.elim
/-- list(d), sorted(d) of dicts by whole numbers -/
def keysOfD (S : Store) (x : D) : Option (List Int) := match x with
  | .dct ks _ => keyInts ks
  | .loc n => match S[n]? with
    | some (.dK kvs) => keyInts (kvs.map (·.1))
    | _ => none
  | _ => none
theorem keysOfD_rep {G : Gam} {c : Cfg} {d : D} {v : V} {is : List Int} (rel : RelC G c) (r : Rp G c d v) (e : keysOfD c.S d = some is) : ∃ a kws, v = .ref a ∧ Rd c.H a (.dK kws) ∧ kws.map (·.1) = is.map Sum.inl := by
  cases d with
  | dct ks ds =>
    obtain ⟨a, o, kws, e1, _, h, ek, _⟩ := r
    exact ⟨a, kws, e1, .inr ⟨o, h⟩, ek.trans (keyInts_is e)⟩
  | loc n =>
    replace e : (match c.S[n]? with
      | some (.dK kvs) => keyInts (kvs.map (·.1))
      | _ => none) = some is := e
    split at e
    · rename_i kvs hS
      obtain ⟨a, e1, _, kws, hH, r⟩ := Rp.obj rel r hS
      exact ⟨a, kws, e1, .inl hH, r.keys.trans (keyInts_is e)⟩
    · cases e
  | _ => cases e
theorem ints_rep {G : Gam} {c : Cfg} : ∀ is : List Int, RpA G c (is.map D.int) (is.map V.int)
  | [] => rfl
  | _ :: is => ⟨_, _, rfl, rfl, ints_rep is⟩
def listKM (ds : List D) (S : Store) : R D := match ds with
  | [d] => match keysOfD S d with
    | some is => .ok (.loc S.length) (S ++ [.lst (is.map D.int)])
    | none => .no
  | _ => .no
theorem listKM_s {K : PySem.W.Frag} : CallS K cm (fun xs H Q => ∃ (a : Addr) (kvs : List (Key × V)), xs = [.ref a] ∧ Rd H a (.dK kvs) ∧ ∀ p, H p = none → Q (.ref p) (upd H p (.lst (kvs.map fun kv => kV kv.1)))) listKM := fun A c ds vs Q rel rd h => by
  unfold listKM at h
  split at h
  · rename_i d
    obtain ⟨v, e, r⟩ := RpA.one rd
    split at h
    · rename_i is hi
      obtain ⟨a, kws, e1, hd, hk⟩ := keysOfD_rep rel r hi
      refine ⟨a, kws, by rw [e, e1], hd, fun p hp => ?_⟩
      have ev : (kws.map fun kv => kV kv.1) = is.map V.int := by
        have := congrArg (List.map kV) hk
        rw [List.map_map, List.map_map] at this
        exact this
      rw [ev]
      have x2 : Ext c ⟨c.φ ++ [p], c.S ++ [.lst (is.map D.int)], upd c.H p (.lst (is.map V.int))⟩ := Ext.push rel hp
      exact h _ ⟨c.φ ++ [p], c.S ++ [.lst (is.map D.int)], upd c.H p (.lst (is.map V.int))⟩ rfl x2 (rel.push (o := .lst (is.map D.int)) hp (notA_new rel hp) ⟨_, upd_same, ints_rep is⟩) ⟨p, rfl, by show (c.φ ++ [p])[c.S.length]? = _; rw [← rel.len]; simp⟩
    · exact h.elim
  · exact h.elim
theorem listKM_n : NoErrA listKM := fun ds S => by
  unfold listKM
  split
  · split <;> exact True.intro
  · exact True.intro
def sortDI (ds : List D) (S : Store) : R D := match ds with
  | [d] => match keysOfD S d with
    | some is => if is.length < 64 then .ok (.lst ((sortI is).map D.int)) S else .no
    | none => .no
  | _ => .no
theorem sortDI_s {K : PySem.W.Frag} : CallS K cm (fun xs H Q => ∃ (a : Addr) (kvs : List (Key × V)) (ks : List Int), xs = [.ref a] ∧ Rd H a (.dK kvs) ∧ kvs.map (·.1) = ks.map Sum.inl ∧ ks.length < 64 ∧
    ∀ (ys : List Int) (p : Addr), ys.Perm ks → ys.Pairwise (· ≤ ·) → H p = none → Q (.ref p) (upd H p (.lst (ys.map V.int)))) sortDI := fun A c ds vs Q rel rd h => by
  unfold sortDI at h
  split at h
  · rename_i d
    obtain ⟨v, e, r⟩ := RpA.one rd
    split at h
    · rename_i is hi
      obtain ⟨a, kws, e1, hd, hk⟩ := keysOfD_rep rel r hi
      split at h
      · rename_i hl
        refine ⟨a, kws, is, by rw [e, e1], hd, hk, hl, fun ys p h1 h2 hp => ?_⟩
        rw [sortI_eq h1 h2]
        exact h.newL rel (ints_rep _) p hp
      · exact h.elim
    · exact h.elim
  · exact h.elim
theorem sortDI_n : NoErrA sortDI := fun ds S => by
  unfold sortDI
  split
  · split
    · split <;> exact True.intro
    · exact True.intro
  · exact True.intro
/-- xs.remove(k) -/
def remV (x : D) (ds : List D) (S : Store) : R D := match x, ds with
  | .loc n, [.int k] => match S[n]? with
    | some (.lst xs) => match intsOf xs with
      | some is => if k ∈ is then .ok .non (S.set n (.lst ((is.erase k).map D.int))) else .no
      | none => .no
    | _ => .no
  | _, _ => .no
theorem erase_first {k : Int} : ∀ {is : List Int}, k ∈ is → ∃ j, is[j]? = some k ∧ (∀ m : Nat, m < j → is[m]? ≠ some k) ∧ is.erase k = is.eraseIdx j
  | [], h => by cases h
  | i :: is, h => by
    by_cases e : i = k
    · subst e
      exact ⟨0, rfl, fun m hm => absurd hm (Nat.not_lt_zero _), by rw [List.erase_cons_head]; rfl⟩
    · have h : k ∈ is := (List.mem_cons.mp h).resolve_left fun z => e z.symm
      obtain ⟨j, h1, h2, h3⟩ := erase_first h
      refine ⟨j + 1, h1, fun m hm => ?_, by rw [List.erase_cons_tail (by simpa using e), h3]; rfl⟩
      cases m with
      | zero => exact fun z => e (Option.some.inj z)
      | succ m => exact h2 m (by omega)
theorem remV_s {K : PySem.W.Frag} : MtS K cm rRemI remV := fun A c x v ds vs Q rel rx rd h => by
  unfold remV at h
  split at h
  · rename_i n k
    split at h
    · rename_i xs hS
      split at h
      · rename_i is hi
        split at h
        · rename_i hk
          obtain ⟨a, e1, hφ, ws, hH, r⟩ := Rp.obj rel rx hS
          obtain ⟨w, e2, rk⟩ := RpA.one rd
          have ew := intsOf_rep r hi
          subst ew
          obtain ⟨j, h1, h2, h3⟩ := erase_first hk
          refine ⟨a, is, k, j, e1, by rw [e2, show w = .int k from rk], hH, h1, h2, ?_⟩
          rw [h3] at h
          have x2 : Ext c ⟨c.φ, c.S.set n (.lst ((is.eraseIdx j).map D.int)), upd c.H a (.lst ((is.eraseIdx j).map V.int))⟩ := Ext.put rel hφ hS (by simp)
          exact h .non ⟨c.φ, c.S.set n (.lst ((is.eraseIdx j).map D.int)), upd c.H a (.lst ((is.eraseIdx j).map V.int))⟩ rfl x2 (rel.put (o' := .lst ((is.eraseIdx j).map D.int)) hφ hS (by simp) ⟨_, upd_same, ints_rep _⟩) rfl
        · exact h.elim
      · exact h.elim
    · exact h.elim
  · exact h.elim
theorem remV_n : NoErrM remV := fun x ds S => by
  unfold remV
  split
  · split
    · split
      · split <;> exact True.intro
      · exact True.intro
    · exact True.intro
  · exact True.intro
/-- list(range(n)) -/
def listRg (x : D) (S : Store) : R D := match x with
  | .int n => if 0 ≤ n ∧ n ≤ 1000 then .ok (.loc S.length) (S ++ [.lst (rangeD 0 n.toNat)]) else .no
  | _ => .no
theorem de_listRg {a : Expr} {d : DEv} {p1 p2 q1 q2 : Pos} {z : Nat} (G : GX X E z) (g1 : Gl X "list") (m1 : X.mg "list" = none) (g2 : Gl X "range") (m2 : X.mg "range" = none) (h : DE X cm E a d)
    (na : starEach [a] X.env = (false, eval a X.env) :: starEach [] X.env := by rfl) (nb : starEach [.Call (.Name "range" p1) [a] [] q1] X.env = (false, eval (.Call (.Name "range" p1) [a] [] q1) X.env) :: starEach [] X.env := by rfl) :
    DE X cm E (.Call (.Name "list" p2) [.Call (.Name "range" p1) [a] [] q1] [] q2) (dUn listRg d) := by
  obtain ⟨t, p, s⟩ := h.ex
  refine ⟨_, pe_listRg G.calm g1 m1 (prg_1 g2 m2 p na) nb, fun A c st σ Q rel loc h => s A c st σ _ rel loc (Post.seq h fun x v c1 q1 x1 rel1 rx h1 => ?_)⟩
  unfold listRg at h1
  split at h1
  · rename_i n
    clear q1
    split at h1
    · rename_i hn
      refine ⟨n, rx, RgOk.of_le (Int.le_refl _) (by omega) (by omega) hn.1, fun q hq => ?_⟩
      have x2 : Ext c1 ⟨c1.φ ++ [q], c1.S ++ [.lst (rangeD 0 n.toNat)], upd c1.H q (.lst (rgV 0 n))⟩ := Ext.push rel1 hq
      have rr : ∀ {G : Gam} {c : Cfg}, RpA G c (rangeD 0 n.toNat) (rgV 0 n) := fun {G c} => by
        unfold rangeD rgV
        rw [Int.sub_zero]
        generalize List.range n.toNat = l
        induction l with
        | nil => rfl
        | cons a l ih => exact ⟨_, _, rfl, rfl, ih⟩
      exact h1 _ ⟨c1.φ ++ [q], c1.S ++ [.lst (rangeD 0 n.toNat)], upd c1.H q (.lst (rgV 0 n))⟩ rfl x2 (rel1.push (o := .lst (rangeD 0 n.toNat)) hq (notA_new rel1 hq) ⟨_, upd_same, rr⟩) ⟨q, rfl, by show (c1.φ ++ [q])[c1.S.length]? = _; rw [← rel1.len]; simp⟩
    · exact h1.elim
  · exact h1.elim
end

/-! ### sorted(set(xs)), the items ints -/
section
variable {P : Program} {u : World} {A : Around} {E : Value → Shared → Prop} {z : Shared}
abbrev newS (u : World) : Obj := { cls := .type "set", dict := none, data := .set #[] 0 (.fresh 0 0 (!u.params.followText "set-order")) }
set_option maxRecDepth 100000 in
set_option maxHeartbeats 3300000 in
theorem set_of_ints {ad : Addr} {its : Array Value} (ks : List Int) {Q : Value → Shared → Prop} (gh : A.handled = none) (gl : z.heap.IsList ad its) (gi : IntsAre its.toList ks) (gb : ks.length + 1 < scanBound)
    (fin : ∀ (hp : Heap) (tk c : Nat), SetR u hp z.heap.objs.size (fun j => decide (j ∈ ks)) c → c ≤ ks.length → (∀ b o, z.heap.get? b = some o → hp.get? b = some o) → Q (.ref z.heap.objs.size) { z with heap := hp, toks := tk }) :
    wpAny (model P u) A (call (.type "set") [.ref ad]) Q E z := by
  have gz : its.size = ks.length := by
    have q := IntsAre.length gi
    rw [Array.length_toList] at q
    exact q
  obtain ⟨_, tl0, mk3⟩ := F.called_set.mro
  have mk1 := F.called_set.made
  have mk2 := F.called_set.sub
  refine wpAny_call <| codeAny_of_tree ?_
  show wpAny _ _ (callAny (Value.type "set") _) _ _ _
  refine wpAny_pure ⟨Code.quiet_builtin _ (by decide +kernel), ?_⟩
  refine codeAny_builtin F.entry_type_call ?_
  rw [Around.under_plain (weight_type_call_type "set" [.ref ad] []) rfl]
  have mk4 := F.called_set.notType
  have mk5 := F.called_set.canCreate
  have mk6 := F.typeCall_set_1 (.ref ad)
  repeat any_goals first | assumption | wp_step

  refine codeAny_mono (code_set_led1 (.ref ad) (E := E) (Q₁ := fun obj s₁ => obj = .ref z.heap.objs.size ∧ s₁ = { z with heap := z.heap.push (newS u) }) ⟨rfl, rfl⟩) fun r s₁ r1 => ?_
  cases r with
  | error e => exact r1
  | ok fl =>
    cases fl with
    | ret obj =>
      obtain ⟨rfl, rfl⟩ := r1
      have st1 : (z.heap.push (newS u)).get? z.heap.objs.size = some (newS u) := Heap.get?_push_size _ rfl
      have ty1 : Shared.TypeIs { z with heap := z.heap.push (newS u) } (.ref z.heap.objs.size) "set" := ⟨_, st1, rfl⟩
      have lk1 := F.called_set.init.lookup
      have lk2 := F.called_set.init.bind (.ref z.heap.objs.size)
      repeat any_goals first | assumption | wp_step

      refine codeAny_mono (codeAny_call_builtin (R := wants (fun r s₂ => r = .none ∧ ∃ hp tk c, s₂ = { z with heap := hp, toks := tk } ∧ SetR u hp z.heap.objs.size (fun j => decide (j ∈ ks)) c ∧ c ≤ ks.length ∧
          (∀ b o, z.heap.get? b = some o → hp.get? b = some o)) E) F.called_set.init.plain F.entry_set_init (check_set_init_1 ty1 ?_)) fun r₂ s₂ r4 => ?_
      · obtain ⟨ol, o1, o2, w5, o3⟩ := gl
        obtain ⟨w1, w2, w3, w4⟩ := ol
        simp only at o2 o3
        subst o2; subst o3
        have o4 : (z.heap.push (newS u)).get? ad = some { cls := .type "list", dict := w2, data := .seq its w5, slots := w4 } := Heap.get?_push_of_some _ o1
        have o5 := F.sub_list_set
        have o6 := F.sub_list_frozenset
        have o7 : (Value.type "list" == Value.type "dict") = false := by decide
        have o8 : (z.heap.push (newS u)).IsList ad its := ⟨_, o4, rfl, w5, rfl⟩
        unfold Builtin.«set.__init__» Builtin.Frozenset.updateFrom noKeywords
        generalize ePI : pyIter = PI
        wp_walk
        subst ePI

        refine wpAny_pyIter_list o8 ?_
        refine wpAny_bind (wpAny_runValue ?_)
        have lt1 : ad < z.heap.objs.size := Heap.lt_size o1
        have gh3 : A.in1.in1.in1.handled = none := by simp [gh]
        have zz1 : (z.heap.push (newS u)).objs.size = z.heap.objs.size + 1 := Heap.size_push ..
        have ni1 : ad ≠ (z.heap.push (newS u)).objs.size := by
          rw [Heap.size_push]; exact Nat.ne_of_lt (Nat.lt_succ_of_lt lt1)
        have nf1 : z.heap.objs.size ∉ [(z.heap.push (newS u)).objs.size, ad] := by
          rw [Heap.size_push]; simp only [List.mem_cons, List.mem_singleton, List.not_mem_nil, or_false, not_or]
          exact ⟨Nat.ne_of_lt (Nat.lt_succ_self _), Nat.ne_of_gt lt1⟩
        have vl1 : ∀ (i : Nat) (v : Value), its[i]? = some v → ∃ k t, ks[i]? = some k ∧ v = .int k t := fun i v ev => by
          have lt2 : i < ks.length := by rw [← gz]; exact (Array.getElem?_eq_some_iff.mp ev).1
          obtain ⟨t, e⟩ := PyProof.Rows.IntsAre.int_at gi i v (by rw [Array.getElem?_toList]; exact ev)
          refine ⟨ks[i], t, List.getElem?_eq_getElem lt2, ?_⟩
          rw [e, List.getD_eq_getElem?_getD, List.getElem?_eq_getElem lt2] <;> rfl
        refine set_update_ints ((Walks.list gh3 _ ad ni1 its).toS) z.heap.objs.size
          nf1 ks gz gb vl1 (its.size - 0) 0 _ (by omega) (Nat.zero_le _)
          ⟨⟨_, Heap.get?_push_size _ rfl, rfl, rfl⟩, (o8.push _)⟩ ?hS0 ?hR
        case hS0 =>
          have gt1 : ((z.heap.push (newS u)).push { cls := .type "list_iterator", data := .fields #[.ref ad, .int 0 0] }).get? z.heap.objs.size
              = some (newS u) := Heap.get?_push_of_some _ st1
          exact ⟨0, Nat.le_refl 0, setR_new_at gt1⟩
        case hR =>
          intro zz cn mv1 cc1 sr1
          obtain ⟨hp, gg, dd, tk', oo⟩ := zz
          have e1 : gg = z.gens := mv1.gens
          have e2 : dd = z.drawn := mv1.drawn
          have e3 : oo = z.os := mv1.os
          subst e1; subst e2; subst e3
          show wpAny _ _ _ _ _ _
          refine wpAny_pure ?_
          show wpAny _ _ (ret Value.none) _ _ _
          rw [gz] at cc1
          refine wpAny_pure ⟨rfl, hp, tk', cn, rfl, sr1, cc1, fun b o e => ?_⟩
          have n0 : b < z.heap.objs.size := Heap.lt_size e
          have n1 : b ≠ z.heap.objs.size := Nat.ne_of_lt n0
          have n2 : b ≠ (z.heap.push (newS u)).objs.size := by
            rw [Heap.size_push]; exact Nat.ne_of_lt (Nat.lt_succ_of_lt n0)
          exact mv1.heap b o (by simp only [List.mem_cons, List.mem_singleton, List.not_mem_nil, or_false, not_or]; exact ⟨n1, n2⟩) (Heap.get?_push_of_some _ (Heap.get?_push_of_some _ e))

      · cases r₂ with
        | error e => exact r4
        | ok fl₂ =>
          cases fl₂ with
          | ret r =>
            obtain ⟨rfl, hp, tk, cn, rfl, sr1, cc1, kp⟩ := r4
            repeat any_goals first | assumption | wp_step
            exact fin _ _ _ sr1 cc1 kp
          | _ => exact r4.elim
    | _ => exact r1.elim

end

section
variable {X : Cx}
def ddI : List Int → List Int
  | [] => []
  | a :: l => if a ∈ ddI l then ddI l else a :: ddI l
theorem ddI_mem {k : Int} : ∀ {l : List Int}, k ∈ ddI l ↔ k ∈ l
  | [] => Iff.rfl
  | a :: l => by
    unfold ddI
    rw [List.mem_cons, ← ddI_mem (l := l)]
    by_cases h : a ∈ ddI l
    · rw [if_pos h]
      exact ⟨.inr, fun z => z.elim (fun e => e ▸ h) id⟩
    · rw [if_neg h, List.mem_cons]
theorem ddI_nodup : ∀ {l : List Int}, (ddI l).Nodup
  | [] => .nil
  | a :: l => by
    unfold ddI
    by_cases h : a ∈ ddI l
    · rw [if_pos h]
      exact ddI_nodup
    · rw [if_neg h]
      exact List.nodup_cons.mpr ⟨h, ddI_nodup⟩
theorem ddI_perm {ys is : List Int} (h1 : ys.Nodup) (h2 : ∀ k, k ∈ ys ↔ k ∈ is) : ys.Perm (ddI is) := by
  rw [List.perm_iff_count]
  intro k
  rw [h1.count, (ddI_nodup (l := is)).count]
  have : k ∈ ys ↔ k ∈ ddI is := (h2 k).trans ddI_mem.symm
  by_cases e : k ∈ ys
  · rw [if_pos e, if_pos (this.mp e)]
  · rw [if_neg e, if_neg fun z => e (this.mpr z)]
theorem intsAre_of : ∀ {ks : List Int} {us : List Value}, Vals (ks.map V.int) us → IntsAre us ks := fun h => ints_vals h
def tSortSet (K : PySem.W.Frag) (ta : TE) : TE := fun σ H Q => ta σ H fun x H1 => ∃ (a : Addr) (is : List Int), x = .ref a ∧ SqL K H1 a (is.map V.int) ∧ is.length < 64 ∧ ∀ (p q : Addr) (o : HO), H1 p = none → upd H1 p o q = none → Q (.ref q) (upd (upd H1 p o) q (.lst ((sortI (ddI is)).map V.int)))
def tLenSetI (K : PySem.W.Frag) (ta : TE) : TE := fun σ H Q => ta σ H fun x H1 => ∃ (a : Addr) (is : List Int), x = .ref a ∧ SqL K H1 a (is.map V.int) ∧ is.length < 1000 ∧ ∀ (p : Addr) (o : HO), H1 p = none → Q (.int ((ddI is).length : Nat)) (upd H1 p o)
theorem pe_sortSet {a : Expr} {ta : TE} {p p2 q pos : Pos} (hc : X.calm = true) (g1 : Gl X "sorted") (m1 : X.mg "sorted" = none) (g2 : Gl X "set") (m2 : X.mg "set" = none) (pa : PE X a ta)
    (na : starEach [a] X.env = (false, eval a X.env) :: starEach [] X.env := by rfl) : PE X (.Call (.Name "sorted" p) [.Call (.Name "set" p2) [a] [] q] [] pos) (tSortSet X.K ta) := by
  refine ⟨fun pins s0 σ H Q I h => ?_⟩
  refine Call_ (ld_blt I g1 m1 boot_sorted ?_)
  refine PyProof.Rows.callWith_builtin1 (PyProof.Rows.args_cons ?_ rfl) rfl rfl
  refine Call_ (ld_blt I g2 m2 boot_set ?_)
  refine PyProof.Rows.callWith_type1 (PyProof.Rows.args_cons (thn (pa.run pins s0 σ H _ I h) fun v s1 z1 => PyProof.Rows.args_nil ?_) na) na rfl
  obtain ⟨x, H1, I1, r1, l, is, rfl, hq, few, q1⟩ := z1
  cases r1
  obtain ⟨its, r, pl, hz⟩ := I1.list hq
  refine set_of_ints is (I1.ok.hd hc) pl.isList (by simpa using ints_vals r) (by unfold scanBound; omega) fun hp tk c R hcn k => ?_
  refine PyProof.Rows.args_nil ?_
  have fr : H1 s1.heap.objs.size = none := I1.hok.fresh (Nat.le_refl _)
  have I2 : Inv X pins σ (upd H1 s1.heap.objs.size (SetO X.w s1.heap.objs.size (fun j => decide (j ∈ is)) c)) { s1 with heap := hp, toks := tk } := I1.laid (t' := tk) k (Nat.le_refl _) (setO_new R)
  refine cr_sortedSet hc pins _ σ _ [V.ref s1.heap.objs.size] _ Q I2 (.cons rfl .nil) ⟨_, _, c, rfl, upd_same, by omega, fun ks q0 h1 h2 _ h4 => ?_⟩
  have pm : ks.Perm (ddI is) := ddI_perm (h1.imp fun {a b} lt => by omega) fun k => (h2 k).trans decide_eq_true_iff
  have := q1 _ q0 _ fr h4
  rwa [← sortI_eq pm (h1.imp fun {a b} lt => by omega)] at this
theorem pe_lenSetI {a : Expr} {ta : TE} {p p2 q pos : Pos} (hc : X.calm = true) (g1 : Gl X "len") (m1 : X.mg "len" = none) (g2 : Gl X "set") (m2 : X.mg "set" = none) (pa : PE X a ta)
    (na : starEach [a] X.env = (false, eval a X.env) :: starEach [] X.env := by rfl) : PE X (.Call (.Name "len" p) [.Call (.Name "set" p2) [a] [] q] [] pos) (tLenSetI X.K ta) := by
  refine ⟨fun pins s0 σ H Q I h => ?_⟩
  refine Call_ (ld_blt I g1 m1 boot_len ?_)
  refine PyProof.Rows.callWith_builtin1 (PyProof.Rows.args_cons ?_ rfl) rfl rfl
  refine Call_ (ld_blt I g2 m2 boot_set ?_)
  refine PyProof.Rows.callWith_type1 (PyProof.Rows.args_cons (thn (pa.run pins s0 σ H _ I h) fun v s1 z1 => PyProof.Rows.args_nil ?_) na) na rfl
  obtain ⟨x, H1, I1, r1, l, is, rfl, hq, few, q1⟩ := z1
  cases r1
  obtain ⟨its, r, pl, hz⟩ := I1.list hq
  refine set_of_ints is (I1.ok.hd hc) pl.isList (by simpa using ints_vals r) (by unfold scanBound; omega) fun hp tk c R hcn k => ?_
  refine PyProof.Rows.args_nil ?_
  have fr : H1 s1.heap.objs.size = none := I1.hok.fresh (Nat.le_refl _)
  have I2 : Inv X pins σ (upd H1 s1.heap.objs.size (SetO X.w s1.heap.objs.size (fun j => decide (j ∈ is)) c)) { s1 with heap := hp, toks := tk } := I1.laid (t' := tk) k (Nat.le_refl _) (setO_new R)
  obtain ⟨o, es, ep, t, ho, hex, hd, _, nd, hm, _, hf, hn, _, _⟩ := R
  have pm := ddI_perm nd fun k => (hm k).symm.trans decide_eq_true_iff
  have lp := pm.length_eq
  rw [List.length_map, Array.length_toList] at lp
  refine call_len_set ho hex hd hf (by rw [hn]; omega) ⟨.int ((ddI is).length : Nat), _, I2.tok _, ⟨_, by rw [lp]⟩, q1 _ _ fr⟩
def sortSetV (x : D) (S : Store) : R D := match lsOf S x with
  | some xs => match intsOf xs with
    | some is => if is.length < 64 then .ok (.lst ((sortI (ddI is)).map D.int)) S else .no
    | none => .no
  | none => .no
def lenSetV (x : D) (S : Store) : R D := match lsOf S x with
  | some xs => match intsOf xs with
    | some is => if is.length < 1000 then .ok (.int ((ddI is).length : Nat)) S else .no
    | none => .no
  | none => .no
variable {cm : String → Addr → Prop} {E : XK}
theorem de_sortSet {a : Expr} {d : DEv} {p1 p2 q1 q2 : Pos} {z : Nat} (G : GX X E z) (g1 : Gl X "sorted") (m1 : X.mg "sorted" = none) (g2 : Gl X "set") (m2 : X.mg "set" = none) (h : DE X cm E a d)
    (na : starEach [a] X.env = (false, eval a X.env) :: starEach [] X.env := by rfl) : DE X cm E (.Call (.Name "sorted" p2) [.Call (.Name "set" p1) [a] [] q1] [] q2) (dUn sortSetV d) := by
  obtain ⟨t, p, s⟩ := h.ex
  refine ⟨_, pe_sortSet G.calm g1 m1 g2 m2 p na, fun A c st σ Q rel loc h => s A c st σ _ rel loc (Post.seq h fun x v c1 q1 x1 rel1 rx h1 => ?_)⟩
  unfold sortSetV at h1
  split at h1
  · rename_i xs hx
    split at h1
    · rename_i is hi
      split at h1
      · rename_i few
        obtain ⟨b, ws, e1, hs, t⟩ := lsOf_rep rel1 rx hx
        have ew := intsOf_rep t hi
        subst ew
        refine ⟨b, is, e1, hs, few, fun p0 q0 o hp hq => ?_⟩
        have x2 : Ext c1 ⟨c1.φ, c1.S, upd c1.H p0 o⟩ := Ext.lay rel1 hp
        exact (Post.trans x2 h1).newL (rel1.lay (o := o) hp) (ints_rep _) q0 hq
      · exact h1.elim
    · exact h1.elim
  · exact h1.elim
theorem de_lenSet {a : Expr} {d : DEv} {p1 p2 q1 q2 : Pos} {z : Nat} (G : GX X E z) (g1 : Gl X "len") (m1 : X.mg "len" = none) (g2 : Gl X "set") (m2 : X.mg "set" = none) (h : DE X cm E a d)
    (na : starEach [a] X.env = (false, eval a X.env) :: starEach [] X.env := by rfl) : DE X cm E (.Call (.Name "len" p2) [.Call (.Name "set" p1) [a] [] q1] [] q2) (dUn lenSetV d) := by
  obtain ⟨t, p, s⟩ := h.ex
  refine ⟨_, pe_lenSetI G.calm g1 m1 g2 m2 p na, fun A c st σ Q rel loc h => s A c st σ _ rel loc (Post.seq h fun x v c1 q1 x1 rel1 rx h1 => ?_)⟩
  unfold lenSetV at h1
  split at h1
  · rename_i xs hx
    split at h1
    · rename_i is hi
      split at h1
      · rename_i few
        obtain ⟨b, ws, e1, hs, t⟩ := lsOf_rep rel1 rx hx
        have ew := intsOf_rep t hi
        subst ew
        refine ⟨b, is, e1, hs, few, fun p0 o hp => ?_⟩
        exact h1 _ ⟨c1.φ, c1.S, upd c1.H p0 o⟩ rfl (Ext.lay rel1 hp) (rel1.lay (o := o) hp) rfl
      · exact h1.elim
    · exact h1.elim
  · exact h1.elim
end
/-! ### min(xs), max(xs) of a list of ints -/
def mnI : List Int → Int
  | [] => 0
  | a :: l => if l = [] then a else if a ≤ mnI l then a else mnI l
def mxI : List Int → Int
  | [] => 0
  | a :: l => if l = [] then a else if mxI l ≤ a then a else mxI l
theorem mnI_spec : ∀ {l : List Int}, l ≠ [] → mnI l ∈ l ∧ ∀ y ∈ l, mnI l ≤ y
  | [], h => absurd rfl h
  | a :: l, _ => by
    unfold mnI
    by_cases e : l = []
    · subst e
      rw [if_pos rfl]
      exact ⟨List.mem_cons_self, fun y hy => by rw [List.mem_singleton.mp hy]; exact Int.le_refl _⟩
    · obtain ⟨h1, h2⟩ := mnI_spec e
      rw [if_neg e]
      by_cases c : a ≤ mnI l
      · rw [if_pos c]
        exact ⟨List.mem_cons_self, fun y hy => (List.mem_cons.mp hy).elim (fun z => z ▸ Int.le_refl _) fun z => Int.le_trans c (h2 y z)⟩
      · rw [if_neg c]
        exact ⟨List.mem_cons_of_mem _ h1, fun y hy => (List.mem_cons.mp hy).elim (fun z => by rw [z]; omega) fun z => h2 y z⟩
theorem mxI_spec : ∀ {l : List Int}, l ≠ [] → mxI l ∈ l ∧ ∀ y ∈ l, y ≤ mxI l
  | [], h => absurd rfl h
  | a :: l, _ => by
    unfold mxI
    by_cases e : l = []
    · subst e
      rw [if_pos rfl]
      exact ⟨List.mem_cons_self, fun y hy => by rw [List.mem_singleton.mp hy]; exact Int.le_refl _⟩
    · obtain ⟨h1, h2⟩ := mxI_spec e
      rw [if_neg e]
      by_cases c : mxI l ≤ a
      · rw [if_pos c]
        exact ⟨List.mem_cons_self, fun y hy => (List.mem_cons.mp hy).elim (fun z => z ▸ Int.le_refl _) fun z => Int.le_trans (h2 y z) c⟩
      · rw [if_neg c]
        exact ⟨List.mem_cons_of_mem _ h1, fun y hy => (List.mem_cons.mp hy).elim (fun z => by rw [z]; omega) fun z => h2 y z⟩
section
variable {cm : String → Addr → Prop} {K : PySem.W.Frag}
def minLV (ds : List D) (S : Store) : R D := match ds with
  | [d] => match lsOf S d with
    | some xs => match intsOf xs with
      | some is => if is = [] then .no else .ok (.int (mnI is)) S
      | none => .no
    | none => .no
  | _ => .no
def maxLV (ds : List D) (S : Store) : R D := match ds with
  | [d] => match lsOf S d with
    | some xs => match intsOf xs with
      | some is => if is = [] then .no else .ok (.int (mxI is)) S
      | none => .no
    | none => .no
  | _ => .no
theorem minLV_s : CallS K cm (rMin K) minLV := fun A c ds vs Q rel rd h => by
  unfold minLV at h
  split at h
  · split at h
    · rename_i xs hx
      split at h
      · rename_i is hi
        split at h
        · exact h.elim
        · rename_i ne
          obtain ⟨v, e, r⟩ := RpA.one rd
          obtain ⟨a, ws, e1, hs, t⟩ := lsOf_rep rel r hx
          have ew := intsOf_rep t hi
          subst ew
          obtain ⟨s1, s2⟩ := mnI_spec ne
          refine ⟨a, is, by rw [e, e1], hs, List.length_pos_iff.mpr ne, fun m hm le => ?_⟩
          rw [show m = mnI is from Int.le_antisymm (le _ s1) (s2 m hm)]
          exact h.here rel rfl
      · exact h.elim
    · exact h.elim
  · exact h.elim
theorem maxLV_s : CallS K cm (rMax K) maxLV := fun A c ds vs Q rel rd h => by
  unfold maxLV at h
  split at h
  · split at h
    · rename_i xs hx
      split at h
      · rename_i is hi
        split at h
        · exact h.elim
        · rename_i ne
          obtain ⟨v, e, r⟩ := RpA.one rd
          obtain ⟨a, ws, e1, hs, t⟩ := lsOf_rep rel r hx
          have ew := intsOf_rep t hi
          subst ew
          obtain ⟨s1, s2⟩ := mxI_spec ne
          refine ⟨a, is, by rw [e, e1], hs, List.length_pos_iff.mpr ne, fun m hm le => ?_⟩
          rw [show m = mxI is from Int.le_antisymm (s2 m hm) (le _ s1)]
          exact h.here rel rfl
      · exact h.elim
    · exact h.elim
  · exact h.elim
theorem minLV_n : NoErrA minLV := fun ds S => by unfold minLV; split <;> (try split) <;> (try split) <;> (try split) <;> exact True.intro
theorem maxLV_n : NoErrA maxLV := fun ds S => by unfold maxLV; split <;> (try split) <;> (try split) <;> (try split) <;> exact True.intro
end
/-! ### x not in ys, the items data of any depth -/
section
variable {cm : String → Addr → Prop} {K : PySem.W.Frag}
def notInT (x y : D) (S : Store) : R D := match toPyS S x, toPyS S y with
  | some d, some (.list ds) => if PySem.SeqAt.shaped d = true ∧ PySem.SeqAt.shaped (.list ds) = true then .ok (.bl (!ds.any fun z => PyData.eqv z d)) S else .no
  | _, _ => .no
theorem notInT_s : OpS K cm (rNotInD K) notInT := fun A c x y v w Q rel rx ry h => by
  unfold notInT at h
  split at h
  · rename_i d ds h1 h2
    split at h
    · rename_i sh
      obtain ⟨a1, a2⟩ := toPyS_rep rel rx h1
      obtain ⟨b1, b2⟩ := toPyS_rep rel ry h2
      exact ⟨d, ds, a1, b1, sh.1, sh.2, h.here rel rfl⟩
    · exact h.elim
  · exact h.elim
theorem notInT_n : NoErr notInT := fun x y S => by unfold notInT; split <;> (try split) <;> exact True.intro
end

/-! ### len({e for ..}), the elements ints -/
section
variable {X : Cx} {s3 : Shared} {H3 : Hp} {scope : Scope} {ce : Env} {fp : List Addr}
/-- the walk's own objects, seen from the block -/
theorem blk_foot {σ' : L2.St} {H' : Hp} {s' : Shared} (J : Inv (X.blk s3 H3 scope ce fp) [] σ' H' s') (free : ∀ b ∈ fp, H' b = none) (b : Addr) (hb : b ∈ fp) : FpOk (X.blk s3 H3 scope ce fp) [] H' b := by
  obtain ⟨e1, e2⟩ := J.ok.exf b hb
  exact ⟨free b hb, e1, J.ok.exfs b hb, Or.inl hb, e2, fun p hp => nomatch (show p ∈ ([] : List (Addr × Obj)) from hp)⟩
/-- a turn is over: the block's own names are forgotten, the walk stands where it stood -/
theorem blk_end {it : Addr} {tg : Expr} {J : It} {tn : Nat → Heap → Prop} {σ σ8 : L2.St} {vs : List Nat} {s7 s' : Shared} {H' : Hp} {i : Nat} (T : Turn X.prog X.w X.K tg J fp it tn) (t7 : tn i s7.heap) (e8 : wipe σ8 vs = wipe σ vs)
    (I' : Inv (X.blk s3 H3 scope ce fp) ([] ++ pinsAt fp s7.heap) σ8 H' s') : Inv (X.blk s3 H3 scope ce fp) [] (wipe σ vs) H' s' ∧ tn i s'.heap ∧ ∀ b ∈ fp, H' b = none := by
  have held : ∀ b ∈ fp, ∀ o, s7.heap.get? b = some o → s'.heap.get? b = some o ∧ H' b = none := by
    intro b hb o e
    obtain ⟨z1, z2, _⟩ := I'.pin (b, o) (List.mem_append_right _ (List.mem_append_right _ (mem_pinsAt hb e)))
    exact ⟨z1, z2⟩
  have up := I'.unpinned (pins := [])
  refine ⟨up.weak (by rw [← e8, wipe_length]) ?_, T.keep _ _ _ t7 fun b hb o e => (held b hb o e).1, ?_⟩
  · intro j v e
    rw [← e8] at e
    exact (wipe_some e).1
  · intro b hb
    obtain ⟨o, e, _⟩ := T.obj _ _ t7 b hb
    exact (held b hb o e).2
/-- set.add of a whole number -/
theorem addI_set {pins : List (Addr × Obj)} {σ : L2.St} {H : Hp} {s : Shared} {E : Value → Shared → Prop} {D : Addr} {S : Int → Bool} {n : Nat} {y : Int} {t : Tok} {Q : Value → Shared → Prop} (I : Inv X pins σ H s) (hD : H D = some (SetO X.w D S n)) (few : n + 1 < scanBound)
    (q : ∀ s', Inv X pins σ (upd H D (SetO X.w D (fun j => S j || decide (j = y)) (if S y = true then n else n + 1))) s' → Q .none s') : wpAny (model X.prog X.w) X.A (call (.builtin "set.add") [.ref D, .int y t]) Q E s := by
  refine setR_add (setO_get I hD) few fun h2 same now => q _ ?_
  obtain ⟨o, es, ep, tb, at_, more⟩ := id now
  exact I.write (e := D) (t' := s.toks + 1) (by rw [hD]; trivial) (.inl rfl) (fun b u hb hu => (same.2 b hb).trans hu) ⟨o, at_⟩ (setO_new now)
/-- a turn's value: its names, its test, the number that is put in -/
def tTurnI (w : World) (D : Addr) (g : TG) (tt : TT) (te : TE) (vs : List Nat) (σ : L2.St) (Nx : Hp → Prop) (x : V) (H : Hp) : Prop := g x (wipe σ vs) H fun σ2 H2 => wipe σ2 vs = wipe σ vs ∧ tt σ2 H2 fun b H3 =>
  if b = true then te σ2 H3 fun y H4 => ∃ (c : Int) (S : Int → Bool) (n : Nat), y = .int c ∧ H4 D = some (SetO w D S n) ∧ n + 1 < scanBound ∧ Nx (upd H4 D (SetO w D (fun j => S j || decide (j = c)) (if S c = true then n else n + 1))) else Nx H3
def tScI (w : World) (wi : TI) (g : TG) (tt : TT) (te : TE) (vs : List Nat) : TE := fun σ H Q => wi σ H fun J H1 => ∀ D, H1 D = none → ∃ W : Nat → Nat → Hp → Prop, (∃ m, W 0 m (upd H1 D (SetO w D (fun _ => false) 0))) ∧ ∀ i m H, W i m H →
  (J.stop i H ∧ Q (.ref D) H) ∨ (J.go i H ∧ ∃ Nx : Hp → Prop, (∀ H', Nx H' → ∃ m', m' < m ∧ W (i + 1) m' H') ∧ ∀ x H', J.yld i H x H' → tTurnI w D g tt te vs σ Nx x H')
/-- the loop of such a comprehension, in its block -/
theorem setI_loop {it D : Addr} {tg iter elt : Expr} {ifs : List Expr} {pos : Pos} {J : It} {tn : Nat → Heap → Prop} {g : TG} {tt : TT} {te : TE} {σ : L2.St} {vs : List Nat} {W : Nat → Nat → Hp → Prop} {Qe : Hp → Prop} {R : Result → Shared → Prop} {m0 : Nat} {H4 : Hp} {s4 : Shared}
    (calm : X.calm = true) (T : Turn X.prog X.w X.K tg J fp it tn) (pg : PG (X.blk s3 H3 scope ce fp) tg g) (pt : PTs (X.blk s3 H3 scope ce fp) ifs tt) (pe : PE (X.blk s3 H3 scope ce fp) elt te)
    (turn : ∀ i m H, W i m H → (J.stop i H ∧ Qe H) ∨ (J.go i H ∧ ∃ Nx : Hp → Prop, (∀ H', Nx H' → ∃ m', m' < m ∧ W (i + 1) m' H') ∧ ∀ x H', J.yld i H x H' → tTurnI X.w D g tt te vs σ Nx x H'))
    (ends : ∀ H' s', Inv (X.blk s3 H3 scope ce fp) [] (wipe σ vs) H' s' → Qe H' → R (.ok .next) s')
    (I4 : Inv (X.blk s3 H3 scope ce fp) [] (wipe σ vs) H4 s4) (t4 : tn 0 s4.heap) (f4 : ∀ b ∈ fp, H4 b = none) (w4 : W 0 m0 H4) :
    codeAny (model X.prog X.w) X.A (.compLoop (.SetComp elt [⟨tg, iter, ifs, 0⟩] scope pos) 0 (.ref it) (.ref D) ce) R s4 := by
  let Stand : Nat → Shared → Prop := fun m s => ∃ i H, (Inv (X.blk s3 H3 scope ce fp) [] (wipe σ vs) H s ∧ tn i s.heap ∧ ∀ b ∈ fp, H b = none) ∧ W i m H
  refine PpSet.compLoopS_any Stand ?_ m0 ⟨0, H4, ⟨I4, t4, f4⟩, w4⟩
  rintro m s ⟨i, H, ⟨I, t, f⟩, w⟩
  rcases turn i m H w with ⟨stop, qe⟩ | ⟨go, Nx, less, step⟩
  · refine thnF (T.done (X.blk s3 H3 scope ce fp) rfl rfl rfl calm i [] s _ H (fun _ _ => False) I (blk_foot I f) t stop) ?_
    rintro r s' ⟨rfl, I'⟩
    exact ends H s' I' qe
  · refine thnF (T.item (X.blk s3 H3 scope ce fp) rfl rfl rfl calm i [] s _ H (fun _ _ => False) I (blk_foot I f) t go) ?_
    rintro r s1 ⟨u, rfl, next⟩
    refine thnF next ?_
    rintro _ s7 ⟨x, H7, I7, rx, yx, t7, f7⟩
    have back : ∀ (H' : Hp) (s' : Shared) (σ8 : L2.St), wipe σ8 vs = wipe σ vs → Inv (X.blk s3 H3 scope ce fp) ([] ++ pinsAt fp s7.heap) σ8 H' s' → Nx H' → ∃ k, k < m ∧ Stand k s' := by
      intro H' s' σ8 e8 I' nx
      obtain ⟨k, lt, w'⟩ := less H' nx
      exact ⟨k, lt, i + 1, H', blk_end T t7 e8 I', w'⟩
    refine thnF (pg.run _ s7 _ H7 x u _ (I7.pinned (blk_foot I7 f7) (T.obj _ _ t7)) rx (step x H7 yx)) ?_
    rintro _ s8 ⟨σ8, H8, I8, e8, q8⟩
    refine thnF (pt.run _ s8 σ8 H8 _ I8 q8) ?_
    rintro b s9 ⟨H9, I9, q9⟩
    cases b
    · rw [if_neg Bool.false_ne_true] at q9
      exact back H9 s9 σ8 e8 I9 q9
    · rw [if_pos rfl] at q9
      refine thnF (pe.run _ s9 σ8 H9 _ I9 q9) ?_
      rintro z s10 ⟨y, H10, I10, rz, c, S, n, rfl, hD, few, nx⟩
      obtain ⟨tk, ez⟩ := (show ∃ t, z = Value.int c t from rz)
      subst ez
      exact addI_set (X := X.blk s3 H3 scope ce fp) I10 hD few fun s11 I11 => back _ s11 σ8 e8 I11 nx
end
section
variable {X : Cx}
theorem pe_scI {elt tg iter : Expr} {ifs : List Expr} {scope : Scope} {own : List (Str × Nat)} {pos : Pos} {wi : TI} {g : TG} {tt : TT} {te : TE} (calm : X.calm = true) (hN : X.N.Nodup) (hi : PI X tg iter wi) (ok : BlkOk X.N X.env.scope scope own)
    (hg : ∀ (s : Shared) (H : Hp) (C : Addr) (cl : List (Str × Addr)) (fp : List Addr), PG (X.blk s H scope (compEnvC scope cl C X.env) fp) tg g)
    (ht : ∀ (s : Shared) (H : Hp) (C : Addr) (cl : List (Str × Addr)) (fp : List Addr), PTs (X.blk s H scope (compEnvC scope cl C X.env) fp) ifs tt)
    (he : ∀ (s : Shared) (H : Hp) (C : Addr) (cl : List (Str × Addr)) (fp : List Addr), PE (X.blk s H scope (compEnvC scope cl C X.env) fp) elt te) (hs : ∀ x, foldedSetIterable iter X.env x = pure x := by intro _; rfl) :
    PE X (.SetComp elt [⟨tg, iter, ifs, 0⟩] scope pos) (tScI X.w wi g tt te (own.map (·.2))) := by
  refine ⟨fun pins s σ H Q I h => ?_⟩
  rw [PpSet.eval_SetComp]
  have cap : ∀ y ∈ scope.names, y.2 = .free → ∃ c, X.env.cells.lookup y.1 = some c := fun y hy e => I.ok.has _ (ok.free y hy e)
  refine wpAny_comprehension_free (use := none) rfl hs (closure_ok cap) ok.kind (fun y hy e => (ok.uniq y hy).trans (congrArg some e)) ?_
  refine thn (hi.run pins s σ H _ I h) fun xv s1 z1 => thn z1 ?_
  rintro itv s2 ⟨it, fp, tn, J, H2, rfl, I2, T, t2, f2, q⟩
  refine PpSet.newSet_ok (newEnv_comp ?_)
  obtain ⟨W, ⟨m0, w0⟩, turn⟩ := q s2.heap.objs.size (I2.hok.fresh (Nat.le_refl _))
  have under : ∀ b ∈ fp, b < s2.heap.objs.size := fun b hb => (T.obj _ _ t2 b hb).elim fun o e => Heap.lt_size e.1
  have I3 := I2.laid (t' := s2.toks) (fun b o e => Heap.get?_push_of_some { cls := .type "set", dict := none, data := .set #[] 0 (.fresh 0 0 (!X.w.params.followText "set-order")) } e) (Nat.le_refl _) (setO_new (P := X.prog) (setR_fresh (h := s2.heap) X.w))
  have big : (s2.heap.push { cls := .type "set", dict := none, data := .set #[] 0 (.fresh 0 0 (!X.w.params.followText "set-order")) }).objs.size = s2.heap.objs.size + 1 := Heap.size_push ..
  have t3 : tn 0 (s2.heap.push { cls := .type "set", dict := none, data := .set #[] 0 (.fresh 0 0 (!X.w.params.followText "set-order")) }) := T.keep _ _ _ t2 fun b _ o e => Heap.get?_push_of_some _ e
  generalize s2.heap.push { cls := .type "set", dict := none, data := .set #[] 0 (.fresh 0 0 (!X.w.params.followText "set-order")) } = h3 at I3 big t3 ⊢
  generalize e3 : ({ s2 with heap := h3, toks := s2.toks } : Shared) = s3 at I3
  have eh : s3.heap = h3 := by rw [← e3]
  subst eh
  generalize hD : s2.heap.objs.size = D at w0 turn I3 under big ⊢
  generalize eH : upd H2 D (SetO X.w D (fun _ => false) 0) = H3 at w0 I3
  have f3 : ∀ b ∈ fp, FpOk X pins H3 b ∧ b < s3.heap.objs.size := fun b hb => by
    have lt := under b hb
    obtain ⟨n0, r0⟩ := f2 b hb
    exact ⟨⟨by rw [← eH, upd_ne (Nat.ne_of_lt lt)]; exact n0, r0⟩, by rw [big]; exact Nat.lt_succ_of_lt lt⟩
  have I4 := block_start I3 ok hN f3
  have pg := hg s3 H3 s3.heap.objs.size (cellsFrom (s3.heap.objs.size + 1) scope.names (cloFrom X.env.cells scope.names [])) fp
  have pt := ht s3 H3 s3.heap.objs.size (cellsFrom (s3.heap.objs.size + 1) scope.names (cloFrom X.env.cells scope.names [])) fp
  have pe := he s3 H3 s3.heap.objs.size (cellsFrom (s3.heap.objs.size + 1) scope.names (cloFrom X.env.cells scope.names [])) fp
  have t4 : tn 0 (pushCells (s3.heap.push { cls := .type "dict", data := .dict #[] }) scope.names) := T.keep _ _ _ t3 fun b _ o e => pushCells_keeps _ _ _ _ (Heap.get?_push_of_some _ e)
  have lp := setI_loop (pos := pos) (iter := iter) (R := compPost (model X.prog X.w) X.A X.xe none (EP X pins σ Q) (.ref D) s3.heap.objs.size) calm T pg pt pe turn (fun H' s' I' qe => ?_) I4 t4 (fun b hb => (f3 b hb).1.1) w0
  · have both := PpSet.codeAny_compStart_set lp (T.self X.A 0 _ _ _ t4 lp)
    rw [← e3] at both ⊢
    exact both
  · obtain ⟨m, ns, _⟩ := I'.loc
    have free : H' s3.heap.objs.size = none := I'.free
    refine ⟨m, ns, fun h2 same => ?_⟩
    have I7 : Inv X pins σ H' s' := I3.call' (ch := fp) I'.os I'.base I'.hok I'.bare fun b hb => by
      obtain ⟨_, a1, a2, a3, a4, a5⟩ := (f3 b hb).1
      exact ⟨a3, a1, a4, a5⟩
    obtain ⟨f0, f1, _, f3, f4, f5⟩ := I3.fpOk (Nat.le_refl _) free
    exact ⟨.ref D, H', I7.turned (t' := s'.toks) (fun b o hb e => (same.2 b hb).trans e) f0 f1 f3 f4 f5, rfl, qe⟩
/-- len of a new set -/
def tLenS (w : World) (t : TE) : TE := fun σ H Q => t σ H fun x H1 => ∃ (a : Addr) (S : Int → Bool) (n : Nat), x = .ref a ∧ H1 a = some (SetO w a S n) ∧ n < 1000 ∧ Q (.int n) H1
theorem pe_lenS {a : Expr} {ta : TE} {p pos : Pos} (g1 : Gl X "len") (m1 : X.mg "len" = none) (pa : PE X a ta)
    (na : starEach [a] X.env = (false, eval a X.env) :: starEach [] X.env := by rfl) : PE X (.Call (.Name "len" p) [a] [] pos) (tLenS X.w ta) := by
  refine ⟨fun pins s0 σ H Q I h => ?_⟩
  refine Call_ (ld_blt I g1 m1 boot_len ?_)
  refine PyProof.Rows.callWith_builtin1 (PyProof.Rows.args_cons (thn (pa.run pins s0 σ H _ I h) fun v s1 z1 => PyProof.Rows.args_nil ?_) na) na rfl
  obtain ⟨x, H1, I1, r1, l, S, n, rfl, hq, few, q1⟩ := z1
  cases r1
  obtain ⟨o, es, ep, t, ho, hex, hd, _, nd, hm, _, hf, hn, _, _⟩ := setO_get I1 hq
  refine call_len_set ho hex hd hf (by rw [hn]; omega) ⟨.int (n : Nat), _, I1.tok _, ⟨_, by rw [hn]⟩, q1⟩
theorem ddI_snoc {is : List Int} {k : Int} : (ddI (is ++ [k])).length = if decide (k ∈ is) = true then (ddI is).length else (ddI is).length + 1 := by
  by_cases h : k ∈ is
  · rw [if_pos (decide_eq_true h)]
    refine ((ddI_perm ddI_nodup fun j => ?_).length_eq).symm
    rw [ddI_mem, List.mem_append, List.mem_singleton]
    exact ⟨.inl, fun z => z.elim id fun e => e ▸ h⟩
  · rw [if_neg (by rw [decide_eq_true_eq]; exact h)]
    have : (k :: ddI is).Perm (ddI (is ++ [k])) := ddI_perm (List.nodup_cons.mpr ⟨fun z => h (ddI_mem.mp z), ddI_nodup⟩) fun j => by
      rw [List.mem_cons, ddI_mem, List.mem_append, List.mem_singleton]
      exact Or.comm
    rw [← this.length_eq, List.length_cons]
theorem ddI_le : ∀ {l : List Int}, (ddI l).length ≤ l.length
  | [] => Nat.le_refl _
  | a :: l => by
    have := ddI_le (l := l)
    unfold ddI
    split
    · rw [List.length_cons]; omega
    · rw [List.length_cons, List.length_cons]; omega
noncomputable def scT (g : DGv) (t : DTv) (e : DEv) (st : DSt) (x : D) (S : Store) : R (Option D) := (g x st S).bind fun st1 S1 => (t st1 S1).bind fun k S2 => if k = true then (e st1 S2).bind fun y S3 => .ok (some y) S3 else .ok none S2
open Classical in
noncomputable def scD (s : Src) (g : DGv) (t : DTv) (e : DEv) (st : DSt) : List D → List Int → Store → R (List Int)
  | [], acc, S => if s.held S ∧ acc.length < 1000 then .ok acc S else .no
  | x :: xs, acc, S => if s.held S ∧ acc.length < 1000 then (scT g t e st x S).mute.bind fun o S3 => match o with
      | some (.int k) => scD s g t e st xs (acc ++ [k]) S3
      | some _ => .no
      | none => scD s g t e st xs acc S3
    else .no
noncomputable def dLenSc (i : DIv) (g : DGv) (t : DTv) (e : DEv) (vs : List Nat) : DEv := fun st S => (i st S).bind fun s S1 => (scD s g t e (wipeD st vs) s.xs [] S1).bind fun acc S2 => .ok (.int ((ddI acc).length : Nat)) S2
variable {cm : String → Addr → Prop} {E : XK}
theorem snd_lsc {K : PySem.W.Frag} {w : World} {wi : TI} {g : TG} {tt : TT} {te : TE} {vs : List Nat} {di : DIv} {dg : DGv} {dt : DTv} {de : DEv} (si : SndI K cm E wi di) (sg : SndG K cm E0 g dg) (og : OnlyG vs g) (st' : SndT K cm E0 tt dt) (se : Snd K cm E0 te de) :
    Snd K cm E (tLenS w (tScI w wi g tt te vs)) (dLenSc di dg dt de vs) := fun A c0 st σ Q rel loc h => by
  refine si A c0 st σ _ rel loc (Post.seq h fun s J c1 _ x1 rel1 ⟨wk, held1⟩ h1 => ?_)
  intro p hp
  have relp : RelC ⟨K, cm, fun a => A a ∨ a = p⟩ ⟨c1.φ, c1.S, upd c1.H p (SetO w p (fun _ => false) 0)⟩ := RelC.more rel1 hp
  have xp : Ext c1 ⟨c1.φ, c1.S, upd c1.H p (SetO w p (fun _ => false) 0)⟩ := Ext.lay rel1 hp
  have locp : LocR ⟨K, cm, fun a => A a ∨ a = p⟩ ⟨c1.φ, c1.S, upd c1.H p (SetO w p (fun _ => false) 0)⟩ (wipeD st vs) (wipe σ vs) := ((loc.mono x1).wipes vs |>.more hp).mono xp
  refine ⟨fun i m H => m = s.xs.length - i ∧ i ≤ s.xs.length ∧ ∃ (c : Cfg) (acc : List Int), c.H = H ∧ Ext c1 c ∧ (∀ n : Nat, c.φ[n]? ≠ some p) ∧ RelC ⟨K, cm, fun a => A a ∨ a = p⟩ c ∧ LocR ⟨K, cm, fun a => A a ∨ a = p⟩ c (wipeD st vs) (wipe σ vs) ∧ c.H p = some (SetO w p (fun j => decide (j ∈ acc)) (ddI acc).length) ∧
      Post ⟨K, cm, A⟩ E (Rp ⟨K, cm, A⟩) c1 Q ((scD s dg dt de (wipeD st vs) (s.xs.drop i) acc c.S).bind fun acc S2 => .ok (.int ((ddI acc).length : Nat)) S2),
    ⟨_, rfl, Nat.zero_le _, ⟨c1.φ, c1.S, upd c1.H p (SetO w p (fun _ => false) 0)⟩, [], rfl, xp, fun n z => phi_ne rel1 hp z rfl, relp, locp, ?_, h1⟩, ?_⟩
  · show upd c1.H p _ p = _
    rw [upd_same]
    rfl
  rintro i m H ⟨rfl, hi, c, acc, rfl, x, nφ, relc, locc, hH, hc⟩
  by_cases hlt : i < s.xs.length
  · rw [List.drop_eq_getElem_cons hlt] at hc
    unfold scD at hc
    split at hc
    · rename_i held
      obtain ⟨w1, _⟩ := wk (fun a => A a ∨ a = p) (fun a z => z.elim .inl fun z => .inr (z ▸ hp)) c x relc held.1 i
      obtain ⟨go, yld⟩ := w1 _ (List.getElem?_eq_getElem hlt)
      refine .inr ⟨go, fun H' => ∃ (c' : Cfg) (acc' : List Int), c'.H = H' ∧ Ext c1 c' ∧ (∀ n : Nat, c'.φ[n]? ≠ some p) ∧ RelC ⟨K, cm, fun a => A a ∨ a = p⟩ c' ∧ LocR ⟨K, cm, fun a => A a ∨ a = p⟩ c' (wipeD st vs) (wipe σ vs) ∧ c'.H p = some (SetO w p (fun j => decide (j ∈ acc')) (ddI acc').length) ∧
          Post ⟨K, cm, A⟩ E (Rp ⟨K, cm, A⟩) c1 Q ((scD s dg dt de (wipeD st vs) (s.xs.drop (i + 1)) acc' c'.S).bind fun acc S2 => .ok (.int ((ddI acc).length : Nat)) S2),
        fun H' ⟨c', acc', e1, e2, e3, e4, e5, e6, e8⟩ => ⟨s.xs.length - (i + 1), by omega, rfl, hlt, c', acc', e1, e2, e3, e4, e5, e6, e8⟩, fun v H' hy => ?_⟩
      obtain ⟨c2, e2, eS, x2, rel2, rv⟩ := yld v H' hy
      subst e2
      have key : Post ⟨K, cm, fun a => A a ∨ a = p⟩ E0 (fun _ (a : Option D) (b : Option D) => a = b) c2 (fun o H' => True) (scT dg dt de (wipeD st vs) s.xs[i] c2.S) := by
        rw [eS]
        cases q : scT dg dt de (wipeD st vs) s.xs[i] c.S with
        | no => rw [q] at hc; exact hc.elim
        | err z S => rw [q] at hc; exact hc.elim
        | ok o S => exact fun _ _ _ _ _ _ => True.intro
      have hc' : ∀ o S', scT dg dt de (wipeD st vs) s.xs[i] c2.S = R.ok o S' →
          Post ⟨K, cm, A⟩ E (Rp ⟨K, cm, A⟩) c1 Q (R.bind (match o with
            | some (.int k) => scD s dg dt de (wipeD st vs) (s.xs.drop (i + 1)) (acc ++ [k]) S'
            | some _ => .no
            | none => scD s dg dt de (wipeD st vs) (s.xs.drop (i + 1)) acc S') fun acc S2 => .ok (.int ((ddI acc).length : Nat)) S2) := fun o S' q => by
        rw [eS] at q
        rw [q] at hc
        exact hc
      have keepH : ∀ {c' : Cfg}, Ext c2 c' → c'.H p = some (SetO w p (fun j => decide (j ∈ acc)) (ddI acc).length) := fun {c'} x' => by
        have x3 : Ext c c' := x2.trans x'
        have nl : ¬ Live c p := fun ⟨n, o, q, _⟩ => nφ n q
        exact (x3.keep p _ nl hH).1
      have keepφ : ∀ {c' : Cfg}, Ext c2 c' → ∀ n : Nat, c'.φ[n]? ≠ some p := fun {c'} x' n z => by
        rcases x'.new n p z with h | h
        · rcases x2.new n p h with h | h
          · exact nφ n h
          · rw [hH] at h; cases h
        · obtain ⟨o', ho'⟩ := x2.dom p _ hH
          rw [h] at ho'
          cases ho'
      unfold scT at key
      refine og v (wipe σ vs) c2.H _ _ (fun σ2 H2 e q => ⟨by rw [e]; exact wipe_wipe, q⟩) (sg _ c2 (wipeD st vs) (wipe σ vs) _ v _ rel2 (locc.mono x2) rv (Post.seq key fun st1 σ1 c3 q3 x3 rel3 loc3 h3 => ?_))
      refine st' _ c3 st1 σ1 _ rel3 loc3 (Post.seq h3 fun k k' c4 q4 x4 rel4 rk h4 => ?_)
      cases rk
      have run : scT dg dt de (wipeD st vs) s.xs[i] c2.S = if k = true then (de st1 c4.S).bind fun y S3 => .ok (some y) S3 else .ok none c4.S := by
        unfold scT
        rw [q3, R.bind_ok, q4, R.bind_ok]
      cases k with
      | true =>
        rw [if_pos rfl]
        rw [if_pos rfl] at h4 run
        refine se _ c4 st1 σ1 _ rel4 (loc3.mono x4) (Post.seq h4 fun y u c5 q5 x5 rel5 ru h5 => ?_)
        rw [q5, R.bind_ok] at run
        have x25 : Ext c2 c5 := (x3.trans x4).trans x5
        have hp5 := keepH x25
        have n5 := keepφ x25
        have hy5 := hc' _ c5.S run
        cases y with
        | int kk =>
          cases (show u = .int kk from ru)
          have lim : (ddI acc).length + 1 < scanBound := by have := ddI_le (l := acc); have := held.2; unfold scanBound; omega
          refine ⟨kk, _, _, rfl, hp5, lim, ⟨c5.φ, c5.S, upd c5.H p _⟩, acc ++ [kk], rfl, Ext.aside c1.H c1 (((x.trans x2).trans x25)) hp, n5, rel5.aside (.inr rfl) n5, ?_, ?_, hy5⟩
          · have l5 := (locc.mono x2).mono x25
            exact ⟨l5.1, fun i d e => let ⟨v, e1, r⟩ := l5.2 i d e; ⟨v, e1, Rp.aside (Or.inr rfl : A p ∨ p = p) d v r⟩⟩
          · show upd c5.H p _ p = _
            rw [upd_same, ddI_snoc]
            congr 2
            funext j
            rw [← Bool.decide_or]
            exact decide_eq_decide.mpr (by rw [List.mem_append, List.mem_singleton])
        | _ => exact hy5.elim
      | false =>
        rw [if_neg Bool.false_ne_true]
        rw [if_neg Bool.false_ne_true] at run
        have x24 : Ext c2 c4 := x3.trans x4
        exact ⟨c4, acc, rfl, (x.trans x2).trans x24, keepφ x24, rel4, (locc.mono x2).mono x24, keepH x24, hc' none c4.S run⟩
    · exact hc.elim
  · have e : i = s.xs.length := by omega
    subst e
    rw [List.drop_length] at hc
    unfold scD at hc
    split at hc
    · rename_i held
      obtain ⟨_, w2⟩ := wk (fun a => A a ∨ a = p) (fun a z => z.elim .inl fun z => .inr (z ▸ hp)) c x relc held.1 s.xs.length
      exact .inl ⟨w2 (Nat.le_refl _), p, _, _, rfl, hH, by have := ddI_le (l := acc); omega, hc (.int ((ddI acc).length : Nat)) c rfl x (relc.less fun a z => .inl z) rfl⟩
    · exact hc.elim
section
variable {tg iter elt : Expr} {ifs : List Expr} {scope : Scope} {own : List (Str × Nat)} {pos p2 q2 : Pos} {di : DIv} {dg : DGv} {dt : DTv} {de : DEv} {g : TG} {k : Nat}
theorem de_lenSc (G : GX X E k) (g1 : Gl X "len") (m1 : X.mg "len" = none) (hi : DI X cm E tg iter di) (ok : BlkOk X.N X.env.scope scope own)
    (hg : ∀ (s : Shared) (H : Hp) (C : Addr) (cl : List (Str × Addr)) (fp : List Addr), GX (X.blk s H scope (compEnvC scope cl C X.env) fp) E0 k → DGo (X.blk s H scope (compEnvC scope cl C X.env) fp) cm E0 tg (own.map (·.2)) dg g)
    (ht : ∀ (s : Shared) (H : Hp) (C : Addr) (cl : List (Str × Addr)) (fp : List Addr), GX (X.blk s H scope (compEnvC scope cl C X.env) fp) E0 k → DTs (X.blk s H scope (compEnvC scope cl C X.env) fp) cm E0 ifs dt)
    (he : ∀ (s : Shared) (H : Hp) (C : Addr) (cl : List (Str × Addr)) (fp : List Addr), GX (X.blk s H scope (compEnvC scope cl C X.env) fp) E0 k → DE (X.blk s H scope (compEnvC scope cl C X.env) fp) cm E0 elt de)
    (hs : ∀ x, foldedSetIterable iter X.env x = pure x := by intro _; rfl)
    (na : starEach [Expr.SetComp elt [⟨tg, iter, ifs, 0⟩] scope pos] X.env = (false, eval (.SetComp elt [⟨tg, iter, ifs, 0⟩] scope pos) X.env) :: starEach [] X.env := by rfl) : DE X cm E (.Call (.Name "len" p2) [.SetComp elt [⟨tg, iter, ifs, 0⟩] scope pos] [] q2) (dLenSc di dg dt de (own.map (·.2))) := by
  obtain ⟨ti, pi, si⟩ := hi.ex
  have o := hg {} (fun _ => none) 0 [] [] (G.blk _ _ _ _ _)
  exact ⟨_, pe_lenS g1 m1 (pe_scI (g := g) (tt := canonT X.K cm E0 dt) (te := canonE X.K cm E0 de) G.calm G.nd pi ok (fun s H C cl fp => (hg s H C cl fp (G.blk _ _ _ _ _)).pg) (fun s H C cl fp => (ht s H C cl fp (G.blk _ _ _ _ _)).canon) (fun s H C cl fp => (he s H C cl fp (G.blk _ _ _ _ _)).canon) hs) na, snd_lsc si o.snd o.only snd_canonT snd_canonE⟩
end
end

/-! ### what is never reached; tries that nothing leaves; texts put together -/
section
variable {X : Cx} {cm : String → Addr → Prop} {E : XK} {pos : Pos}
/-- a statement that is never reached -/
def dNever : DSv := fun _ _ => .no
theorem ds_never {s : Stmt} : DS X cm E s dNever := ⟨fun _ _ _ => False, ⟨fun _ _ _ _ _ _ h => h.elim⟩, fun _ _ _ _ _ _ _ h => h⟩
/-- a try that no exception leaves -/
def dMuteS (d : DSv) : DSv := fun st S => (d st S).mute
theorem PostS.unmute {G : Gam} {E E' : XK} {c : Cfg} {Ds : Ends} : ∀ {r : R Fl}, PostS G E c Ds r.mute → PostS G E' c Ds r
  | .ok fl S, h => by cases fl <;> exact h
  | .err _ _, h => h.elim
  | .no, h => h
theorem ds_tryNo {body : List Stmt} {h0 : ExceptHandler} {hs : List ExceptHandler} {d : DSv} {z : Nat} (G : GX X E z) (hb : GX X.nox E0 z → DSs X.nox cm E0 body d) : DS X cm E (.Try body (h0 :: hs) [] [] pos) (dMuteS d) := by
  obtain ⟨t, p, s⟩ := (hb ⟨G.calm, G.nd, G.room, passL, PassesOwn.never⟩).ex
  exact ⟨t, ps_try_thru0 p, fun A c st σ Ds rel loc h => s A c st σ Ds rel loc h.unmute⟩
/-- f-strings -/
def fmtV (x : D) (S : Store) : R D := match x with
  | .int i => if i.natAbs.log2 < 1920 ∧ okStr (toString i : String) = true then .ok (.str (toString i : String)) S else .no
  | .str z => .ok (.str z) S
  | _ => .no
theorem de_fmt {e : Expr} {d : DEv} (h : DE X cm E e d) : DE X cm E (.FormattedValue e (-1) none pos) (dUn fmtV d) := by
  obtain ⟨t, p, s⟩ := h.ex
  refine ⟨_, pe_fmt p, fun A c st σ Q rel loc h => s A c st σ _ rel loc (Post.seq h fun x v c1 q1 x1 rel1 rx h1 => ?_)⟩
  unfold fmtV at h1
  split at h1
  · rename_i i
    split at h1
    · rename_i hl
      have g := hl.2
      unfold okStr at g
      rw [Bool.and_eq_true] at g
      exact .inr ⟨i, rx, hl.1, h1.here rel1 ⟨rfl, g.1, Nat.le_trans (of_decide_eq_true g.2) million⟩⟩
    · exact h1.elim
  · rename_i z
    exact .inl ⟨z, rx.1, rx.2.2, h1.here rel1 ⟨rfl, rx.2⟩⟩
  · exact h1.elim
def dJs : List DEv → Str → DSt → Store → R D
  | [], acc, _, S => .ok (.str acc) S
  | d :: ds, acc, st, S => (d st S).bind fun x S1 => match x with
    | .str y => if okStr (acc ++ y) = true then dJs ds (acc ++ y) st S1 else .no
    | _ => .no
structure DJ (X : Cx) (cm : String → Addr → Prop) (E : XK) (es : List Expr) (ds : List DEv) : Prop where
  ex : ∃ ts, PJ X es ts ∧ ∀ (A : Addr → Prop) (c : Cfg) (st : DSt) (σ : L2.St) (Q : VK) (acc : Str), RelC ⟨X.K, cm, A⟩ c → LocR ⟨X.K, cm, A⟩ c st σ → okStr acc = true → Post ⟨X.K, cm, A⟩ E (Rp ⟨X.K, cm, A⟩) c Q (dJs ds acc st c.S) → tJs ts acc σ c.H fun out H1 => Q (.str out) H1
theorem okStr_is {z : Str} (h : okStr z = true) : PySem.PyData.strOk z = true ∧ z.length ≤ sizeLine := by
  unfold okStr at h
  rw [Bool.and_eq_true] at h
  exact ⟨h.1, Nat.le_trans (of_decide_eq_true h.2) million⟩
theorem dj_nil : DJ X cm E [] [] := ⟨[], .nil, fun A c st σ Q acc rel loc ok h => h.here rel ⟨rfl, okStr_is ok⟩⟩
theorem dj_cons {e : Expr} {es : List Expr} {d : DEv} {ds : List DEv} (h : DE X cm E e d) (r : DJ X cm E es ds) : DJ X cm E (e :: es) (d :: ds) := by
  obtain ⟨t, p, s⟩ := h.ex
  obtain ⟨ts, p2, s2⟩ := r.ex
  refine ⟨t :: ts, .cons p p2, fun A c st σ Q acc rel loc ok h => ?_⟩
  unfold dJs at h
  refine s A c st σ _ rel loc (Post.seq h fun x v c1 q1 x1 rel1 rx h1 => ?_)
  split at h1
  · rename_i y
    split at h1
    · rename_i ok2
      exact ⟨y, rx.1, (okStr_is ok2).2, s2 A c1 st σ Q _ rel1 (loc.mono x1) ok2 h1⟩
    · exact h1.elim
  · exact h1.elim
def dJoinS (ds : List DEv) : DEv := fun st S => dJs ds Str.empty st S
theorem de_joined {v1 v2 : Expr} {rest : List Expr} {ds : List DEv} (h : DJ X cm E (v1 :: v2 :: rest) ds) : DE X cm E (.JoinedStr (v1 :: v2 :: rest) pos) (dJoinS ds) := by
  obtain ⟨ts, p, s⟩ := h.ex
  exact ⟨_, pe_joined p, fun A c st σ Q rel loc h => s A c st σ Q Str.empty rel loc (by decide +kernel) h⟩
/-- xs[::2] of eight things -/
def tStep2 (K : PySem.W.Frag) (te : TE) (tl : TO) : TE := fun σ H Q => te σ H fun x H1 => tl σ H1 fun k H2 => k = some 2 ∧ ∃ (a : Addr) (x0 x1 x2 x3 x4 x5 x6 x7 : V), x = .ref a ∧ SqL K H2 a [x0, x1, x2, x3, x4, x5, x6, x7] ∧ ∀ p, H2 p = none → Q (.ref p) (upd H2 p (.lst [x0, x2, x4, x6]))
theorem vals_cons {x : V} {xs : List V} {us : List Value} (h : Vals (x :: xs) us) : ∃ y ys, us = y :: ys ∧ RelV x y ∧ Vals xs ys := by
  cases h with
  | cons a b => exact ⟨_, _, rfl, a, b⟩
theorem pick_2 {y0 y1 y2 y3 y4 y5 y6 y7 : Value} : slicePick [y0, y1, y2, y3, y4, y5, y6, y7].toArray none none (some 2) = [y0, y2, y4, y6].toArray := by
  have e0 : sliceBounds none none (some 2) 8 = (0, 8, 2) := by decide +kernel
  have e1 : sliceRange 0 8 2 = [0, 2, 4, 6] := by decide +kernel
  unfold slicePick
  have e2 : [y0, y1, y2, y3, y4, y5, y6, y7].toArray.size = 8 := rfl
  rw [e2, e0]
  show ((sliceRange 0 8 2).filterMap ([y0, y1, y2, y3, y4, y5, y6, y7].toArray[·]?)).toArray = _
  rw [e1]
  rfl
theorem pe_step2 {e : Expr} {te : TE} {tl : TO} {p2 p3 : Pos} {j : Nat} (he : PE X e te) (hl : PO X (some (.Constant (.int 2) j p3)) tl) : PE X (.Subscript e (.Slice none none (some (.Constant (.int 2) j p3)) p2) pos) (tStep2 X.K te tl) := by
  refine ⟨fun pins s σ H Q I h => ?_⟩
  refine Subscript_ (thn (he.run pins s σ H _ I h) fun v s1 ⟨x, H1, I1, r1, q1⟩ => ?_)
  refine wpAny_Slice ?_
  rw [evalPart_none]
  refine wpAny_pure (wpAny_pure ?_)
  refine thn (hl.run pins s1 σ H1 _ I1 q1) ?_
  rintro vs s3 ⟨k, H3, I3, pk, rfl, a, x0, x1, x2, x3, x4, x5, x6, x7, rfl, hs, q⟩
  cases r1
  have I4 : Inv X pins σ H3 { s3 with heap := s3.heap.push { cls := .type "slice", data := .fields #[.none, .none, vs] } } := I3.kept (t' := s3.toks) fun b ob q => Heap.get?_push_of_some _ q
  obtain ⟨its, r, ht, hz⟩ := I4.list hs
  show wpAny (model X.prog X.w) X.A (subscriptTail e (.Slice none none (some (.Constant (.int 2) j p3)) p2) (.ref a) (.ref s3.heap.objs.size)) (EP X pins σ Q) X.xe { s3 with heap := s3.heap.push { cls := .type "slice", data := .fields #[.none, .none, vs] } }
  refine tail_any (ops := [.ref a, .ref s3.heap.objs.size]) ht.isList.typeIs slot_list_getitem.lookup ?_ rfl
  obtain ⟨y0, i0, rfl, a0, r⟩ := vals_cons r
  obtain ⟨y1, i1, rfl, a1, r⟩ := vals_cons r
  obtain ⟨y2, i2, rfl, a2, r⟩ := vals_cons r
  obtain ⟨y3, i3, rfl, a3, r⟩ := vals_cons r
  obtain ⟨y4, i4, rfl, a4, r⟩ := vals_cons r
  obtain ⟨y5, i5, rfl, a5, r⟩ := vals_cons r
  obtain ⟨y6, i6, rfl, a6, r⟩ := vals_cons r
  obtain ⟨y7, i7, rfl, a7, r⟩ := vals_cons r
  cases r
  refine wpAny_getItem_list_slice ht.isList (Heap.IsSliceOf.new ..) .none .none pk (by decide) ?_ (by show 8 ≤ sizeLine; rw [sizeLine_eq]; omega)
  have ep : slicePick [y0, y1, y2, y3, y4, y5, y6, y7].toArray none none (some 2) = [y0, y2, y4, y6].toArray := pick_2
  rw [ep]
  have fr := I4.hok.fresh (Nat.le_refl _)
  refine ⟨.ref _, _, I4.laid (t' := s3.toks) (o := .lst [x0, x2, x4, x6]) (fun b ob q => Heap.get?_push_of_some _ q) (Nat.le_refl _) ?_, rfl, q _ fr⟩
  exact ⟨by show 4 ≤ sizeLine; rw [sizeLine_eq]; omega, _, 0, .cons a0 (.cons a2 (.cons a4 (.cons a6 .nil))), Heap.get?_push_size _ rfl⟩
def evens8 : List D → Option (List D)
  | [x0, _, x2, _, x4, _, x6, _] => some [x0, x2, x4, x6]
  | _ => none
def step2V (x : D) (S : Store) : R D := match lsOf S x with
  | some xs => match evens8 xs with
    | some ys => .ok (.lst ys) S
    | none => .no
  | none => .no
theorem de_step2 {e : Expr} {d : DEv} {j : Nat} {p2 p3 : Pos} (h : DE X cm E e d) : DE X cm E (.Subscript e (.Slice none none (some (.Constant (.int 2) j p3)) p2) pos) (dUn step2V d) := by
  obtain ⟨t, p, s⟩ := h.ex
  refine ⟨_, pe_step2 p (po_some pe_int), fun A c st σ Q rel loc h => s A c st σ _ rel loc (Post.seq h fun x v c1 q1 x1 rel1 rx h1 => ?_)⟩
  unfold step2V at h1
  split at h1
  · rename_i xs hx
    split at h1
    · rename_i ys hy
      obtain ⟨b, ws, e1, hs, t⟩ := lsOf_rep rel1 rx hx
      unfold evens8 at hy
      split at hy
      · cases hy
        obtain ⟨v0, _, rfl, r0, v1, _, rfl, _, v2, _, rfl, r2, v3, _, rfl, _, v4, _, rfl, r4, v5, _, rfl, _, v6, _, rfl, r6, v7, _, rfl, _, rfl⟩ := t
        exact ⟨2, rfl, rfl, b, v0, v1, v2, v3, v4, v5, v6, v7, e1, hs, h1.newL rel1 (RpA.cons r0 (RpA.cons r2 (RpA.cons r4 (RpA.cons r6 RpA.nil))))⟩
      · cases hy
    · exact h1.elim
  · exact h1.elim
/-- int of a text -/
def intS (ds : List D) (S : Store) : R D := match ds with
  | [.str z] => match PySem.intText? z with
    | some n => if z.length ≤ 640 then .ok (.int n) S else .no
    | none => .no
  | _ => .no
theorem intS_s {K : PySem.W.Frag} : CallS K cm (fun xs H Q => ∃ a n, xs = [.str a] ∧ PySem.intText? a = some n ∧ a.length ≤ 640 ∧ Q (.int n) H) intS := fun A c ds vs Q rel rd h => by
  unfold intS at h
  split at h
  · split at h
    · rename_i n hn
      split at h
      · rename_i hl
        obtain ⟨v, e, r⟩ := RpA.one rd
        exact ⟨_, n, by rw [e, r.1], hn, hl, h.here rel rfl⟩
      · exact h.elim
    · exact h.elim
  · exact h.elim
theorem intS_n : NoErrA intS := fun ds S => by unfold intS; split <;> (try split) <;> (try split) <;> exact True.intro
end

/-! ### within an except suite: range, list comprehensions (follows HandS.Comp's and HandS.HotCalls' steps; the handled exception's context is None) -/
structure TurnQ (P : Program) (w : World) (K : PySem.W.Frag) (tg : Expr) (J : It) (fp : List Addr) (it : Addr) (tn : Nat → Heap → Prop) : Prop where
  mem : it ∈ fp
  obj : ∀ i h, tn i h → ∀ b ∈ fp, ∃ o, h.get? b = some o ∧ ∀ v, o.data ≠ .cell v
  keep : ∀ i h h', tn i h → (∀ b ∈ fp, ∀ o, h.get? b = some o → h'.get? b = some o) → tn i h'
  item : ∀ (X : Cx), X.prog = P → X.w = w → X.K = K → ∀ (i : Nat) (pins : List (Addr × Obj)) (s : Shared) (σ : L2.St) (H : Hp) (E : Value → Shared → Prop), Inv X pins σ H s → (∀ b ∈ fp, FpOk X pins H b) → tn i s.heap → J.go i H →
    wpAny (model P w) X.A (pyNext (.ref it)) (fun r s1 => ∃ u, r = some u ∧
      wpAny (model P w) X.A (letOwnedTupleGo tg (.ref it) u) (fun _ s2 => ∃ x H', Inv X pins σ H' s2 ∧ RelV x u ∧ J.yld i H x H' ∧ tn (i + 1) s2.heap ∧ ∀ b ∈ fp, H' b = none) E s1) E s
  done : ∀ (X : Cx), X.prog = P → X.w = w → X.K = K → ∀ (i : Nat) (pins : List (Addr × Obj)) (s : Shared) (σ : L2.St) (H : Hp) (E : Value → Shared → Prop), Inv X pins σ H s → (∀ b ∈ fp, FpOk X pins H b) → tn i s.heap → (∃ x1, HotX.HotAt X.A x1 s.heap) → J.stop i H →
    wpAny (model P w) X.A (pyNext (.ref it)) (fun r s1 => r = none ∧ Inv X pins σ H s1) E s
  self : ∀ (A : Around) (i : Nat) (s : Shared) (Q : Value → Shared → Prop) (E : Value → Shared → Prop), tn i s.heap → Q (.ref it) s → wpAny (model P w) A (pyIter (.ref it)) Q E s
theorem turn_rangeQ {P : Program} {w : World} {K : PySem.W.Frag} {tg : Expr} (it : Addr) (lo : Int) (n : Nat) : TurnQ P w K tg (Itr lo n) [it] it (fun i h => IsRangeIter h it (lo + (i : Nat) * 1) ((n : Int) - (i : Nat)) 1) where
  mem := by simp
  obj := fun i h st b hb => by
    have e : b = it := by simpa using hb
    subst e
    exact ⟨_, st, fun v z => by
      have z' : Data.fields _ = Data.cell v := z
      cases z'⟩
  keep := fun i h h' st k => k it (by simp) _ st
  item := by
    intro X hP hw hK i pins s σ H E I hf st hg
    subst hP hw hK
    obtain ⟨f0, f1, f2, f3, f4, f5⟩ := hf it (by simp)
    have hlt : i < n := hg
    refine wpAny_pyNext_range_item st (by omega) fun h' st' sb => ?_
    have st2 : IsRangeIter h' it (lo + ((i + 1 : Nat) : Int) * 1) ((n : Int) - ((i + 1 : Nat) : Int)) 1 := by
      have e1 : lo + ((i : Nat) : Int) * 1 + 1 = lo + ((i + 1 : Nat) : Int) * 1 := by omega
      have e2 : (n : Int) - ((i : Nat) : Int) - 1 = (n : Int) - ((i + 1 : Nat) : Int) := by omega
      rw [← e1, ← e2]
      exact st'
    have I1 : Inv X pins σ H { s with heap := h', toks := s.toks + 1 } := I.turned (fun b o hb e => (sb.2 b hb).trans e) f0 f1 f3 f4 f5
    refine ⟨_, rfl, go_of (s := { s with heap := h', toks := s.toks + 1 }) (n := "range_iterator") st2 rfl rfl (by decide) ⟨.int (lo + i), H, I1, ⟨s.toks, ?_⟩, ⟨rfl, rfl⟩, st2, fun b hb => (hf b hb).1⟩⟩
    rw [Int.mul_one]
  done := by
    intro X hP hw hK i pins s σ H E I hf st ⟨x1, hot⟩ hg
    subst hP hw hK
    obtain ⟨f0, f1, f2, f3, f4, f5⟩ := hf it (by simp)
    exact HotX.pyNext_range_end_hot hot st (by have : n ≤ i := hg; omega) fun h' eb => ⟨rfl, I.turned (t' := s.toks) (fun b o _ e => eb b o e) f0 f1 f3 f4 f5⟩
  self := fun _ _ _ _ _ st h => wpAny_pyIter_rangeiter st h
def PIEQ (X : Cx) (pins : List (Addr × Obj)) (σ : L2.St) (tg : Expr) (R : It → Hp → Prop) (itv : Value) (s2 : Shared) : Prop :=
  ∃ (it : Addr) (fp : List Addr) (tn : Nat → Heap → Prop) (J : It) (H' : Hp), itv = .ref it ∧ Inv X pins σ H' s2 ∧ TurnQ X.prog X.w X.K tg J fp it tn ∧ tn 0 s2.heap ∧ (∀ b ∈ fp, FpOk X pins H' b) ∧ R J H'
structure PIQ (X : Cx) (tg iter : Expr) (wi : TI) : Prop where
  run : ∀ (pins : List (Addr × Obj)) (s : Shared) (σ : L2.St) (H : Hp) (R : It → Hp → Prop), Inv X pins σ H s → wi σ H R →
    wpAny (model X.prog X.w) X.A (eval iter X.env) (fun v s1 => wpAny (model X.prog X.w) X.A (pyIter v) (PIEQ X pins σ tg R) X.xe s1) X.xe s
section
variable {X : Cx} {tg : Expr}
theorem range_itQ {pins : List (Addr × Obj)} {σ : L2.St} {H : Hp} {s : Shared} {R : It → Hp → Prop} {E : Value → Shared → Prop} {lo hi : Int} {t u v : Tok} {tk : Nat} (I : Inv X pins σ H s) (h1 : -(2 ^ 62) ≤ lo) (h2 : lo < 2 ^ 62) (h3 : -(2 ^ 62) ≤ hi) (h4 : hi < 2 ^ 62)
    (q : R (Itr lo (hi - lo).toNat) H) : wpAny (model X.prog X.w) X.A (pyIter (.ref s.heap.objs.size)) (PIEQ X pins σ tg R) E { s with heap := s.heap.push { cls := .type "range", data := .fields #[.int lo t, .int hi u, .int 1 v] }, toks := tk } := by
  refine wpAny_pyIter_range (IsRange.new ..) (small_one h1 h2 h3 h4) ?_
  have I1 : Inv X pins σ H { s with heap := s.heap.push { cls := .type "range", data := .fields #[.int lo t, .int hi u, .int 1 v] }, toks := tk } := I.kept fun b o e => Heap.get?_push_of_some _ e
  refine ⟨(s.heap.push { cls := .type "range", data := .fields #[.int lo t, .int hi u, .int 1 v] }).objs.size, [(s.heap.push { cls := .type "range", data := .fields #[.int lo t, .int hi u, .int 1 v] }).objs.size], _, _, H, rfl,
    I1.kept (t' := tk) fun b o e => Heap.get?_push_of_some _ e, turn_rangeQ _ lo (hi - lo).toNat, ?_, fun b hb => ?_, q⟩
  · have e1 : lo + ((0 : Nat) : Int) * 1 = lo := by simp
    have e2 : (((hi - lo).toNat : Nat) : Int) - ((0 : Nat) : Int) = Builtin.Range.rangeSize lo hi 1 := by rw [rangeSize_one]; split <;> omega
    show IsRangeIter _ _ (lo + ((0 : Nat) : Int) * 1) ((((hi - lo).toNat : Nat) : Int) - ((0 : Nat) : Int)) 1
    rw [e1, e2]
    exact Heap.get?_push_size _ rfl
  · have e : b = (s.heap.push { cls := .type "range", data := .fields #[.int lo t, .int hi u, .int 1 v] }).objs.size := by simpa using hb
    subst e
    exact I1.fpOk (Nat.le_refl _) (I1.hok.fresh (Nat.le_refl _))
theorem pi_range1Q {a : Expr} {ta : TA} {p pos : Pos} (hg : Gl X "range") (hm : X.mg "range" = none) (ha : PA X [a] ta) (hs : starEach [a] X.env = [(false, eval a X.env)] := by rfl) : PIQ X tg (.Call (.Name "range" p) [a] [] pos) (iRng1 ta) := by
  refine ⟨fun pins s σ H R I h => ?_⟩
  refine Call_ (ld_blt I hg hm boot_range (PyProof.Rows.callWith_type1 (thn (ha.run pos pins s σ H _ I h) fun us s1 ⟨vs, H1, I1, r1, q1⟩ => ?_) hs rfl))
  obtain ⟨j, e, q1, q2, q⟩ := q1
  subst e
  cases r1 with
  | cons r rr =>
    cases rr
    obtain ⟨t, rfl⟩ := r
    exact call_range_1 (range_itQ I1 (by omega) (by omega) q1 q2 (by simpa using q))
theorem lcq_core {pins : List (Addr × Obj)} {s : Shared} {σ : L2.St} {H : Hp} {Q : VK} {elt tg iter : Expr} {ifs : List Expr} {scope : Scope} {own : List (Str × Nat)} {pos pos' : Pos} {wi : TI} {g : TG} {tt : TT} {te : TE} {use : Option (Value → Sem Unit)} {Qf : Value → Shared → Prop}
    {pp : Addr × Obj} (hot : L2H.Hot1 X.A pp) (hpn : pp ∈ X.pn) (hN : X.N.Nodup) (I : Inv X pins σ H s) (hi : PIQ X tg iter wi) (ok : BlkOk X.N X.env.scope scope own)
    (hg : ∀ (s : Shared) (H : Hp) (C : Addr) (cl : List (Str × Addr)) (fp : List Addr), PG (X.blk s H scope (compEnvC scope cl C X.env) fp) tg g) (ht : ∀ (s : Shared) (H : Hp) (C : Addr) (cl : List (Str × Addr)) (fp : List Addr), PTs (X.blk s H scope (compEnvC scope cl C X.env) fp) ifs tt)
    (he : ∀ (s : Shared) (H : Hp) (C : Addr) (cl : List (Str × Addr)) (fp : List Addr), PE (X.blk s H scope (compEnvC scope cl C X.env) fp) elt te) (hs : ∀ x, foldedSetIterable iter X.env x = pure x)
    (h : tLc wi g tt te (own.map (·.2)) σ H Q)
    (hRR : ∀ D C s' m H', Inv X pins σ H' s' → Q (.ref D) H' → s'.heap.Ns C m → FpOk X pins H' C → compPost (model X.prog X.w) X.A X.xe use Qf (.ref D) C (.ok .next) s') :
    wpAny (model X.prog X.w) X.A (comprehension (.ListComp elt [⟨tg, iter, ifs, 0⟩] scope pos) scope X.env pos' (newList []) false (eval iter X.env) use) Qf X.xe s := by
  have hfree : ∀ y ∈ scope.names, y.2 = .free → ∃ c, X.env.cells.lookup y.1 = some c := fun y hy e => by
    rcases ok.free y hy e with k | k
    · exact I.ok.has _ (.inl k)
    · exact I.ok.has _ (.inr k)
  refine wpAny_comprehension_free (use := use) rfl hs (closure_ok hfree) ok.kind (fun y hy e => by rw [ok.uniq y hy, e])
    (thn (hi.run pins s σ H _ I h) fun xv s1 hx => thn hx fun itv s2 h2 => ?_)
  obtain ⟨it, fp, tn, J, H2, e, I2, T, st2, f2, q⟩ := h2
  subst e
  refine wpAny_newObj_type (newEnv_comp ?_) (by show 0 ≤ sizeLine; decide)
  generalize hD : s2.heap.objs.size = D
  have hDn : H2 D = none := I2.hok.fresh (Nat.le_of_eq hD)
  obtain ⟨W, ⟨m0, w0⟩, turn⟩ := q D hDn
  -- the new list
  generalize hs3 : ({ s2 with heap := s2.heap.push { cls := .type "list", data := .seq ([] : List Value).toArray } } : Shared) = s3
  have I3 : Inv X pins σ (upd H2 D (.lst [])) s3 := by
    rw [← hs3]
    refine I2.laid (t' := s2.toks) (fun b o e => Heap.get?_push_of_some _ e) (Nat.le_of_eq hD) ⟨Nat.zero_le _, [], 0, .nil, ?_⟩
    rw [← hD]
    exact Heap.get?_push_size _ rfl
  have h3 : s3.heap = s2.heap.push { cls := .type "list", data := .seq ([] : List Value).toArray } := by rw [← hs3]
  have sz : ∀ b ∈ fp, b < s2.heap.objs.size := fun b hb => by
    obtain ⟨o, e, _⟩ := T.obj _ _ st2 b hb
    exact Heap.lt_size e
  have f3 : ∀ b ∈ fp, FpOk X pins (upd H2 D (.lst [])) b ∧ b < s3.heap.objs.size := fun b hb => by
    have hlt := sz b hb
    refine ⟨⟨?_, (f2 b hb).2⟩, by rw [h3, Heap.size_push]; exact Nat.lt_succ_of_lt hlt⟩
    rw [upd_ne (by rw [← hD]; exact Nat.ne_of_lt hlt)]
    exact (f2 b hb).1
  have st3 : tn 0 s3.heap := T.keep _ _ _ st2 fun b _ o e => by rw [h3]; exact Heap.get?_push_of_some _ e
  have I4 := block_start I3 ok hN f3
  have pg := hg s3 (upd H2 D (.lst [])) s3.heap.objs.size (cellsFrom (s3.heap.objs.size + 1) scope.names (cloFrom X.env.cells scope.names [])) fp
  have pt := ht s3 (upd H2 D (.lst [])) s3.heap.objs.size (cellsFrom (s3.heap.objs.size + 1) scope.names (cloFrom X.env.cells scope.names [])) fp
  have pe := he s3 (upd H2 D (.lst [])) s3.heap.objs.size (cellsFrom (s3.heap.objs.size + 1) scope.names (cloFrom X.env.cells scope.names [])) fp
  show codeAny _ _ (.compStart (.ListComp elt [⟨tg, iter, ifs, 0⟩] scope pos) 0 (.ref it) (.ref D) (compEnvC scope (cellsFrom (s3.heap.objs.size + 1) scope.names (cloFrom X.env.cells scope.names [])) s3.heap.objs.size X.env)) (compPost (model X.prog X.w) X.A X.xe use Qf (.ref D) s3.heap.objs.size) { s3 with heap := pushCells (s3.heap.push { cls := .type "dict", data := .dict #[] }) scope.names }
  have nfp : ∀ b ∈ fp, (upd H2 D (.lst [])) b = none := fun b hb => (f3 b hb).1.1
  generalize hce : compEnvC scope (cellsFrom (s3.heap.objs.size + 1) scope.names (cloFrom X.env.cells scope.names [])) s3.heap.objs.size X.env = ce at I4 pg pt pe ⊢
  have cL : ce.locals = s3.heap.objs.size := by subst hce; rfl
  generalize hH3 : upd H2 D (.lst []) = H3 at I3 I4 pg pt pe w0 nfp f3
  generalize hs4 : ({ s3 with heap := pushCells (s3.heap.push { cls := .type "dict", data := .dict #[] }) scope.names } : Shared) = s4 at I4 ⊢
  have st4 : tn 0 s4.heap := T.keep _ _ _ st3 fun b _ o e => by rw [← hs4]; exact pushCells_keeps _ _ _ _ (Heap.get?_push_of_some _ e)
  have stat : ∀ {σ' : L2.St} {H' : Hp} {s' : Shared}, Inv (X.blk s3 H3 scope ce fp) [] σ' H' s' → (∀ b ∈ fp, H' b = none) → ∀ b ∈ fp, FpOk (X.blk s3 H3 scope ce fp) [] H' b := fun {σ' H' s'} I' hn b hb =>
    ⟨hn b hb, (I'.ok.exf b hb).1, I'.ok.exfs b hb, .inl hb, fun x c e => (I'.ok.exf b hb).2 x c e, fun p hp => absurd (show p ∈ ([] : List (Addr × Obj)) ++ [] from hp) (by simp)⟩
  have loop : codeAny (model X.prog X.w) X.A (.compLoop (.ListComp elt [⟨tg, iter, ifs, 0⟩] scope pos) 0 (.ref it) (.ref D) ce) (compPost (model X.prog X.w) X.A X.xe use Qf (.ref D) s3.heap.objs.size) s4 := by
    refine compLoop_any (fun n s' => ∃ i H', Inv (X.blk s3 H3 scope ce fp) [] (wipe σ (own.map (·.2))) H' s' ∧ tn i s'.heap ∧ (∀ b ∈ fp, H' b = none) ∧ W i n H') ?_ m0 ⟨0, H3, I4, st4, nfp, w0⟩
    rintro n s5 ⟨i, H5, I5, st5, n5, w5⟩
    rcases turn i n H5 w5 with ⟨stop, qq⟩ | ⟨go, Nx, hNx, step⟩
    · have hh : ∃ x1, HotX.HotAt X.A x1 s5.heap := by
        have P1 := I3.pin pp (List.mem_append_left _ hpn)
        have nf : pp.1 ∉ frs X.stack := fun hm => (List.mem_cons.mp (I3.stkSub pp.1 hm)).elim P1.2.2.1 P1.2.2.2.1
        have nx : pp.1 ∉ fp := fun hm => (f3 pp.1 hm).1.2.2.2.2.2 pp (List.mem_append_left _ hpn) rfl
        obtain ⟨vs, e1, e2⟩ := hot.2
        exact ⟨pp.1, hot.1, pp.2, vs, I5.base.keep pp.1 pp.2 P1.1 P1.2.1 nf nx, e1, e2⟩
      have td := T.done (X.blk s3 H3 scope ce fp) rfl rfl rfl i [] s5 _ H5 (fun _ _ => False) I5 (stat I5 n5) st5 hh stop
      refine thnF td fun r s6 ⟨hr, I6⟩ => ?_
      subst hr
      -- back in the def's context
      have I7 : Inv X pins σ H5 s6 := I3.call' (ch := fp) I6.os I6.base I6.hok I6.bare fun b hb => ⟨(f3 b hb).1.2.2.2.1, (f3 b hb).1.2.1, (f3 b hb).1.2.2.2.2.1, (f3 b hb).1.2.2.2.2.2⟩
      have nC : H5 s3.heap.objs.size = none := by
        have z : H5 ce.locals = none := I6.free
        rw [cL] at z
        exact z
      obtain ⟨m, hn, _⟩ := I6.loc
      have hn : s6.heap.Ns ce.locals m := hn
      rw [cL] at hn
      exact hRR D s3.heap.objs.size s6 m H5 I7 qq hn (I3.fpOk (Nat.le_refl _) nC)
    · have ti := T.item (X.blk s3 H3 scope ce fp) rfl rfl rfl i [] s5 _ H5 (fun _ _ => False) I5 (stat I5 n5) st5 go
      refine thnF ti fun r s6 ⟨u, hr, h6⟩ => ?_
      subst hr
      refine thnF h6 fun _ s7 ⟨x, H7, I7, r7, y7, st7, n7⟩ => ?_
      have I7' := I7.pinned (stat I7 n7) (T.obj _ _ st7)
      refine thnF (pg.run _ s7 _ H7 x u _ I7' r7 (step x H7 y7)) fun _ s8 ⟨σ8, H8, I8, hw8, q8⟩ => ?_
      refine thnF (pt.run _ s8 σ8 H8 _ I8 q8) fun b s9 ⟨H9, I9, q9⟩ => ?_
      -- the turn's end
      have fin : ∀ {s' : Shared} {H' : Hp}, Inv (X.blk s3 H3 scope ce fp) ([] ++ pinsAt fp s7.heap) σ8 H' s' → Nx H' → ∃ m, m < n ∧ ∃ i H', Inv (X.blk s3 H3 scope ce fp) [] (wipe σ (own.map (·.2))) H' s' ∧ tn i s'.heap ∧ (∀ b ∈ fp, H' b = none) ∧ W i m H' := fun {s' H'} I' nx => by
        obtain ⟨m', hm, w'⟩ := hNx H' nx
        have pin' : ∀ b ∈ fp, ∀ o, s7.heap.get? b = some o → s'.heap.get? b = some o ∧ H' b = none := fun b hb o e =>
          let z := I'.pin (b, o) (List.mem_append_right _ (List.mem_append_right _ (mem_pinsAt hb e)))
          ⟨z.1, z.2.1⟩
        have hl : (wipe σ (own.map (·.2))).length = σ8.length := by rw [← hw8, wipe_length]
        refine ⟨m', hm, i + 1, H', (I'.unpinned (pins := [])).weak hl (fun j v e => ?_), T.keep _ _ _ st7 fun b hb o e => (pin' b hb o e).1, fun b hb => ?_, w'⟩
        · rw [← hw8] at e
          exact (wipe_some e).1
        · obtain ⟨o, e, _⟩ := T.obj _ _ st7 b hb
          exact (pin' b hb o e).2
      cases b with
      | false =>
        simp only [Bool.false_eq_true, if_false] at q9 ⊢
        exact fin I9 q9
      | true =>
        simp only [if_true] at q9 ⊢
        refine thnF (pe.run _ s9 σ8 H9 _ I9 q9) fun z s10 ⟨yv, H10, I10, r10, acc, hD10, hz10, nx⟩ => ?_
        exact app_ok (X := X.blk s3 H3 scope ce fp) I10 hD10 hz10 r10 fun s11 I11 => fin I11 nx
  exact codeAny_compStart_list loop (T.self X.A 0 _ _ _ st4 loop)
theorem pe_lcq {elt tg iter : Expr} {ifs : List Expr} {scope : Scope} {own : List (Str × Nat)} {pos : Pos} {wi : TI} {g : TG} {tt : TT} {te : TE} {pp : Addr × Obj} (hot : L2H.Hot1 X.A pp) (hpn : pp ∈ X.pn) (hN : X.N.Nodup) (hi : PIQ X tg iter wi) (ok : BlkOk X.N X.env.scope scope own)
    (hg : ∀ (s : Shared) (H : Hp) (C : Addr) (cl : List (Str × Addr)) (fp : List Addr), PG (X.blk s H scope (compEnvC scope cl C X.env) fp) tg g) (ht : ∀ (s : Shared) (H : Hp) (C : Addr) (cl : List (Str × Addr)) (fp : List Addr), PTs (X.blk s H scope (compEnvC scope cl C X.env) fp) ifs tt)
    (he : ∀ (s : Shared) (H : Hp) (C : Addr) (cl : List (Str × Addr)) (fp : List Addr), PE (X.blk s H scope (compEnvC scope cl C X.env) fp) elt te) (hs : ∀ x, foldedSetIterable iter X.env x = pure x := by intro _; rfl) :
    PE X (.ListComp elt [⟨tg, iter, ifs, 0⟩] scope pos) (tLc wi g tt te (own.map (·.2))) := by
  refine ⟨fun pins s σ H Q I h => ?_⟩
  rw [eval_ListComp]
  refine lcq_core hot hpn hN I hi ok hg ht he hs h fun D C s' m H' I' q hn f => ⟨m, hn, fun h'' sb => ?_⟩
  obtain ⟨f0, f1, f2, f3, f4, f5⟩ := f
  exact ⟨.ref D, H', I'.turned (t' := s'.toks) (fun b o hb e => (sb.2 b hb).trans e) f0 f1 f3 f4 f5, rfl, q⟩
end

namespace ExQ
open PySem.HandSPX
section
variable {M : Model} {A : Around} {E : Value → Shared → Prop} {h : Heap} {g : Array GenState} {d : Drawn} {t : Nat} {os : OsState}
variable {nm q : Str} {C N : Addr} {bs bm bmB : List Value} {hdct : Bool} {sn : List Str} {sub : List Value} {ab : Bool} {col : Option Bool} {dd : Option Addr} {k0 k1 k2 k3 k5 : Option Value} {B newId initId : String} {kf : Str} {kv : Value}
theorem check_new_ownK (F : ExcBaseFacts B newId initId bmB) (hT : ∀ X : String, bm.contains (.type X) = bmB.contains (.type X)) {rest : List Value} {Q : Unit → Shared → Prop}
    (hC : h.get? C = some (excClassObj nm q C N bs bm hdct sn sub ab col dd k0 k1 k2 k3 k5 newId)) (hq : Q () ⟨h, g, d, t, os⟩) : wpAny M A (checkBuiltinCall newId ⟨.ref C :: rest, [(kf, kv)]⟩) Q E ⟨h, g, d, t, os⟩ := by
  have hcont : (Value.ref C :: bm).contains (.type B) = true := by rw [List.contains_cons, hT, F.hasB, Bool.or_true]
  have hstar := F.noStar
  simp only [checkBuiltinCall, F.newKind, F.newSplit, F.newRow]
  repeat (first | refine wpAny_loadPart_at hC ?_ | (refine wpAny_isSubtype_exc hC ?_; rw [hcont]) | refine wpAny_staticBase_exc hC ?_ | refine wpAny_madeBy_exc hC ?_ | simp only [bne_self_eq_false, Bool.false_eq_true, if_false] | wp_step)
  exact hq
end
section
variable {prog : Program} {w : World} {A : Around} {E : Value → Shared → Prop} {R : Result → Shared → Prop} {h : Heap} {g : Array GenState} {d : Drawn} {t : Nat} {os : OsState}
variable {nm q : Str} {C N : Addr} {bs bm bmB : List Value} {hdct : Bool} {sn : List Str} {sub : List Value} {ab : Bool} {col : Option Bool} {dd : Option Addr} {k0 k1 k2 k3 k5 : Option Value} {B newId initId : String} {kf : Str} {kv : Value}
theorem new_ownK (F : ExcBaseFacts B newId initId bmB) (hT : ∀ X : String, bm.contains (.type X) = bmB.contains (.type X)) {rest : List Value}
    (hC : h.get? C = some (excClassObj nm q C N bs bm hdct sn sub ab col dd k0 k1 k2 k3 k5 newId))
    (hq : R (.ok (.ret (.ref (h.objs.size + 1)))) ⟨(h.push { cls := .type "tuple", data := .seq rest.toArray }).push
      { cls := .ref C, data := .fields #[.ref h.objs.size, .none, .none, .none, .bool false, .none] }, g, d, t, os⟩) (hrest : rest.length ≤ sizeLine) :
    codeAny (model prog w) A (.builtin newId ⟨.ref C :: rest, [(kf, kv)]⟩) R ⟨h, g, d, t, os⟩ := by
  have hends := F.ends
  have hcB : (Value.ref C :: bm).contains (.type B) = true := by rw [List.contains_cons, hT, F.hasB, Bool.or_true]
  have hcA : (Value.ref C :: bm).contains (.type "AttributeError") = false := by rw [List.contains_cons, hT, F.noAttr]; rfl
  have hcN : (Value.ref C :: bm).contains (.type "NameError") = false := by rw [List.contains_cons, hT, F.noName]; rfl
  refine codeAny_builtinAt F.entry ?_
  unfold Builtin.«BaseException.__new__»
  refine PySem.wpAt_bind ?_
  show PySem.wpAt _ _ _ (stack >>= _) _ _ _
  refine PySem.wpAt_bind (PySem.wpAt_stack fun p below => PySem.wpAt_of_wpAny ?_)
  wp_walk
  refine PySem.wpAt_of_wpAny ?_
  rw [F.owner]
  repeat (first | with_reducible refine wpAny_madeHere_exc F.canon hC ?_ | with_reducible refine wpAny_loadPart_at hC ?_ | (with_reducible refine wpAny_isSubtype_exc hC ?_; first | rw [hcB] | rw [hcA] | rw [hcN]) | wp_step)
  show R _ _
  rw [Heap.size_push]
  exact hq

theorem type_call_ownK (F : ExcBaseFacts B newId initId bmB) (hT : ∀ X : String, bm.contains (.type X) = bmB.contains (.type X)) {rest : List Value} {fI : Addr} {Q : Fin → Shared → Prop}
    (hC : h.get? C = some (excClassObj nm q C N bs bm hdct sn sub ab col dd k0 k1 k2 k3 k5 newId))
    (hi : PySem.W.Looks (model prog w) h (typeLookup (.ref C) "__init__") (some (.ref fI))) (hb : ∀ self, PySem.W.Looks (model prog w) h (bindSpecial (.ref fI) self) (.ref fI, [self])) (hrest : rest.length ≤ sizeLine)
    (hq : codeAny (model prog w) A (.call (.ref fI) ⟨.ref (h.objs.size + 1) :: rest, [(kf, kv)]⟩)
      (fun r s' => match r with | .ok (.ret v) => v = .none ∧ Q (.done (.ret (.ref (h.objs.size + 1)))) s' | .ok _ => False | .error e => E e s')
      ⟨(h.push (PySem.W.kdv_tup rest)).push (excO C h.objs.size), g, d, t, os⟩) :
    wpAny (model prog w) A (Builtin.«type.__call__» ⟨.ref C :: rest, [(kf, kv)]⟩) Q E ⟨h, g, d, t, os⟩ := by
  repeat (first | with_reducible refine wpAny_loadPart_at hC ?_ | with_reducible refine wpAny_madeBy_exc hC ?_ | wp_step)
  refine codeAny_call_builtin_code (Code.quiet_builtin _ F.quiet) (check_new_ownK F hT hC ?_)
  refine new_ownK F hT hC ?_ hrest
  show wpAny _ _ _ _ _ _
  have k : ∀ b o, h.get? b = some o → ((h.push (PySem.W.kdv_tup rest)).push (excO C h.objs.size)).get? b = some o := fun b o e => Heap.get?_push_of_some _ (Heap.get?_push_of_some _ e)
  have hC₁ := k _ _ hC
  have hget : ((h.push (PySem.W.kdv_tup rest)).push (excO C h.objs.size)).get? (h.objs.size + 1) = some (excO C h.objs.size) := by heap_get
  have hcC : (Value.ref C :: bm).contains (.ref C) = true := by simp
  have i1 := hi.keeps k
  have b1 := (hb (.ref (h.objs.size + 1))).keeps k
  unfold isInstance
  repeat (first | with_reducible refine wpAny_loadPart_at hget ?_ | (with_reducible refine wpAny_isSubtype_exc hC₁ ?_; rw [hcC]) | wp_step)
  show wpAny _ _ (typeLookup (.ref C) _) _ _ _
  refine i1.at ?_
  refine wpAny_holding (wpAny_bind (b1.at ?_))
  refine wpAny_bind (wpAny_call (codeAny_mono hq fun r s' z => ?_))
  rcases r with e | (v | _ | _ | _) <;> first | exact z | exact z.elim | skip
  obtain ⟨rfl, z⟩ := z
  first
    | exact wpAny_pure (wpAny_pure z)
    | (wp_walk; exact z)

theorem call_ownK (F : ExcBaseFacts B newId initId bmB) (hT : ∀ X : String, bm.contains (.type X) = bmB.contains (.type X)) {rest : List Value} {fI : Addr}
    (hC : h.get? C = some (excClassObj nm q C N bs bm hdct sn sub ab col dd k0 k1 k2 k3 k5 newId))
    (hi : PySem.W.Looks (model prog w) h (typeLookup (.ref C) "__init__") (some (.ref fI))) (hb : ∀ self, PySem.W.Looks (model prog w) h (bindSpecial (.ref fI) self) (.ref fI, [self])) (hrest : rest.length ≤ sizeLine)
    (hq : codeAny (model prog w) (A.under (.builtin "type.__call__" ⟨.ref C :: rest, [(kf, kv)]⟩)) (.call (.ref fI) ⟨.ref (h.objs.size + 1) :: rest, [(kf, kv)]⟩) (PySem.W.InitBack (h.objs.size + 1) R)
      ⟨(h.push (PySem.W.kdv_tup rest)).push (excO C h.objs.size), g, d, t, os⟩) :
    codeAny (model prog w) A (.call (.ref C) ⟨rest, [(kf, kv)]⟩) R ⟨h, g, d, t, os⟩ := by
  have f1 := tc_lookup
  have f2 := tc_bind (.ref C)
  have hTy : (⟨h, g, d, t, os⟩ : Shared).TypeIs (.ref C) "type" := ⟨_, hC, rfl⟩
  refine codeAny_of_tree ?_
  show wpAny _ _ (callAny (.ref C) _) _ _ _
  repeat (any_goals (first | assumption | with_reducible refine wpAny_loadPart_at hC ?_ | wp_step))
  refine ⟨rfl, ?_⟩
  refine codeAny_call_builtin_at (Code.quiet_builtin _ (by decide +kernel)) entry_typeCall (wpAny_check_type_call_sub hC (type_call_ownK F hT hC hi hb hrest ?_))
  refine codeAny_mono hq fun r s' z => ?_
  rcases r with e | (v | _ | _ | _) <;> exact z

end
end ExQ

/-! ### within an except suite: isinstance of the exception, defs that it is handed to -/
namespace ExQ
open PySem.W PySem.Calls
section
variable {prog : Program} {w : World} {A : Around} {E : Value → Shared → Prop} {s : Shared} {K : Frag} {x D : Addr} {ox : Obj} {od : Option Obj}
/-- follows HandS.ExcIs' kin_classE; the object may have a dict -/
theorem kin_classQ {Q : Option Value → Shared → Prop} (C : ExcC K D) (X : K.In s.heap) (I : InstAt s.heap x ox D od) (h : Q (some (.ref D)) { s with toks := s.toks + 1 }) : wpAny (model prog w) A (getAttr? (.ref x) "__class__") Q E s := by
  have hf : findObj K D od "__class__" = some (.bind (.builtin "getset_descriptor.__get__") (.builtin "object.__class__")) := by
    have hc : (clsIn K D).isSome = true := by obtain ⟨cd, hc, _⟩ := any_some C.hd; rw [hc]; rfl
    cases od with
    | none => exact findObj_dataN hc C.ha C.hn C.ht
    | some o => exact findObj_data hc C.ha C.hn C.ht
  obtain ⟨hp, g, d, t, os⟩ := s
  have L0 := I.type (M := model prog w)
  have L1 := looks_findIn (M := model prog w) X C.hg
  have L2 := looks_findIn (M := model prog w) X C.hk
  have L3 := looks_find (M := model prog w) X I hf
  have sub : Looks (model prog w) hp (isInstance (.ref x) (.type "BaseException")) true := L0.andThen (looks_subIn X C.hs)
  have hx0 : (false && onTheHeap (Value.builtin "BaseException.__getattribute__")) = false := rfl
  have hx2 : (Value.builtin "BaseException.__getattribute__" == Value.builtin "object.__getattribute__") = false := by decide +kernel
  have hx1 : (onTheHeap (Value.ref D) && Value.builtin "BaseException.__getattribute__" == Value.builtin "object.__getattribute__") = false := by rw [hx2]; rfl
  unfold getAttr? getAttrBy? getAttrBy
  refine wpAny_bind (wpAny_mkText (wpAny_bind (wpAny_attempt (wpAny_holding (wpAny_bind (L0.at (wpAny_bind (L1.at ?_))))))))
  show wpAny _ _ (if (onTheHeap (Value.ref D) && Value.builtin "BaseException.__getattribute__" == Value.builtin "object.__getattribute__") = true then _ else _) _ _ _
  rw [hx1, if_neg Bool.false_ne_true]
  unfold getAttrByItsOwn hookBefore
  refine wpAny_bind ?_
  rw [if_pos (show onTheHeap (Value.ref D) = true from rfl)]
  refine L2.at ?_
  refine wpAny_bind (wpAny_attempt (wpAny_holding ?_))
  unfold callGetattribute
  rw [hx0, if_neg Bool.false_ne_true]
  unfold boundAndCalled
  rw [PySem.F.excAttr_ValueError.ga.bind (.ref x)]
  refine wpAny_bind (wpAny_pure ?_)
  show wpAny _ _ (call (.builtin "BaseException.__getattribute__") [.ref x, .str "__class__" t]) _ _ _
  refine wpAny_call (codeAny_call_builtin PySem.F.excAttr_ValueError.ga.plain PySem.F.entry_bexc_ga ?_)
  refine @check_slot (model prog w) _ _ ⟨hp, g, d, t + 1, os⟩ "BaseException.__getattribute__" "BaseException" "__getattribute__" (.ref x) [.str "__class__" t] [] _ (by decide +kernel) (by decide +kernel) sub (PySem.F.args_bexc_ga (.ref x) (.str "__class__" t)) ?_
  unfold Builtin.«object.__getattribute__»
  refine wpAny_bind (wpAny_of_eq (a := ((Value.ref x : Value), [Value.str "__class__" t])) (by first | rfl | (simp only [slotArgs]; rfl)) ?_)
  refine wpAny_bind (wpAny_pure (wpAny_bind (L0.at (wpAny_bind (L3.at ?_)))))
  show wpAny _ _ (holding [Value.builtin "object.__class__"] (call (.builtin "getset_descriptor.__get__") [.builtin "object.__class__", .ref x, .ref D]) >>= ret) _ _ _
  refine wpAny_bind (wpAny_holding (wpAny_call (class_get (s := ⟨hp, g, d, t + 1, os⟩) (ox := ox) (od := od) X I C.hm ?_)))
  refine wpAny_pure ?_
  show wpAny _ _ (handedOut (.ref D)) _ _ _
  rw [handedOut_of (v := .ref D) rfl]
  first
    | exact wpAny_pure (wpAny_pure h)
    | exact wpAny_pure h
    | exact wpAny_pure (wpAny_bind (wpAny_pure (wpAny_pure h)))
theorem kitx_Q (C : ExcC K D) : KitX K (.ref x) (.ref D) (fun h => InstAt h x ox D od) where
  ty := fun _ _ _ I => I.type
  it := fun _ _ X _ => by
    obtain ⟨cdD, hcD, _⟩ := any_some C.hd
    unfold clsIn at hcD
    split at hcD
    · rename_i c' d' cd' sl' ho
      intro A' Q' E' s' k q
      unfold isType loadHead
      exact wpAny_bind (wpAny_loadPart (k _ _ (X _ _ ho)) (wpAny_pure q))
    · cases hcD
  ne := fun h tp dd its n sl X htp => by
    obtain ⟨cdD, hcD, _⟩ := any_some C.hd
    refine Bool.eq_false_iff.mpr fun q => ?_
    have e : D = tp := Value.ref.inj (beq_iff_eq.mp q)
    subst e
    unfold clsIn at hcD
    split at hcD
    · rename_i c' d' cd' sl' ho
      have z := (X _ _ ho).symm.trans htp
      cases z
    · cases hcD
  ca := fun X I k => kin_classQ C X I k
end
end ExQ
/-- the exception's dict, where it has one, is tracked -/
def DOk (d : Option Addr) (H : Hp) : Prop := ∀ dd, d = some dd → ∃ fs, H dd = some (.xd fs)
def rIsQ (K : PySem.W.Frag) (D a : Addr) (d : Option Addr) : List V → Hp → VK → Prop := fun xs H Q => ∃ (c : V) (cv : Value) (b : Bool), xs = [.ref a, c] ∧ (∀ u, RelV c u → u = cv) ∧ PySem.W.kitOne K (.ref D) cv = some b ∧ DOk d H ∧ Q (.bl b) H
theorem call_isQ {X : Cx} {a D : Addr} {oe : Obj} {d : Option Addr} (C : ExcC X.K D) (hz : Zc (.ref D) d oe) (hf : ∃ vs, oe.data = .fields vs) (hp : (a, oe) ∈ X.pn) : CallR X (.builtin "isinstance") (rIsQ X.K D a d) := by
  intro pins s σ H xs us Q I r h
  obtain ⟨c, cv, b, rfl, hcv, e, dok, q⟩ := h
  cases r with
  | cons rx rr =>
    cases rr with
    | cons rt rr =>
      cases rr
      cases rx
      have ec := hcv _ rt
      subst ec
      obtain ⟨hget, _⟩ := I.pin (a, oe) (List.mem_append.mpr (.inl hp))
      obtain ⟨vs, hv⟩ := hf
      have J : ∃ od, PySem.W.InstAt s.heap a oe D od := by
        cases d with
        | none =>
          refine ⟨none, ?_⟩
          obtain ⟨oc, od, oda, osl⟩ := oe
          obtain ⟨h1, h2⟩ := hz
          dsimp only at h1 h2 hv
          subst h1 h2 hv
          exact ⟨hget, rfl, rfl, trivial⟩
        | some dd =>
          obtain ⟨fs, ea⟩ := dok dd rfl
          have hx : ObjOk X.prog X.w H s.heap dd (.xd fs) := I.hok dd _ ea
          obtain ⟨mA, hns, _⟩ := hx
          obtain ⟨od, ho, _⟩ := lookIn_ns hns
          exact ⟨some od, hget, hz.1, by unfold PySem.W.notCls; rw [hv] <;> rfl, by rw [hz.2]; exact ho⟩
      obtain ⟨od, J⟩ := J
      exact PySem.W.kia_one (ExQ.kitx_Q C) I.kIn J e (fun z => nomatch z) fun tk => ⟨.bl b, H, I.kept (t' := tk) fun _ _ z => z, rfl, q⟩
/-! ### what a def promises there -/
structure FnQ (P : Program) (w : World) (K : PySem.W.Frag) (mg : Str → Option Value) (base : Heap) (CX : CXT) (k : Nat) (f : Addr) (fd : FuncData) (ps : List Str) (sp : Addr × Obj → Sp) : Prop where
  len : ∀ p vs H Q E, sp p vs H Q E → vs.length = ps.length
  run : ∀ (A : Around) (outer : List Env) (s : Shared) (H : Hp) (args : Args) (us : List Value) (vs : List V) (Q : VK) (E : XK) (p : Addr × Obj), L2H.RoomH k A → L2H.Hot1 A p → L2H.PinOk outer H s p → Env0 P w K mg base A outer s H → BindsTo s fd args (ps.zip us) → Vals vs us → sp p vs H Q E →
    codeAny (model P w) A (.call (.ref f) args) (CR CX outer P w H s Q E) s
theorem fn_ofQ {CX : CXT} {P : Program} {w : World} {K : PySem.W.Frag} {mg : Str → Option Value} {base : Heap} {k : Nat} {f : Addr} {name qual : Str} {params : Arguments} {body : List Stmt} {scope : Scope} {dV kV doc pm cdv ct oc : Value} {an od : Option Addr}
    {osl : Array (Option Value)} {N ps : List Str} {sp : Addr × Obj → Sp} (lk : K.lookup f = some ⟨oc, od, .func (PySem.W.fnOf name qual params body scope dV kV doc pm an cdv ct), osl⟩) (hcd : PySem.W.codeIn K cdv qual = true) (S : FnScope N ps scope)
    (len : ∀ p vs H Q E, sp p vs H Q E → vs.length = ps.length)
    (hbody : ∀ (A : Around) (outer : List Env) (s : Shared) (H : Hp) (vs : List V) (Q : VK) (E : XK) (p : Addr × Obj), L2H.Hot1 A p → L2H.RoomH k (A.deeper (envOfC qual scope s.heap.objs.size f cdv)) → sp p vs H Q E →
      ∃ t, PSs (L2H.cxH CX P w K mg base N qual scope f cdv A outer s H E p) body t ∧ t { nx := fun _ H' => Q .non H', rt := Q } (L2.start N vs) H) :
    FnQ P w K mg base CX (k + 1) f (PySem.W.fnOf name qual params body scope dV kV doc pm an cdv ct) ps sp := by
  refine ⟨len, fun A outer s H args us vs Q E p hr hot hpin e0 hb r hsp => ?_⟩
  have hl := len _ _ _ _ _ hsp
  have KX : K.In s.heap := e0.mod.kin.keeps fun b o e => (e0.bs b o e).1
  have lim : s.heap.NoLimit := e0.mod.nolimit.keeps fun b o e => (e0.bs b o e).1
  have hkind : ∀ y ∈ ps.zip us, scope.names.lookup y.1 = some .local ∨ (scope.names.lookup y.1 = some .cell ∧ ((cellsFrom (s.heap.objs.size + 1) scope.names []).lookup y.1).isSome = true) := fun ⟨n, v⟩ hy => by
    rcases S.par n (List.of_mem_zip hy).1 with q | q
    · exact .inl q
    · exact .inr ⟨q, PySem.W.cellsFrom_some _ _ _ (.inl q)⟩
  refine codeAny_call_function hr.depth (KX _ _ lk) rfl S.co S.gen rfl (PySem.W.codeRec_of KX hcd) (hb _ _ _ _ ?_)
  refine wpAny_newFunctionEnv_cells S.kind hkind fun env he s1 x => ?_
  subst he
  refine ⟨lim.keeps x.toInCall.keep, codeAny_func ?_⟩
  obtain ⟨t, ht, hq⟩ := hbody A outer s H vs Q E p hot (hr.deeper _) hsp
  have I : Inv (L2H.cxH CX P w K mg base N qual scope f cdv A outer s H E p) [] (L2.start N vs) H s1 := L2H.inv_startH S hpin e0 hl r x
  refine wpAny_mono (ht.run [] s1 (L2.start N vs) H _ I hq) (fun fl s' hs => ?_) fun e s' hs => hs
  have fin : ∀ {σ' : L2.St} {H' : Hp} {v : V} {u : Value}, Inv (L2H.cxH CX P w K mg base N qual scope f cdv A outer s H E p) [] σ' H' s' → RelV v u → Q v H' → CE outer P w H s Q u s' :=
    fun {σ' H' v u} J rv q => ⟨v, H', J.os, J.bare, J.base, J.hok, rv, q⟩
  cases fl with
  | ret u =>
    obtain ⟨v, σ', H', J, rv, q⟩ := hs
    exact fin J rv q
  | next =>
    obtain ⟨σ', H', J, q⟩ := hs
    exact fin (v := V.non) (u := Value.none) J rfl q
  | brk =>
    obtain ⟨_, _, _, q⟩ := hs
    exact False.elim q
  | cont =>
    obtain ⟨_, _, _, q⟩ := hs
    exact False.elim q

section
variable {X : Cx} {CX : CXT} {k : Nat} {f C : Addr} {fd : FuncData} {ps : List Str} {sp : Addr × Obj → Sp} {E : L2.St → XK} {x m : Str} {q pos apos : Pos} {e o : Expr} {es : List Expr} {ta : TE} {t : TA}
theorem run_fnQ {pins : List (Addr × Obj)} {σ : L2.St} {H : Hp} {s : Shared} {Q : VK} {us : List Value} {vs : List V} (F : FnQ X.prog X.w X.K X.mg X.base CX k f fd ps sp) (hr : L2H.RoomH k X.A) {p : Addr × Obj} (hot : L2H.Hot1 X.A p) (hp : p ∈ X.pn) (hb : Binds X.K fd ps []) (hx : PassesAt CX X σ (E σ))
    (I : Inv X pins σ H s) (r : Vals vs us) (h : sp p vs H Q (E σ)) : wpAny (model X.prog X.w) X.A (call (.ref f) us) (EP X pins σ Q) X.xe s := by
  have hl : us.length = ps.length := by rw [← r.length]; exact F.len _ _ _ _ _ h
  have b := hb s us I.kIn (by rw [List.append_nil]; exact hl)
  rw [List.append_nil] at b
  have P1 := I.pin p (List.mem_append_left _ hp)
  have hpin : L2H.PinOk X.stack H s p := ⟨P1.1, P1.2.1, fun hm => (List.mem_cons.mp (I.stkSub p.1 hm)).elim P1.2.2.1 P1.2.2.2.1, P1.2.2.2.2⟩
  refine wpAny_call (codeAny_mono (F.run X.A X.stack s H ⟨us, []⟩ us vs Q (E σ) p hr hot hpin I.env0 b r h) fun r s' hq => ?_)
  cases r with
  | error e => exact hx pins H s e s' I hq
  | ok fl =>
    cases fl with
    | ret u => exact I.after hq
    | next => exact False.elim hq
    | brk => exact False.elim hq
    | cont => exact False.elim hq
theorem pe_callQ (F : FnQ X.prog X.w X.K X.mg X.base CX k f fd ps sp) (hr : L2H.RoomH k X.A) {p : Addr × Obj} (hot : L2H.Hot1 X.A p) (hp : p ∈ X.pn) (hg : Gl X x) (hm : X.mg x = some (.ref f)) (hk : PySem.W.keepIn X.K (.ref f) = true) (hb : Binds X.K fd ps []) (hx : ∀ σ, PassesAt CX X σ (E σ))
    (ha : PA X (e :: es) t) (hdb : (x == ("__debug__" : Str)) = false := by decide) (he : starEach (e :: es) X.env = (false, eval e X.env) :: starEach es X.env := by rfl) (hpl : (backTo pos (starEach es X.env)).any (·.1) = false := by rfl) :
    PE X (.Call (.Name x q) (e :: es) [] pos) (tCallS (sp p) E t) := by
  refine ⟨fun pins s σ H Q I h => ?_⟩
  refine wpAny_Call_Name_kw (ld_glob I hg hm ?_ hdb)
  refine PySem.W.callWith_K (h₀ := X.base) I.ok.mod.kin hk (thn (ha.run pos pins s σ H _ I h) fun us s1 ⟨vs, H1, I1, r, q⟩ => ⟨I1.kIn, ?_⟩) he hpl
  exact run_fnQ F hr hot hp hb (hx σ) I1 r q
end

/-! ### what tells an exception's kinds: a def of lists of truths and words, at the library's level -/
def Grown (H H' : Hp) : Prop := ∀ a o, H a = some o → H' a = some o
theorem Grown.refl {H : Hp} : Grown H H := fun _ _ h => h
theorem Grown.trans {H H1 H2 : Hp} (x : Grown H H1) (y : Grown H1 H2) : Grown H H2 := fun a o h => y a o (x a o h)
theorem Grown.upd {H : Hp} {p : Addr} {o : HO} (h : H p = none) : Grown H (L2.upd H p o) := fun a u e => by rw [upd_ne (ne_of_none e h)]; exact e
theorem DOk.grown {d : Option Addr} {H H' : Hp} (x : DOk d H) (g : Grown H H') : DOk d H' := fun dd e => let ⟨fs, h⟩ := x dd e; ⟨fs, g _ _ h⟩
theorem Ext.grown {c : Cfg} {H' : Hp} (g : Grown c.H H') : Ext c ⟨c.φ, c.S, H'⟩ := ⟨fun _ _ h => h, fun _ h => h, fun a o n h => ⟨g a o h, n⟩, fun _ _ h => .inl h, fun a o h => ⟨o, g a o h⟩⟩
theorem RelC.grown {G : Gam} {c : Cfg} {H' : Hp} (r : RelC G c) (g : Grown c.H H') : RelC G ⟨c.φ, c.S, H'⟩ := by
  have x : Ext c ⟨c.φ, c.S, H'⟩ := Ext.grown g
  refine ⟨r.len, r.nod, fun n a u h1 h2 => ?_, r.apart, fun n a h => ?_, fun a h => ?_⟩
  · obtain ⟨o, e⟩ := r.dom n a h1
    exact (r.obj n a u h1 h2).map _ _ rfl (show H' a = c.H a by rw [e]; exact g a o e) (Rp.mono x) (RpA.mono x)
  · obtain ⟨o, e⟩ := r.dom n a h
    exact ⟨o, g a o e⟩
  · obtain ⟨o, e⟩ := r.domA a h
    exact ⟨o, g a o e⟩
def tIsQ (a : Addr) (d : Option Addr) (b : Bool) : TE := fun σ H Q => σ[0]? = some (some (.ref a)) ∧ DOk d H ∧ Q (.bl b) H
def tIsA (a : Addr) (d : Option Addr) (bs : List Bool) : TA := fun σ H Q => σ[0]? = some (some (.ref a)) ∧ DOk d H ∧ Q (bs.map V.bl) H
def tStrs (ws : List Str) : TA := fun _ H Q => Q (ws.map V.str) H
section
variable {X : Cx} {a D : Addr} {oe : Obj} {d : Option Addr} {b : Bool} {bs : List Bool} {ws : List Str} {e ce : Expr} {es : List Expr} {q1 q2 q3 pos pos' : Pos} {n : Str}
theorem PE.imp {t t' : TE} (h : PE X e t) (f : ∀ σ H Q, t' σ H Q → t σ H Q) : PE X e t' := ⟨fun pins s σ H Q I x => h.run pins s σ H Q I (f σ H Q x)⟩
theorem PA.imp {t t' : TA} (h : PA X es t) (f : ∀ σ H Q, t' σ H Q → t σ H Q) : PA X es t' := ⟨fun pos pins s σ H Q I x => h.run pos pins s σ H Q I (f σ H Q x)⟩
theorem pe_isQ {cV : V} {cv : Value} (C : ExcC X.K D) (hz : Zc (.ref D) d oe) (hf : ∃ vs, oe.data = .fields vs) (hp : (a, oe) ∈ X.pn) (hm : X.mg "isinstance" = none) (hc : PE X ce (tC cV)) (hcv : ∀ u, RelV cV u → u = cv) (hk : PySem.W.kitOne X.K (.ref D) cv = some b)
    (hN : X.N[0]? = some n := by rfl) (hv : Vis X.env.scope n := by first | exact Or.inl rfl | exact Or.inr (Or.inl rfl) | exact Or.inr (Or.inr rfl)) (hg : Gl X "isinstance" := by rfl) (hd : (n == ("__debug__" : Str)) = false := by decide) (hcd : (n == ("__classdict__" : Str)) = false := by decide)
    (he : starEach [.Name n q2, ce] X.env = (false, eval (.Name n q2) X.env) :: starEach [ce] X.env := by rfl) (hpl : (backTo pos (starEach [ce] X.env)).any (·.1) = false := by rfl) (hst : starEach [ce] X.env = (false, eval ce X.env) :: starEach [] X.env := by rfl) :
    PE X (.Call (.Name "isinstance" q1) [.Name n q2, ce] [] pos) (tIsQ a d b) :=
  PE.imp (pe_callB (call_isQ C hz hf hp) hg hm (by decide +kernel) (pa_cons (pe_var hN hv hd hcd) (pa_cons hc pa_nil hst) he) (by decide) (by decide) he hpl) fun σ H Q ⟨h1, h2, h3⟩ => ⟨_, h1, cV, cv, b, rfl, hcv, hk, h2, h3⟩
theorem pa_is0 : PA X [] (tIsA a d []) := PA.imp pa_nil fun _ _ _ h => h.2.2
theorem pa_is1 (h : PE X e (tIsQ a d b)) (r : PA X es (tIsA a d bs)) (hs : starEach (e :: es) X.env = (false, eval e X.env) :: starEach es X.env := by rfl) : PA X (e :: es) (tIsA a d (b :: bs)) := PA.imp (pa_cons h r hs) fun σ H Q ⟨h1, h2, h3⟩ => ⟨h1, h2, h1, h2, h3⟩
theorem pa_w0 : PA X [] (tStrs []) := PA.imp pa_nil fun _ _ _ h => h
theorem pa_w1 {x : Str} {j : Nat} (r : PA X es (tStrs ws)) (hs : starEach (.Constant (.str x) j q1 :: es) X.env = (false, eval (.Constant (.str x) j q1) X.env) :: starEach es X.env := by rfl) : PA X (.Constant (.str x) j q1 :: es) (tStrs (x :: ws)) := PA.imp (pa_cons pe_str r hs) fun _ _ _ h => h
/-- a statement, from one state of things to another -/
structure HS (X : Cx) (s : Stmt) (P P' : L2.St → Hp → Prop) : Prop where
  ex : ∃ t, PS X s t ∧ ∀ (Ds : Ends) (σ : L2.St) (H : Hp), P σ H → (∀ σ' H', P' σ' H' → Ds.nx σ' H') → t Ds σ H
structure HR (X : Cx) (ss : List Stmt) (P : L2.St → Hp → Prop) (R : V → Hp → Prop) : Prop where
  ex : ∃ t, PSs X ss t ∧ ∀ (Ds : Ends) (σ : L2.St) (H : Hp), P σ H → (∀ v H', R v H' → Ds.rt v H') → t Ds σ H
theorem hr_cons {s : Stmt} {ss : List Stmt} {P P' : L2.St → Hp → Prop} {R : V → Hp → Prop} (h : HS X s P P') (r : HR X ss P' R) : HR X (s :: ss) P R := by
  obtain ⟨t, p, f⟩ := h.ex
  obtain ⟨u, q, g⟩ := r.ex
  exact ⟨_, pss_cons p q, fun Ds σ H hP k => f _ σ H hP fun σ' H' h' => g Ds σ' H' h' k⟩
/-- slots: the exception, the truths, the words, a number -/
def KS (a : Addr) (d : Option Addr) (H0 : Hp) (bs : Option (List Bool)) (ws : Option (List Str)) : L2.St → Hp → Prop := fun σ H => σ.length = 4 ∧ σ[0]? = some (some (.ref a)) ∧ DOk d H ∧ Grown H0 H ∧
  (∀ l, bs = some l → ∃ p, σ[1]? = some (some (.ref p)) ∧ H p = some (.lst (l.map V.bl))) ∧ ∀ l, ws = some l → ∃ p, σ[2]? = some (some (.ref p)) ∧ H p = some (.lst (l.map V.str))
variable {H0 : Hp} {x1 x2 : Str}
theorem thousand : (1000 : Nat) ≤ sizeLine := by rw [sizeLine_eq]; decide
theorem KS.put1 {σ : L2.St} {H : Hp} {b0 : Option (List Bool)} {w0 : Option (List Str)} {l : List Bool} {p : Addr} (h : KS a d H0 b0 w0 σ H) (hp : H p = none) : KS a d H0 (some l) w0 (σ.set 1 (some (.ref p))) (upd H p (.lst (l.map V.bl))) := by
  obtain ⟨h1, h2, h3, h4, _, h6⟩ := h
  refine ⟨by rw [List.length_set]; exact h1, by rw [List.getElem?_set_ne (by decide)]; exact h2, h3.grown (.upd hp), h4.trans (.upd hp), fun k e => ?_, fun k e => ?_⟩
  · cases e
    exact ⟨p, List.getElem?_set_self (by omega), upd_same⟩
  · obtain ⟨q, e1, e2⟩ := h6 k e
    exact ⟨q, by rw [List.getElem?_set_ne (by decide)]; exact e1, Grown.upd hp _ _ e2⟩
theorem KS.put2 {σ : L2.St} {H : Hp} {b0 : Option (List Bool)} {w0 : Option (List Str)} {l : List Str} {p : Addr} (h : KS a d H0 b0 w0 σ H) (hp : H p = none) : KS a d H0 b0 (some l) (σ.set 2 (some (.ref p))) (upd H p (.lst (l.map V.str))) := by
  obtain ⟨h1, h2, h3, h4, h5, _⟩ := h
  refine ⟨by rw [List.length_set]; exact h1, by rw [List.getElem?_set_ne (by decide)]; exact h2, h3.grown (.upd hp), h4.trans (.upd hp), fun k e => ?_, fun k e => ?_⟩
  · obtain ⟨q, e1, e2⟩ := h5 k e
    exact ⟨q, by rw [List.getElem?_set_ne (by decide)]; exact e1, Grown.upd hp _ _ e2⟩
  · cases e
    exact ⟨p, List.getElem?_set_self (by omega), upd_same⟩
theorem KS.grown {σ : L2.St} {H H' : Hp} {b0 : Option (List Bool)} {w0 : Option (List Str)} (h : KS a d H0 b0 w0 σ H) (g : Grown H H') : KS a d H0 b0 w0 σ H' := by
  obtain ⟨h1, h2, h3, h4, h5, h6⟩ := h
  exact ⟨h1, h2, h3.grown g, h4.trans g, fun k e => let ⟨q, e1, e2⟩ := h5 k e; ⟨q, e1, g _ _ e2⟩, fun k e => let ⟨q, e1, e2⟩ := h6 k e; ⟨q, e1, g _ _ e2⟩⟩
theorem hs_is {l : List Bool} {w0 : Option (List Str)} (nd : X.N.Nodup) (h : PA X es (tIsA a d l)) (hl : l.length ≤ 1000) (hi : X.N[1]? = some x1 := by rfl) (hx : Loc X.env.scope x1 := by first | exact Or.inl rfl | exact Or.inr rfl) (hs : swapsWith (.List es q1) (some (.Name x1 pos')) pos.line X.env = pure false := by rfl)
    (hf : X.fn x1 = true ∨ X.env.scope.names.lookup x1 = some .local := by first | exact .inl rfl | exact .inr rfl | assumption) : HS X (.Assign [.Name x1 pos'] (.List es q1) pos) (KS a d H0 none w0) (KS a d H0 (some l) w0) :=
  ⟨_, ps_set nd hi hx (pe_lst h) hs hf, fun Ds σ H hP k => ⟨hP.2.1, hP.2.2.1, by rw [List.length_map]; exact Nat.le_trans hl thousand, fun p hp => k _ _ (hP.put1 hp)⟩⟩
theorem hs_isM {l m : List Bool} {w0 : Option (List Str)} (nd : X.N.Nodup) (h : PA X es (tIsA a d m)) (hl : l.length + m.length ≤ 1000) (hi : X.N[1]? = some x1 := by rfl) (hx : Loc X.env.scope x1 := by first | exact Or.inl rfl | exact Or.inr rfl)
    (hv : Vis X.env.scope x1 := by first | exact Or.inl rfl | exact Or.inr (Or.inl rfl) | exact Or.inr (Or.inr rfl)) (hs : swapsWith (.BinOp (.Name x1 q2) .Add (.List es q1) q3) (some (.Name x1 pos')) pos.line X.env = pure false := by rfl)
    (hf : X.fn x1 = true ∨ X.env.scope.names.lookup x1 = some .local := by first | exact .inl rfl | exact .inr rfl | assumption) (hd : (x1 == ("__debug__" : Str)) = false := by decide) (hcd : (x1 == ("__classdict__" : Str)) = false := by decide) :
    HS X (.Assign [.Name x1 pos'] (.BinOp (.Name x1 q2) .Add (.List es q1) q3) pos) (KS a d H0 (some l) w0) (KS a d H0 (some (l ++ m)) w0) :=
  ⟨_, ps_set nd hi hx (pe_op op_cat (pe_var hi hv hd hcd) (pe_lst h)) hs hf, fun Ds σ H hP k => by
    obtain ⟨p, e1, e2⟩ := hP.2.2.2.2.1 l rfl
    refine ⟨_, e1, hP.2.1, hP.2.2.1, by rw [List.length_map]; exact Nat.le_trans (by omega) thousand, fun q hq => ?_⟩
    refine ⟨p, q, _, _, rfl, rfl, Grown.upd hq _ _ e2, upd_same, by rw [List.length_map, List.length_map]; exact Nat.le_trans hl thousand, fun r hr => ?_⟩
    have := (hP.grown (.upd (o := .lst (m.map V.bl)) hq)).put1 (l := l ++ m) hr
    rw [List.map_append] at this
    exact k _ _ this⟩
theorem hs_w {l : List Str} {b0 : Option (List Bool)} (nd : X.N.Nodup) (h : PA X es (tStrs l)) (hl : l.length ≤ 1000) (hi : X.N[2]? = some x1 := by rfl) (hx : Loc X.env.scope x1 := by first | exact Or.inl rfl | exact Or.inr rfl) (hs : swapsWith (.List es q1) (some (.Name x1 pos')) pos.line X.env = pure false := by rfl)
    (hf : X.fn x1 = true ∨ X.env.scope.names.lookup x1 = some .local := by first | exact .inl rfl | exact .inr rfl | assumption) : HS X (.Assign [.Name x1 pos'] (.List es q1) pos) (KS a d H0 b0 none) (KS a d H0 b0 (some l)) :=
  ⟨_, ps_set nd hi hx (pe_lst h) hs hf, fun Ds σ H hP k => ⟨by rw [List.length_map]; exact Nat.le_trans hl thousand, fun p hp => k _ _ (hP.put2 hp)⟩⟩
theorem hs_wM {l m : List Str} {b0 : Option (List Bool)} (nd : X.N.Nodup) (h : PA X es (tStrs m)) (hl : l.length + m.length ≤ 1000) (hi : X.N[2]? = some x1 := by rfl) (hx : Loc X.env.scope x1 := by first | exact Or.inl rfl | exact Or.inr rfl)
    (hv : Vis X.env.scope x1 := by first | exact Or.inl rfl | exact Or.inr (Or.inl rfl) | exact Or.inr (Or.inr rfl)) (hs : swapsWith (.BinOp (.Name x1 q2) .Add (.List es q1) q3) (some (.Name x1 pos')) pos.line X.env = pure false := by rfl)
    (hf : X.fn x1 = true ∨ X.env.scope.names.lookup x1 = some .local := by first | exact .inl rfl | exact .inr rfl | assumption) (hd : (x1 == ("__debug__" : Str)) = false := by decide) (hcd : (x1 == ("__classdict__" : Str)) = false := by decide) :
    HS X (.Assign [.Name x1 pos'] (.BinOp (.Name x1 q2) .Add (.List es q1) q3) pos) (KS a d H0 b0 (some l)) (KS a d H0 b0 (some (l ++ m))) :=
  ⟨_, ps_set nd hi hx (pe_op op_cat (pe_var hi hv hd hcd) (pe_lst h)) hs hf, fun Ds σ H hP k => by
    obtain ⟨p, e1, e2⟩ := hP.2.2.2.2.2 l rfl
    refine ⟨_, e1, by rw [List.length_map]; exact Nat.le_trans (by omega) thousand, fun q hq => ?_⟩
    refine ⟨p, q, _, _, rfl, rfl, Grown.upd hq _ _ e2, upd_same, by rw [List.length_map, List.length_map]; exact Nat.le_trans hl thousand, fun r hr => ?_⟩
    have := (hP.grown (.upd (o := .lst (m.map V.str)) hq)).put2 (l := l ++ m) hr
    rw [List.map_append] at this
    exact k _ _ this⟩
end
/-- the words whose truths hold -/
def kindsL (bs : List Bool) (ws : List Str) (n : Nat) : List Str := (List.range n).filterMap fun k => if bs.getD k false = true then some (ws.getD k "") else none
theorem kindsL_step (bs : List Bool) (ws : List Str) (n : Nat) : kindsL bs ws (n + 1) = kindsL bs ws n ++ if bs.getD n false = true then [ws.getD n ""] else [] := by
  unfold kindsL
  rw [List.range_succ, List.filterMap_append]
  congr 1
  by_cases h : bs.getD n false = true
  · rw [List.filterMap_cons, if_pos h, if_pos h]
    rfl
  · rw [List.filterMap_cons, if_neg h, if_neg h]
    rfl
theorem kindsL_len (bs : List Bool) (ws : List Str) : ∀ n, (kindsL bs ws n).length ≤ n
  | 0 => Nat.le_refl _
  | n + 1 => by
    rw [kindsL_step, List.length_append]
    have := kindsL_len bs ws n
    split <;> simp <;> omega
abbrev rJoin (K : PySem.W.Frag) : V → List V → Hp → VK → Prop := fun x xs H Q => ∃ a p, ∃ ys : List Str, x = .str a ∧ xs = [.ref p] ∧ (SqL K H p (ys.map V.str) ∨ SqT K H p (ys.map V.str)) ∧ (ys.map (·.length)).sum + ys.length * a.length ≤ 16777216 ∧ Q (.str (Txt.join a ys)) H
def tKinds (K : PySem.W.Frag) (n : Nat) : TE := tM1 (rJoin K) (tC (.str "")) (tLc (iRng1 (tCons (tC (.int n)) tNil)) (gName 3) (tB (tOp (rIxL K) (tVar 1) (tVar 3))) (tOp (rIxL K) (tVar 2) (tVar 3)) [3])
theorem hr_kinds {X : Cx} {s : Stmt} {a : Addr} {d : Option Addr} {H0 : Hp} {bs : List Bool} {ws : List Str} {n : Nat} (h : PS X s (tRet (tKinds X.K n))) (hn : n ≤ 1000) (hb : bs.length = n) (hw : ws.length = n) (hz : ((kindsL bs ws n).map (·.length)).sum ≤ 10000) :
    HR X [s] (KS a d H0 (some bs) (some ws)) (fun v H' => v = .str (Txt.join "" (kindsL bs ws n)) ∧ Grown H0 H') := by
  refine ⟨_, pss_one h, fun Ds σ H hP k => ?_⟩
  obtain ⟨p1, e1, f1⟩ := hP.2.2.2.2.1 bs rfl
  obtain ⟨p2, e2, f2⟩ := hP.2.2.2.2.2 ws rfl
  refine ⟨⟨_, rfl⟩, (n : Int), rfl, by omega, by omega, ?_⟩
  have en : ((n : Int)).toNat = n := rfl
  rw [en]
  intro D hD
  refine lc_range (lo := 0) (n := n) (fun i H' => Grown H H' ∧ H' D = some (.lst ((kindsL bs ws i).map V.str))) ⟨.upd hD, upd_same⟩ ?_ ?_
  · rintro i H' hi ⟨g, hd⟩
    have z : ∀ j, j ≠ 3 → ((wipe σ [3]).set 3 (some (V.int (0 + (i : Int)))))[j]? = σ[j]? := fun j hj => by
      show ((σ.set 3 none).set 3 _)[j]? = _
      rw [List.getElem?_set_ne (Ne.symm hj), List.getElem?_set_ne (Ne.symm hj)]
    have z3 : ((wipe σ [3]).set 3 (some (V.int (0 + (i : Int)))))[3]? = some (some (.int (0 + (i : Int)))) := by
      show ((σ.set 3 none).set 3 _)[3]? = _
      exact List.getElem?_set_self (by rw [List.length_set]; have := hP.1; omega)
    have e0 : (0 : Int) + (i : Int) = (i : Int) := by omega
    refine ⟨?_, ?_⟩
    · show ((σ.set 3 none).set 3 _).set 3 none = σ.set 3 none
      rw [List.set_set, List.set_set]
    refine ⟨_, by rw [z 1 (by decide)]; exact e1, _, z3, p1, _, _, .bl (bs.getD i false), rfl, rfl, SqL.of (g _ _ f1), ?_, bs.getD i false, rfl, ?_⟩
    · rw [e0]
      refine atI_nat ?_
      rw [List.getElem?_map, List.getElem?_eq_getElem (show i < bs.length by omega)]
      simp [List.getD_eq_getElem?_getD, List.getElem?_eq_getElem (show i < bs.length by omega)]
    show (if bs.getD i false = true then _ else _)
    by_cases hk : bs.getD i false = true
    · rw [if_pos hk]
      refine ⟨_, by rw [z 2 (by decide)]; exact e2, _, z3, p2, _, _, .str (ws.getD i ""), rfl, rfl, SqL.of (g _ _ f2), ?_, _, hd, ?_, ?_, ?_⟩
      · rw [e0]
        refine atI_nat ?_
        rw [List.getElem?_map, List.getElem?_eq_getElem (show i < ws.length by omega)]
        simp [List.getD_eq_getElem?_getD, List.getElem?_eq_getElem (show i < ws.length by omega)]
      · rw [List.length_map, sizeLine_eq]
        have := kindsL_len bs ws i
        omega
      · intro b o e
        have : b ≠ D := ne_of_none e hD
        rw [upd_ne this]
        exact g b o e
      · rw [upd_same, kindsL_step, if_pos hk, List.map_append]
        rfl
    · rw [if_neg hk]
      refine ⟨g, ?_⟩
      rw [kindsL_step, if_neg hk, List.append_nil]
      exact hd
  · rintro H' ⟨g, hd⟩
    refine ⟨_, D, kindsL bs ws n, rfl, rfl, .inl (SqL.of hd), ?_, k _ _ ⟨rfl, hP.2.2.2.1.trans g⟩⟩
    have : ("" : Str).length = 0 := rfl
    rw [this]
    omega
theorem hr_kindsT {X : Cx} {s : Stmt} {a : Addr} {d : Option Addr} {H0 : Hp} {bs : List Bool} {ws : List Str} {n : Nat} {txt : Str} (h : PS X s (tRet (tKinds X.K n))) (hn : n ≤ 1000) (hb : bs.length = n) (hw : ws.length = n) (hz : ((kindsL bs ws n).map (·.length)).sum ≤ 10000) (ht : Txt.join "" (kindsL bs ws n) = txt) :
    HR X [s] (KS a d H0 (some bs) (some ws)) (fun v H' => v = .str txt ∧ Grown H0 H') := by
  subst ht
  exact hr_kinds h hn hb hw hz

/-! ### except C as e: the suite may use e -/
theorem RpK.mono {κ : Type} {G : Gam} {c c' : Cfg} (x : Ext c c') : ∀ {ds : List (κ × D)} {vs : List (κ × V)}, RpK G c ds vs → RpK G c' ds vs
  | _, _, .nil => .nil
  | _, _, .cons h t => .cons ⟨h.1, Rp.mono x _ _ h.2⟩ (RpK.mono x t)
theorem ErrR.mono {G : Gam} {c c' : Cfg} {x : Err} {C : Value} {d : Option Addr} (e : Ext c c') (h : ErrR G c x C d) : ErrR G c' x C d := by
  obtain ⟨a, h1, h2, h3⟩ := h
  refine ⟨a, h1, h2, ?_⟩
  rcases h3 with h3 | ⟨p, gs, e1, e2, e3, e4⟩
  · exact .inl h3
  · obtain ⟨k1, k2⟩ := Own.keep e e2 e3
    exact .inr ⟨p, gs, e1, k2, k1, RpK.mono e e4⟩
theorem ErrR.dok {G : Gam} {c : Cfg} {x : Err} {C : Value} {d : Option Addr} (h : ErrR G c x C d) : DOk d c.H := by
  obtain ⟨a, _, _, h3⟩ := h
  rintro dd rfl
  rcases h3 with ⟨_, z⟩ | ⟨p, gs, e1, _, e3, _⟩
  · cases z
  · cases e1
    exact ⟨gs, e3⟩
def spKind (D : Addr) (txt : Str) : Addr × Obj → Sp := fun p vs H Q _ => vs = [.ref p.1] ∧ ∃ d, Zc (.ref D) d p.2 ∧ (∃ us, p.2.data = .fields us) ∧ DOk d H ∧ ∀ H', Grown H H' → Q (.str txt) H'
section
variable {P : Program} {w : World} {K : PySem.W.Frag} {mg : Str → Option Value} {base : Heap} {x qual : Str} {params : Arguments} {body : List Stmt} {scope : Scope} {dvs : List V} {kws : List (Str × V)} {f : Addr} {fd : FuncData}
theorem okQ {CX : CXT} {N ps : List Str} {k : Nat} {sp : Addr × Obj → Sp} (F : FunD K x qual params body scope dvs kws f fd) (S : FnScope N ps scope) (len : ∀ p vs H Q E, sp p vs H Q E → vs.length = ps.length)
    (hbody : ∀ (cdv : Value) (A : Around) (outer : List Env) (s : Shared) (H : Hp) (vs : List V) (Q : VK) (E : XK) (p : Addr × Obj), L2H.Hot1 A p → L2H.RoomH k (A.deeper (envOfC qual scope s.heap.objs.size f cdv)) → sp p vs H Q E →
      ∃ t, PSs (L2H.cxH CX P w K mg base N qual scope f cdv A outer s H E p) body t ∧ t { nx := fun _ H' => Q .non H', rt := Q } (L2.start N vs) H) : FnQ P w K mg base CX (k + 1) f fd ps sp := by
  obtain ⟨oc, od, dV, kV, doc, pm, an, cdv, ct, osl, rfl, lk, hcd, _, _⟩ := F.ex
  exact fn_ofQ lk hcd S len fun A outer s H vs Q E p hot hr hsp => hbody cdv A outer s H vs Q E p hot hr hsp
theorem okKind {CX : CXT} {n0 n1 n2 n3 txt : Str} {D : Addr} (F : FunD K x qual params body scope dvs kws f fd) (S : FnScope [n0, n1, n2, n3] [n0] scope)
    (hbody : ∀ (cdv : Value) (A : Around) (outer : List Env) (s : Shared) (H : Hp) (E : XK) (a : Addr) (oe : Obj) (d : Option Addr), L2H.Hot1 (A.deeper (envOfC qual scope s.heap.objs.size f cdv)) (a, oe) → Zc (.ref D) d oe → (∃ us, oe.data = .fields us) →
      HR (L2H.cxH CX P w K mg base [n0, n1, n2, n3] qual scope f cdv A outer s H E (a, oe)) body (KS a d H none none) (fun v H' => v = .str txt ∧ Grown H H')) : FnQ P w K mg base CX 1 f fd [n0] (spKind D txt) := by
  refine okQ F S (fun p vs H Q E h => by rw [h.1]; rfl) fun cdv A outer s H vs Q E p hot hr hsp => ?_
  obtain ⟨rfl, d, hz, hf, dok, post⟩ := hsp
  obtain ⟨a, oe⟩ := p
  obtain ⟨t, h1, h2⟩ := (hbody cdv A outer s H E a oe d hot hz hf).ex
  refine ⟨t, h1, h2 _ _ _ ⟨rfl, rfl, dok, .refl, fun l e => (nomatch e), fun l e => (nomatch e)⟩ fun v H' ⟨e, g⟩ => ?_⟩
  subst e
  exact post H' g
end
def canonX (K : PySem.W.Frag) (cm : String → Addr → Prop) (i : Nat) (a : Addr) (cls : Value) (d : Option Addr) (ds : Err → DSv) : TS := fun Ds σ H => ∃ (A : Addr → Prop) (c : Cfg) (st : DSt) (x : Err), c.H = H ∧ RelC ⟨K, cm, A⟩ c ∧ LocR ⟨K, cm, A⟩ c st σ ∧ σ[i]? = some (some (.ref a)) ∧ ErrR ⟨K, cm, A⟩ c x cls d ∧ PostS ⟨K, cm, A⟩ E0 c Ds (ds x st c.S)
def canonXE (K : PySem.W.Frag) (cm : String → Addr → Prop) (i : Nat) (a : Addr) (cls : Value) (d : Option Addr) (v : Err → DEv) : TE := fun σ H Q => ∃ (A : Addr → Prop) (c : Cfg) (st : DSt) (x : Err), c.H = H ∧ RelC ⟨K, cm, A⟩ c ∧ LocR ⟨K, cm, A⟩ c st σ ∧ σ[i]? = some (some (.ref a)) ∧ ErrR ⟨K, cm, A⟩ c x cls d ∧ Post ⟨K, cm, A⟩ E0 (Rp ⟨K, cm, A⟩) c Q (v x st c.S)
structure DSu (X : Cx) (cm : String → Addr → Prop) (i : Nat) (ss : List Stmt) (ds : Err → DSv) : Prop where
  run : ∀ (a : Addr) (oe : Obj) (cls : Value) (d : Option Addr) (pn : List (Addr × Obj)), L2N.Zn cls d oe → (∃ vs, oe.data = .fields vs) → PSs (X.suite a ((a, oe) :: pn)) ss (canonX X.K cm i a cls d ds)
structure DXE (X : Cx) (cm : String → Addr → Prop) (i : Nat) (e : Expr) (v : Err → DEv) : Prop where
  run : ∀ (a : Addr) (oe : Obj) (cls : Value) (d : Option Addr) (pn : List (Addr × Obj)), L2N.Zn cls d oe → (∃ vs, oe.data = .fields vs) → PE (X.suite a ((a, oe) :: pn)) e (canonXE X.K cm i a cls d v)
def dSetN (j : Nat) (v : DEv) (r : DSv) : DSv := fun st S => (v st S).bind fun y S1 => r (st.set j (some y)) S1
section
variable {X : Cx} {cm : String → Addr → Prop} {i j : Nat} {e : Expr} {v : Err → DEv} {ds : Err → DSv} {ss : List Stmt} {n m : Str} {p q pos : Pos}
theorem dsu_nil : DSu X cm i [] (fun _ => dNext) := ⟨fun a oe cls d pn hz hf => ⟨fun pins s σ H Ds I ⟨A, c, st, x, e0, rel, loc, hi, er, post⟩ => by
  subst e0
  exact pss_nil.run pins s σ c.H Ds I (post σ c rfl (.refl c) rel loc)⟩⟩
theorem dsu_set (nd : X.N.Nodup) (he : DXE X cm i e v) (r : DSu X cm i ss ds) (hij : i ≠ j) (hj : X.N[j]? = some n := by rfl) (hx : Loc X.env.scope n := by first | exact Or.inl rfl | exact Or.inr rfl) (hs : swapsWith e (some (.Name n p)) pos.line X.env = pure false := by rfl)
    (hf : X.fn n = true ∨ X.env.scope.names.lookup n = some .local := by first | exact .inl rfl | exact .inr rfl | assumption) : DSu X cm i (.Assign [.Name n p] e pos :: ss) (fun x => dSetN j (v x) (ds x)) := by
  refine ⟨fun a oe cls d pn hz hff => ?_⟩
  have p1 := ps_set (X := X.suite a ((a, oe) :: pn)) (pos := pos) (pos' := p) nd hj hx (he.run a oe cls d pn hz hff) hs hf
  refine ⟨fun pins s σ H Ds I ⟨A, c, st, x, e0, rel, loc, hi, er, post⟩ => (pss_cons p1 (r.run a oe cls d pn hz hff)).run pins s σ H Ds I ?_⟩
  subst e0
  refine ⟨A, c, st, x, rfl, rel, loc, hi, er, Post.seqS post fun y w c1 q1 x1 rel1 ry h1 => ?_⟩
  exact ⟨A, c1, _, x, rfl, rel1, (loc.mono x1).set ry, by rw [List.getElem?_set_ne (Ne.symm hij)]; exact hi, er.mono x1, h1⟩
theorem dsu_ret (he : DXE X cm i e v) : DSu X cm i [.Return (some e) pos] (fun x => dRet (v x)) := by
  refine ⟨fun a oe cls d pn hz hff => ?_⟩
  refine ⟨fun pins s σ H Ds I ⟨A, c, st, x, e0, rel, loc, hi, er, post⟩ => (pss_one (ps_ret (pos := pos) (he.run a oe cls d pn hz hff))).run pins s σ H Ds I ?_⟩
  subst e0
  exact ⟨A, c, st, x, rfl, rel, loc, hi, er, Post.seqS post fun y w c1 q1 x1 rel1 ry h1 => h1 w c1 rfl (.refl c1) rel1 ry⟩
/-- a def that tells a text of the exception's class -/
def kindV (tab : List (String × Str)) (x : Err) : DEv := fun _ S => match tab.lookup x.cls with
  | some t => if okStr t = true then .ok (.str t) S else .no
  | none => .no
theorem dxe_kind {k : Nat} {fn : Str} {f : Addr} {fd : FuncData} {ps : List Str} {tab : List (String × Str)} (nn : X.N[i]? = some n) (F : ∀ c t, tab.lookup c = some t → ∀ C, cm c C → FnQ X.prog X.w X.K X.mg X.base (CX X.prog X.w) k f fd ps (spKind C t)) (hr : Room k X.A) (hm : X.mg fn = some (.ref f)) (hk : PySem.W.keepIn X.K (.ref f) = true) (hb : Binds X.K fd ps [])
    (hv : Vis X.env.scope n := by first | exact Or.inl rfl | exact Or.inr (Or.inl rfl) | exact Or.inr (Or.inr rfl)) (hg : Gl X fn := by rfl) (hdb : (fn == ("__debug__" : Str)) = false := by decide) (hd : (n == ("__debug__" : Str)) = false := by decide) (hcd : (n == ("__classdict__" : Str)) = false := by decide)
    (he : starEach [.Name n q] X.env = (false, eval (.Name n q) X.env) :: starEach [] X.env := by rfl) (hpl : (backTo pos (starEach [] X.env)).any (·.1) = false := by rfl) : DXE X cm i (.Call (.Name fn p) [.Name n q] [] pos) (kindV tab) := by
  refine ⟨fun a oe cls d pn hz ⟨us, hf⟩ => ⟨fun pins s σ H Q I ⟨A, c, st, x, e0, rel, loc, hi, er, post⟩ => ?_⟩⟩
  subst e0
  unfold kindV at post
  split at post
  · rename_i t ht
    split at post
    · rename_i ok
      obtain ⟨C, ec, hcm, h3⟩ := id er
      subst ec
      have hot : L2H.Hot1 (X.suite a ((a, oe) :: pn)).A (a, oe) := ⟨rfl, us, hf, hz.2.2 us hf⟩
      have hpass : ∀ σ, PassesAt (CX X.prog X.w) (X.suite a ((a, oe) :: pn)) σ ((fun _ => E0) σ) := fun σ pins H s e s' I c => (passL (X := X.suite a ((a, oe) :: pn))) pins σ H s e s' I c |> id
      refine (pe_callQ (X := X.suite a ((a, oe) :: pn)) (E := fun _ => E0) (F x.cls t ht C hcm) ⟨hr.dp, hr.un⟩ hot List.mem_cons_self hg hm hk hb hpass (pa_cons (pe_var nn hv hd hcd) pa_nil he) hdb he hpl).run pins s σ c.H Q I ?_
      refine ⟨_, hi, rfl, d, ⟨hz.1, hz.2.1⟩, ⟨us, hf⟩, er.dok, fun H' g => ?_⟩
      exact post (.str t) ⟨c.φ, c.S, H'⟩ rfl (Ext.grown g) (rel.grown g) ⟨rfl, okStr_is ok⟩
    · exact post.elim
  · exact post.elim
/-- a field of it -/
def fldX (k : String) (f : Str) (x : Err) : DEv := fun _ S => if x.cls = k then match x.fs.lookup f with
    | some y => .ok y S
    | none => .no
  else .no
end
section
variable {X : Cx} {i : Nat} {n f : Str} {p pos : Pos} {k : String} {C : Addr}
theorem dxe_fld (nn : X.N[i]? = some n) (hC : X.mg (Str.ofString k) = some (.ref C)) (T : XfC X.K C) (hno : PySem.W.findIn X.K (.ref C) f = some none) (hv : Vis X.env.scope n := by first | exact Or.inl rfl | exact Or.inr (Or.inl rfl) | exact Or.inr (Or.inr rfl))
    (hd : (n == ("__debug__" : Str)) = false := by decide) (hcd : (n == ("__classdict__" : Str)) = false := by decide) (hb : attributeBase (.Name n p) f X.env (eval (.Name n p) X.env) = eval (.Name n p) X.env := by rfl) : DXE X (cmM X.mg) i (.Attribute (.Name n p) f pos) (fldX k f) := by
  refine ⟨fun a oe cls d pn hz hf => ⟨fun pins s σ H Q I ⟨A, c, st, x, e0, rel, loc, hi, er, post⟩ => ?_⟩⟩
  subst e0
  unfold fldX at post
  split at post
  · rename_i ek
    split at post
    · rename_i y hy
      obtain ⟨C', ec, hcm, h3⟩ := id er
      subst ec
      rw [ek] at hcm
      have hcm : X.mg (Str.ofString k) = some (.ref C') := hcm
      rw [hC] at hcm
      cases hcm
      refine (pe_xf (X := X) (pos := pos) T hno ⟨hz.1, hz.2.1⟩ hf (pe_var (X := X.suite a ((a, oe) :: pn)) nn hv hd hcd) hb).run pins s σ c.H Q I ?_
      rcases h3 with ⟨z, _⟩ | ⟨dd, gs, e1, e2, e3, e4⟩
      · rw [z] at hy
        cases hy
      · rcases e4.lookup f with ⟨z, _⟩ | ⟨d', v', l1, l2, rv⟩
        · rw [z] at hy
          cases hy
        · rw [l1] at hy
          cases hy
          exact ⟨_, hi, rfl, rfl, dd, gs, v', e1, e3, l2, post.here rel rv⟩
    · exact post.elim
  · exact post.elim
end
def clrF (i : Nat) : Fl → Fl
  | .nx st => .nx (st.set i none)
  | .bk st => .bk (st.set i none)
  | .ct st => .ct (st.set i none)
  | .rt d => .rt d
def dTryAs (i : Nat) (tab : List (String × Bool)) (db : DSv) (ds : Err → DSv) : DSv := fun st S => match db st S with
  | .err x S' => match tab.lookup x.cls with
    | some true => if i < st.length then (ds x (st.set i none) S').bind fun fl S2 => .ok (clrF i fl) S2 else .no
    | some false => .err x S'
    | none => .no
  | r => r
theorem LocR.clr {G : Gam} {c : Cfg} {st : DSt} {σ : L2.St} {i : Nat} {o : Option V} (h : LocR G c st σ) : LocR G c (st.set i none) (σ.set i o) := by
  refine ⟨by rw [List.length_set, List.length_set]; exact h.1, fun j x e => ?_⟩
  by_cases hj : i = j
  · subst hj
    by_cases hl : i < st.length
    · rw [List.getElem?_set_self hl] at e
      cases e
    · rw [List.getElem?_eq_none (by rw [List.length_set]; omega)] at e
      cases e
  · rw [List.getElem?_set_ne hj] at e ⊢
    exact h.2 j x e
theorem ds_tryAs {X : Cx} {cm : String → Addr → Prop} {E : XK} {i : Nat} {x n : Str} {c : Value} {body suite : List Stmt} {b₀ : Stmt} {np pos pos' : Pos} {tab : List (String × Bool)} {db : DSv} {ds : Err → DSv} (hc : Names X x c) (tk : Takes X (fun cls d _ H => E cls d H)) (hb : DB X cm body db)
    (hsu : DSu X cm i (b₀ :: suite) ds) (nd : X.N.Nodup) (cs : ∀ x st S, R.calm (ds x st S)) (ht : ∀ n b, tab.lookup n = some b → ∀ C, cm n C → PySem.W.exmOne X.K (.ref C) c = some b)
    (hi : X.N[i]? = some n := by rfl) (hln : X.env.kindOf n = some .local := by rfl) (hs : X.stack = X.env :: X.outer := by rfl) (hf : X.env.frame = some X.env.locals := by rfl) : DS X cm E (.Try body [.ExceptHandler (some (.Name x np)) (some n) (b₀ :: suite) pos'] [] [] pos) (dTryAs i tab db ds) := by
  refine ⟨_, L2N.ps_try_as hs hf nd hi hln hc tk (fun W pn xe tk' own => hb.run W pn xe tk' own) (fun a oe cls d pn hz hff => hsu.run a oe cls d pn hz hff), fun A cc st σ Ds rel loc h => ⟨A, cc, st, rfl, rel, loc, ?_⟩⟩
  unfold dTryAs at h
  split at h
  · rename_i y S' e
    rw [e]
    intro C d c' eS xx rel' er
    obtain ⟨a, ec, hcm, rest⟩ := id er
    subst ec
    split at h
    · rename_i hb
      split at h
      · rename_i hlt
        refine ⟨true, ht _ _ hb a hcm, fun _ a' _ => ⟨A, c', st.set i none, y, rfl, rel', (loc.mono xx).clr, List.getElem?_set_self (by rw [← loc.1]; exact hlt), er, ?_⟩, fun z => (Bool.noConfusion z)⟩
        rw [eS]
        have n := cs y (st.set i none) S'
        cases r : ds y (st.set i none) S' with
        | no => rw [r] at h; exact h
        | err z S2 => rw [r] at n; exact n.elim
        | ok fl S2 =>
          rw [r] at h
          have h := PostS.trans xx (show PostS ⟨X.K, cm, A⟩ E cc Ds (.ok (clrF i fl) S2) from h)
          cases fl with
          | nx st' => exact fun σ' c2 e2 x2 r2 l2 => h _ c2 e2 x2 r2 l2.clr
          | bk st' => exact fun σ' c2 e2 x2 r2 l2 => h _ c2 e2 x2 r2 l2.clr
          | ct st' => exact fun σ' c2 e2 x2 r2 l2 => h _ c2 e2 x2 r2 l2.clr
          | rt d' => exact h
      · exact h.elim
    · rename_i hb
      exact ⟨false, ht _ _ hb a hcm, fun z => (Bool.noConfusion z), fun _ => h _ d c' eS xx rel' er⟩
    · exact h.elim
  · rename_i r hr
    cases e : db st cc.S with
    | no => rw [e] at h; exact h
    | err y S => exact absurd e (hr y S)
    | ok fl S =>
      rw [e] at h
      cases fl <;> exact h
theorem db_never {X : Cx} {cm : String → Addr → Prop} {ss : List Stmt} : DB X cm ss dNever := ⟨fun W pn xe tk own => ⟨fun pins s σ H Ds I ⟨A, c, st, e0, rel, loc, post⟩ => post.elim⟩⟩

/-! ### raise C(f=e), raise C() of own refusals -/
section
variable {X : Cx} {CX : CXT} {C fI : Addr} {k : Nat} {fd : FuncData} {ps : List Str} {sp : Sp} {x kf : Str} {p pos kpos : Pos} {e : Expr} {tk : TA} {g : List Value → List Value → List Value} {gV : List V → List V → List V}
theorem make_oexK (T : OexC X.K C) (iC : PySem.W.findIn X.K (.ref C) "__init__" = some (some (.ref fI))) (tI : PySem.W.typeIn X.K (.ref fI) = some (.type "function")) (F1 : FnOk X.prog X.w X.K X.mg X.base CX k fI fd ps sp) (hr : Room (k + 1) X.A) (hb : KBn X.K fd ps 1 [kf] g gV) (hx : Passes CX X (fun _ _ _ => False))
    {pins : List (Addr × Obj)} {σ : L2.St} {H1 : Hp} {Q : XK} {s1 : Shared} {u : Value} {v : V} (I1 : Inv X pins σ H1 s1) (r1 : RelV v u) (q1 : ∀ a, H1 a = none → sp (gV [.ref a] [v]) (upd H1 a (exo a C none)) (OexQ C a H1 Q) (fun _ _ _ => False)) :
    wpAny (model X.prog X.w) X.A (call (.ref C) [] [(kf, u)]) (L2N.MkP X pins σ Q) X.xe s1 := by
  obtain ⟨nm, q, N, bs, bm, sn, sub, ab, col, dd, k0, k1, k2, k3, k5, hC, hbm⟩ := T.cls
  obtain ⟨hp, g', dr, tk, os⟩ := s1
  have hsz : hp.objs.size ≤ hp.objs.size + 1 := Nat.le_succ _
  have hn : H1 (hp.objs.size + 1) = none := I1.hok.fresh hsz
  have hq := q1 (hp.objs.size + 1) hn
  have kk : ∀ b o, hp.get? b = some o → ((hp.push (PySem.W.kdv_tup [])).push (PySem.HandSPX.excO C hp.objs.size)).get? b = some o := fun b o e => Heap.get?_push_of_some _ (Heap.get?_push_of_some _ e)
  have hget : ((hp.push (PySem.W.kdv_tup [])).push (PySem.HandSPX.excO C hp.objs.size)).get? (hp.objs.size + 1) = some (PySem.HandSPX.excO C hp.objs.size) := by heap_get
  have I2 : Inv X pins σ (upd H1 (hp.objs.size + 1) (exo (hp.objs.size + 1) C none)) ⟨(hp.push (PySem.W.kdv_tup [])).push (PySem.HandSPX.excO C hp.objs.size), g', dr, tk, os⟩ :=
    I1.laid (t' := tk) (a := hp.objs.size + 1) (o := exo (hp.objs.size + 1) C none) (h' := (hp.push (PySem.W.kdv_tup [])).push (PySem.HandSPX.excO C hp.objs.size)) kk hsz (exo_ok hget)
  have r2 := hb.rel (vs := [V.ref (hp.objs.size + 1)]) (us := [Value.ref (hp.objs.size + 1)]) (.cons rfl .nil) (zs := [v]) (ws := [u]) (.cons r1 .nil)
  refine wpAny_call (ExQ.call_ownK F.excBase_ValueError (fun Y => PySem.HandSPX.refsVE_contains Y bm hbm) (I1.kIn _ _ hC) (PySem.W.looks_findIn I1.kIn iC) (fun self => PySem.W.bind_fn I1.kIn self tI) (Nat.zero_le _)
    (codeAny_mono (F1.run _ X.stack _ _ ⟨[Value.ref (hp.objs.size + 1)], [(kf, u)]⟩ (g [Value.ref (hp.objs.size + 1)] [u]) _ _ (fun _ _ _ => False) (hr.make C [] [(kf, u)]) (I2.env0.make C [] [(kf, u)]) (hb.to _ [Value.ref (hp.objs.size + 1)] [u] I2.kIn rfl rfl) r2 hq) fun r s' hq' => ?_))
  cases r with
  | error er => exact hx pins σ _ _ er s' I2 hq'
  | ok fl =>
    cases fl with
    | ret u =>
      obtain ⟨v, H2, os2, bare2, un2, hok2, rv, ev, d, fs, ea, ed, hd1, q2⟩ := hq'
      subst ev
      obtain ⟨h2, g2, d2, t2, os'⟩ := s'
      exact ⟨rv, mk_endN (raises_own T.exC T.tyC) I1 hsz kk un2 hok2 os2 bare2 ea ed hd1 q2⟩
    | next => exact False.elim hq'
    | brk => exact False.elim hq'
    | cont => exact False.elim hq'
def tMkK (C : Addr) (sp : Sp) (gV : List V → List V → List V) (tk : TA) : L2.St → Hp → XK → Prop := fun σ H Q => tk σ H fun zs H1 => ∃ v, zs = [v] ∧ ∀ a, H1 a = none → sp (gV [.ref a] [v]) (upd H1 a (exo a C none)) (OexQ C a H1 Q) (fun _ _ _ => False)
theorem pmk_oexK (T : OexC X.K C) (iC : PySem.W.findIn X.K (.ref C) "__init__" = some (some (.ref fI))) (tI : PySem.W.typeIn X.K (.ref fI) = some (.type "function")) (F1 : FnOk X.prog X.w X.K X.mg X.base CX k fI fd ps sp) (hr : Room (k + 1) X.A) (hb : KBn X.K fd ps 1 [kf] g gV) (hx : Passes CX X (fun _ _ _ => False))
    (hg : Gl X x) (hm : X.mg x = some (.ref C)) (hkw : PK X [⟨some kf, e, kpos⟩] tk) (hdb : (x == ("__debug__" : Str)) = false := by decide) (hall : (backToKw pos (keywordEach [⟨some kf, e, kpos⟩] X.env)).all (·.1.isSome) = true := by rfl) (hks : (backToKw pos (keywordEach [⟨some kf, e, kpos⟩] X.env)).filterMap (·.1) = [kf] := by rfl)
    (hpl : ((backTo pos (starEach [] X.env)).any (·.1) || (backToKw pos (keywordEach [⟨some kf, e, kpos⟩] X.env)).any (·.1.isNone)) = false := by rfl) : L2N.PMk X (.Call (.Name x p) [] [⟨some kf, e, kpos⟩] pos) (tMkK C sp gV tk) := by
  intro pins s σ H Q I h
  refine wpAny_Call_Name_kw (ld_glob I hg hm ?_ hdb)
  refine PySem.W.callWith_KW0 (h₀ := X.base) I.ok.mod.kin T.kC hall ?_ hpl
  refine thn (hkw.run pos pins s σ H _ I h) fun ws s2 ⟨zs, H2, I2, rz, v, ez, q2⟩ => ⟨I2.kIn, ?_⟩
  rw [hks]
  subst ez
  cases rz with
  | cons rv rn =>
    cases rn
    exact make_oexK T iC tI F1 hr hb hx I2 rv q2
theorem pmk_oex0 {ds : List Value} {dvs : List V} (T : OexC X.K C) (iC : PySem.W.findIn X.K (.ref C) "__init__" = some (some (.ref fI))) (tI : PySem.W.typeIn X.K (.ref fI) = some (.type "function")) (F1 : FnOk X.prog X.w X.K X.mg X.base CX k fI fd ps sp) (hr : Room (k + 1) X.A) (hb : Binds X.K fd ps ds) (hd : Vals dvs ds) (hx : Passes CX X (fun _ _ _ => False))
    (hg : Gl X x) (hm : X.mg x = some (.ref C)) (hdb : (x == ("__debug__" : Str)) = false := by decide) : L2N.PMk X (.Call (.Name x p) [] [] pos) (tMkO C sp dvs tNil) := by
  intro pins s σ H Q I h
  refine wpAny_Call_Name_kw (ld_glob I hg hm ?_ hdb)
  refine PySem.W.callWith_K0 I.kIn T.kC ?_
  exact make_oex (us := []) (vs := []) T iC tI F1 hr hb hd hx I .nil h.1 h.2
end
section
variable {X : Cx} {E : XK} {k : String} {C fI : Addr} {fd : FuncData} {x f : Str} {p p1 pos' kpos : Pos} {e : Expr} {dr : DAv}
theorem raised_with {A : Addr → Prop} {c1 : Cfg} {y : D} {v : V} {C : Addr} {W : XK} (hC : X.mg (Str.ofString k) = some (.ref C)) (T : OexC X.K C) (hno : PySem.W.findIn X.K (.ref C) f = some none) (rel1 : RelC ⟨X.K, cmM X.mg, A⟩ c1) (rv : Rp ⟨X.K, cmM X.mg, A⟩ c1 y v)
    (h1 : ∀ C' d c', c'.S = c1.S → Ext c1 c' → RelC ⟨X.K, cmM X.mg, A⟩ c' → ErrR ⟨X.K, cmM X.mg, A⟩ c' ⟨k, [(f, y)]⟩ C' d → W C' d c'.H) (a : Addr) (ha : c1.H a = none) : spInit X.K f [.ref a, v] (upd c1.H a (exo a C none)) (OexQ C a c1.H W) (fun _ _ _ => False) := by
  refine ⟨a, C, v, rfl, T, hno, upd_same, fun dx hn ne => ⟨rfl, dx, [(f, v)], upd_same, ?_, ?_, ?_⟩⟩
  · rw [upd_ne ne, upd_same]
  · rw [upd_ne ne] at hn
    exact hn
  · rw [upd_ne ne] at hn
    have e1 : upd (del (upd (upd (upd c1.H a (exo a C none)) dx (exd dx [(f, v)])) a (exo a C (some dx))) a) dx (.xd [(f, v)]) = upd c1.H dx (.xd [(f, v)]) := del_upd ha ne
    have x2 : Ext c1 ⟨c1.φ, c1.S, upd c1.H dx (.xd [(f, v)])⟩ := Ext.lay rel1 hn
    exact e1 ▸ h1 (.ref C) (some dx) ⟨c1.φ, c1.S, upd c1.H dx (.xd [(f, v)])⟩ rfl x2 (rel1.lay hn) ⟨C, rfl, hC, .inr ⟨dx, [(f, v)], rfl, own_new rel1 hn, upd_same, .cons ⟨rfl, Rp.mono x2 _ _ rv⟩ .nil⟩⟩
theorem ds_raiseK {gU : List Value → List Value → List Value} {gV : List V → List V → List V} {z : Nat} (G : GX X E z) (hC : X.mg (Str.ofString k) = some (.ref C)) (T : OexC X.K C) (hno : PySem.W.findIn X.K (.ref C) f = some none) (iC : PySem.W.findIn X.K (.ref C) "__init__" = some (some (.ref fI))) (tI : PySem.W.typeIn X.K (.ref fI) = some (.type "function"))
    (F1 : FnOk X.prog X.w X.K X.mg X.base (CX X.prog X.w) 1 fI fd ["self", f] (spInit X.K f)) (hr : Room 2 X.A) (hb : KBn X.K fd ["self", f] 1 [f] gU gV) (hgV : ∀ a v, gV [a] [v] = [a, v]) (hm : X.mg x = some (.ref C)) (tk : Takes X (fun cls d _ H => E cls d H)) (ha : DK X (cmM X.mg) E [⟨some f, e, kpos⟩] dr) (hg : Gl X x := by rfl)
    (hdb : (x == ("__debug__" : Str)) = false := by decide) (hall : (backToKw p1 (keywordEach [⟨some f, e, kpos⟩] X.env)).all (·.1.isSome) = true := by rfl) (hks : (backToKw p1 (keywordEach [⟨some f, e, kpos⟩] X.env)).filterMap (·.1) = [f] := by rfl)
    (hpl : ((backTo p1 (starEach [] X.env)).any (·.1) || (backToKw p1 (keywordEach [⟨some f, e, kpos⟩] X.env)).any (·.1.isNone)) = false := by rfl) : DS X (cmM X.mg) E (.Raise (some (.Call (.Name x p) [] [⟨some f, e, kpos⟩] p1)) none pos') (dRaise1 k f dr) := by
  obtain ⟨t, pk, s⟩ := ha.ex
  refine ⟨_, ps_raise G.calm tk (pmk_oexK T iC tI F1 hr hb passF hg hm pk hdb hall hks hpl), fun A c st σ Ds rel loc h => s A c st σ _ rel loc (Post.seqS h fun ds vs c1 q1 x1 rel1 rd h1 => ?_)⟩
  split at h1
  · rename_i y
    obtain ⟨v, r, rfl, rv, hr2⟩ := rd
    cases hr2
    refine ⟨v, rfl, fun a ha => ?_⟩
    rw [hgV]
    exact raised_with hC T hno rel1 rv (fun C' d c' e1 e2 e3 e4 => h1 C' d c' e1 e2 e3 e4) a ha
  · exact h1.elim
/-- raise C(), the field its default -/
def dRaiseD (k : String) (f : Str) : DSv := fun _ S => .err ⟨k, [(f, .non)]⟩ S
theorem ds_raiseD {dl : List Value} {z : Nat} (G : GX X E z) (hC : X.mg (Str.ofString k) = some (.ref C)) (T : OexC X.K C) (hno : PySem.W.findIn X.K (.ref C) f = some none) (iC : PySem.W.findIn X.K (.ref C) "__init__" = some (some (.ref fI))) (tI : PySem.W.typeIn X.K (.ref fI) = some (.type "function"))
    (F1 : FnOk X.prog X.w X.K X.mg X.base (CX X.prog X.w) 1 fI fd ["self", f] (spInit X.K f)) (hr : Room 2 X.A) (hb : Binds X.K fd ["self", f] dl) (hv : Vals [V.non] dl) (hm : X.mg x = some (.ref C)) (tk : Takes X (fun cls d _ H => E cls d H)) (hg : Gl X x := by rfl) (hdb : (x == ("__debug__" : Str)) = false := by decide) :
    DS X (cmM X.mg) E (.Raise (some (.Call (.Name x p) [] [] p1)) none pos') (dRaiseD k f) := by
  refine ⟨_, ps_raise G.calm tk (pmk_oex0 T iC tI F1 hr hb hv passF hg hm hdb), fun A c st σ Ds rel loc h => ?_⟩
  exact ⟨by simp, fun a ha => raised_with (y := .non) (v := .non) hC T hno rel rfl (fun C' d c' e1 e2 e3 e4 => h C' d c' e1 e2 e3 e4) a ha⟩
end
/-! ### within a try: calls with keywords -/
def tCallNW (n l : Nat) (sp : Sp) (gV : List V → List V → List V) (E : L2.St → XK) (t tk : TA) : TE := fun σ H Q => t σ H fun vs H1 => tk σ H1 fun zs H2 => vs.length = n ∧ zs.length = l ∧ sp (gV vs zs) H2 Q (E σ)
section
variable {X : Cx} {CX : CXT} {k n : Nat} {f : Addr} {fd : FuncData} {ps ks : List Str} {sp : Sp} {E : L2.St → XK} {x : Str} {p pos : Pos} {e : Expr} {es : List Expr} {kws : List Keyword} {t tk : TA} {g : List Value → List Value → List Value} {gV : List V → List V → List V}
theorem run_fnNd {pins : List (Addr × Obj)} {σ : L2.St} {H : Hp} {s : Shared} {Q : VK} {us ws : List Value} {vs zs : List V} (F : FnOk X.prog X.w X.K X.mg X.base CX k f fd ps sp) (hr : Room k X.A) (hb : KBn X.K fd ps n ks g gV) (hx : PassesAt CX X σ (E σ))
    (I : Inv X pins σ H s) (r : Vals vs us) (rz : Vals zs ws) (l1 : vs.length = n) (l2 : zs.length = ks.length) (h : sp (gV vs zs) H Q (E σ)) : wpAny (model X.prog X.w) X.A (call (.ref f) us (ks.zip ws)) (EP X pins σ Q) X.xe s := by
  have r2 := hb.rel r rz
  refine wpAny_call (codeAny_mono (F.run X.A X.stack s H ⟨us, ks.zip ws⟩ (g us ws) (gV vs zs) Q (E σ) hr I.env0 (hb.to s us ws I.kIn (r.length.symm.trans l1) (rz.length.symm.trans l2)) r2 h) fun r s' hq => ?_)
  cases r with
  | error e => exact hx pins H s e s' I hq
  | ok fl =>
    cases fl with
    | ret u => exact I.after hq
    | next => exact False.elim hq
    | brk => exact False.elim hq
    | cont => exact False.elim hq
theorem pe_callNW (F : FnOk X.prog X.w X.K X.mg X.base CX k f fd ps sp) (hr : Room k X.A) (hg : Gl X x) (hm : X.mg x = some (.ref f)) (hk : PySem.W.keepIn X.K (.ref f) = true) (hb : KBn X.K fd ps n ks g gV) (hx : ∀ σ, PassesAt CX X σ (E σ))
    (ha : PA X (e :: es) t) (hkw : PK X kws tk) (hall : (backToKw pos (keywordEach kws X.env)).all (·.1.isSome) = true := by rfl) (hks : (backToKw pos (keywordEach kws X.env)).filterMap (·.1) = ks := by rfl)
    (hdb : (x == ("__debug__" : Str)) = false := by decide) (he : starEach (e :: es) X.env = (false, eval e X.env) :: starEach es X.env := by rfl)
    (hpl : ((backTo pos (starEach (e :: es) X.env)).any (·.1) || (backToKw pos (keywordEach kws X.env)).any (·.1.isNone)) = false := by rfl) :
    PE X (.Call (.Name x p) (e :: es) kws pos) (tCallNW n ks.length sp gV E t tk) := by
  refine ⟨fun pins s σ H Q I h => ?_⟩
  refine wpAny_Call_Name_kw (ld_glob I hg hm ?_ hdb)
  refine PySem.W.callWith_KW (h₀ := X.base) I.ok.mod.kin hk hall (thn (ha.run pos pins s σ H _ I h) fun us s1 ⟨vs, H1, I1, r, q⟩ => ?_) hpl he
  refine thn (hkw.run pos pins s1 σ H1 _ I1 q) fun ws s2 ⟨zs, H2, I2, rz, l1, l2, q2⟩ => ⟨I2.kIn, ?_⟩
  rw [hks]
  exact run_fnNd F hr hb (hx σ) I2 r rz l1 l2 q2
theorem pe_callNW0 (F : FnOk X.prog X.w X.K X.mg X.base CX k f fd ps sp) (hr : Room k X.A) (hg : Gl X x) (hm : X.mg x = some (.ref f)) (hk : PySem.W.keepIn X.K (.ref f) = true) (hb : KBn X.K fd ps 0 ks g gV) (hx : ∀ σ, PassesAt CX X σ (E σ))
    (hkw : PK X kws tk) (hall : (backToKw pos (keywordEach kws X.env)).all (·.1.isSome) = true := by rfl) (hks : (backToKw pos (keywordEach kws X.env)).filterMap (·.1) = ks := by rfl)
    (hdb : (x == ("__debug__" : Str)) = false := by decide) (hpl : ((backTo pos (starEach [] X.env)).any (·.1) || (backToKw pos (keywordEach kws X.env)).any (·.1.isNone)) = false := by rfl) :
    PE X (.Call (.Name x p) [] kws pos) (tCallNW 0 ks.length sp gV E tNil tk) := by
  refine ⟨fun pins s σ H Q I h => ?_⟩
  refine wpAny_Call_Name_kw (ld_glob I hg hm ?_ hdb)
  refine PySem.W.callWith_KW0 (h₀ := X.base) I.ok.mod.kin hk hall ?_ hpl
  refine thn (hkw.run pos pins s σ H _ I h) fun ws s2 ⟨zs, H2, I2, rz, l1, l2, q2⟩ => ⟨I2.kIn, ?_⟩
  rw [hks]
  exact run_fnNd (us := []) (vs := []) F hr hb (hx σ) I2 .nil rz rfl l2 q2
end
section
variable {X : Cx} {cm : String → Addr → Prop} {E : XK} {pos p : Pos} {j n m z : Nat} {f : Addr} {fd : FuncData} {ps ks : List Str} {F : List D → Store → R D} {x : Str} {e : Expr} {es : List Expr} {kws : List Keyword} {dr kk : DAv} {gU : List Value → List Value → List Value} {gV : List V → List V → List V} {g : List D → List D → List D}
theorem dew_callK (G : GX X E z) (ok : FnOk X.prog X.w X.K X.mg X.base (CX X.prog X.w) j f fd ps (spD X.K cm m F)) (hr : Room j X.A) (hm : X.mg x = some (.ref f)) (hk : PySem.W.keepIn X.K (.ref f) = true) (hb : KBn X.K fd ps n ks gU gV) (hrel : ∀ {G : Gam} {c : Cfg} {ds zs vs ws}, RpA G c ds vs → RpA G c zs ws → RpA G c (g ds zs) (gV vs ws))
    (ha : ∀ pn xe, GX (X.tr pn xe) E0 z → DA (X.tr pn xe) cm E0 (e :: es) dr) (ca : CalmA dr) (hkw : ∀ pn xe, GX (X.tr pn xe) E0 z → DK (X.tr pn xe) cm E0 kws kk) (ck : CalmA kk) (hg : Gl X x := by rfl) (hall : (backToKw pos (keywordEach kws X.env)).all (·.1.isSome) = true := by rfl)
    (hks : (backToKw pos (keywordEach kws X.env)).filterMap (·.1) = ks := by rfl) (hdb : (x == ("__debug__" : Str)) = false := by decide) (he : starEach (e :: es) X.env = (false, eval e X.env) :: starEach es X.env := by rfl)
    (hpl : ((backTo pos (starEach (e :: es) X.env)).any (·.1) || (backToKw pos (keywordEach kws X.env)).any (·.1.isNone)) = false := by rfl) : DEW X cm (.Call (.Name x p) (e :: es) kws pos) (dCallK F m n ks.length g dr kk) := by
  refine ⟨fun W pn xe tk own => ?_⟩
  obtain ⟨t1, p1, s1⟩ := (ha pn xe (G.tr own)).ex
  obtain ⟨t2, p2, s2⟩ := (hkw pn xe (G.tr own)).ex
  have pe := pe_callNW (X := X.tr pn xe) (E := WE W) (p := p) ok hr hg hm hk hb (fun σ => passAt tk σ) p1 p2 hall hks hdb he hpl
  refine ⟨fun pins s σ H Q I ⟨A, c, st, e0, rel, loc, post⟩ => ?_⟩
  subst e0
  refine pe.run pins s σ c.H Q I (s1 A c st σ _ rel loc ((Post.seq post fun ds vs c1 q1 x1 rel1 rd h1 => ?_).noerr (ca st c.S)))
  refine s2 A c1 st σ _ rel1 (loc.mono x1) ((Post.seq h1 fun zs ws c2 q2 x2 rel2 rz h2 => ?_).noerr (ck st c1.S))
  have rr := hrel (RpA.mono x2 ds vs rd) rz
  split at h2
  · rename_i hl
    exact ⟨by rw [← rd.length]; exact hl.1, by rw [← rz.length]; exact hl.2.1, by rw [← rr.length]; exact hl.2.2, A, c2, _, rfl, rel2, rr, h2⟩
  · exact h2.elim
theorem dew_callK0 (G : GX X E z) (ok : FnOk X.prog X.w X.K X.mg X.base (CX X.prog X.w) j f fd ps (spD X.K cm m F)) (hr : Room j X.A) (hm : X.mg x = some (.ref f)) (hk : PySem.W.keepIn X.K (.ref f) = true) (hb : KBn X.K fd ps 0 ks gU gV) (hrel : ∀ {G : Gam} {c : Cfg} {ds zs vs ws}, RpA G c ds vs → RpA G c zs ws → RpA G c (g ds zs) (gV vs ws))
    (hkw : ∀ pn xe, GX (X.tr pn xe) E0 z → DK (X.tr pn xe) cm E0 kws kk) (ck : CalmA kk) (hg : Gl X x := by rfl) (hall : (backToKw pos (keywordEach kws X.env)).all (·.1.isSome) = true := by rfl)
    (hks : (backToKw pos (keywordEach kws X.env)).filterMap (·.1) = ks := by rfl) (hdb : (x == ("__debug__" : Str)) = false := by decide)
    (hpl : ((backTo pos (starEach [] X.env)).any (·.1) || (backToKw pos (keywordEach kws X.env)).any (·.1.isNone)) = false := by rfl) : DEW X cm (.Call (.Name x p) [] kws pos) (dCallK F m 0 ks.length g dNil kk) := by
  refine ⟨fun W pn xe tk own => ?_⟩
  obtain ⟨t2, p2, s2⟩ := (hkw pn xe (G.tr own)).ex
  have pe := pe_callNW0 (X := X.tr pn xe) (E := WE W) (p := p) ok hr hg hm hk hb (fun σ => passAt tk σ) p2 hall hks hdb hpl
  refine ⟨fun pins s σ H Q I ⟨A, c, st, e0, rel, loc, post⟩ => ?_⟩
  subst e0
  refine pe.run pins s σ c.H Q I ?_
  refine s2 A c st σ _ rel loc ((Post.seq (show Post ⟨X.K, cm, A⟩ (EW W σ) (Rp ⟨X.K, cm, A⟩) c Q ((kk st c.S).bind fun zs S2 => if ([] : List D).length = 0 ∧ zs.length = ks.length ∧ (g [] zs).length = m then F (g [] zs) S2 else .no) from post) fun zs ws c2 q2 x2 rel2 rz h2 => ?_).noerr (ck st c.S))
  have rr := hrel (show RpA ⟨X.K, cm, A⟩ c2 [] [] from rfl) rz
  split at h2
  · rename_i hl
    exact ⟨rfl, by rw [← rz.length]; exact hl.2.1, by rw [← rr.length]; exact hl.2.2, A, c2, _, rfl, rel2, rr, h2⟩
  · exact h2.elim
end
/-- what is calm -/
theorem calm_kind {tab : List (String × Str)} {x : Err} : CalmE (kindV tab x) := fun st S => by unfold kindV; split <;> (try split) <;> exact True.intro
theorem calm_fld {k : String} {f : Str} {x : Err} : CalmE (fldX k f x) := fun st S => by unfold fldX; split <;> (try split) <;> exact True.intro
theorem calm_setN {j : Nat} {v : DEv} {r : DSv} (h : CalmE v) (g : ∀ st S, R.calm (r st S)) : ∀ st S, R.calm (dSetN j v r st S) := fun st S => calm_bind (h st S) fun y S1 => g _ S1
theorem calm_next : ∀ st S, R.calm (dNext st S) := fun _ _ => True.intro
theorem calm_ret {v : DEv} (h : CalmE v) : ∀ st S, R.calm (dRet v st S) := fun st S => calm_bind (h st S) fun _ _ => True.intro
theorem lookup_one {α : Type} {k : String} {v : α} {n : String} {b : α} (h : [(k, v)].lookup n = some b) : n = k ∧ b = v := by
  rw [List.lookup_cons] at h
  split at h
  · rename_i e
    exact ⟨by simpa using e, by cases h; rfl⟩
  · cases h
theorem mg_one {mg : Str → Option Value} {k : String} {a b : Addr} (h : mg (Str.ofString k) = some (.ref a)) (g : cmM mg k b) : b = a := by
  have g : mg (Str.ofString k) = some (.ref b) := g
  rw [h] at g
  cases g
  rfl
/-- the law's own start, whatever classes are called -/
def spAll (K : PySem.W.Frag) (n : Nat) (F : List D → Store → R D) : Sp := fun vs H Q E => ∀ cm, spD K cm n F vs H Q E
theorem okAll {P : Program} {w : World} {K : PySem.W.Frag} {mg : Str → Option Value} {base : Heap} {CX : CXT} {k n : Nat} {f : Addr} {fd : FuncData} {ps : List Str} {F : List D → Store → R D} {cm : String → Addr → Prop} (h : FnOk P w K mg base CX k f fd ps (spD K cm n F)) : FnOk P w K mg base CX k f fd ps (spAll K n F) :=
  ⟨fun vs H Q E q => h.len vs H Q E (q cm), fun A outer s H args us vs Q E hr e0 hb r q => h.run A outer s H args us vs Q E hr e0 hb r (q cm)⟩

/-! ### D.get(e, None), D a written dict of the module, texts to texts -/
inductive Ents : List (Str × Str) → List DictEntry → Prop
  | nil : Ents [] []
  | cons {k v : Str} {h : Int} {t u : Tok} {tab : List (Str × Str)} {l : List DictEntry} : Ents tab l → Ents ((k, v) :: tab) (⟨h, .str k t, .str v u⟩ :: l)
theorem ents_find : ∀ {tab : List (Str × Str)} {l : List DictEntry}, Ents tab l → ∀ z, RelO ((tab.lookup z).map V.str) ((l.find? fun e => Value.isStrOf z e.key).map (·.val))
  | _, _, .nil, _ => trivial
  | _, _, @Ents.cons k v h t u tab l r, z => by
    rw [List.find?_cons, List.lookup_cons]
    have e : Value.isStrOf z (.str k t) = (k == z) := rfl
    show RelO _ ((match Value.isStrOf z (.str k t) with
      | true => some _
      | false => _).map _)
    rw [e]
    by_cases q : k = z
    · subst q
      rw [beq_self_eq_true]
      exact ⟨u, rfl⟩
    · rw [beq_eq_false_iff_ne.mpr q, beq_eq_false_iff_ne.mpr (Ne.symm q)]
      exact ents_find r z
structure KTab (K : PySem.W.Frag) (P : Params) (a : Addr) (tab : List (Str × Str)) : Prop where
  ex : ∃ es n, K.lookup a = some ⟨.type "dict", none, .dict es n, #[]⟩ ∧ PySem.W.KeysLit P es.toList ∧ Ents tab es.toList
  low : (a == sysModules) = false
def kgetT (tab : List (Str × Str)) (z : Str) : V := match tab.lookup z with
  | some t => .str t
  | none => .non
def tKGet (tab : List (Str × Str)) (te : TE) : TE := fun σ H Q => te σ H fun y H1 => ∃ z, y = .str z ∧ Q (kgetT tab z) H1
theorem pe_kget {X : Cx} {g : Str} {a : Addr} {tab : List (Str × Str)} {e : Expr} {te : TE} {p p2 apos cpos : Pos} {j : Nat} (T : KTab X.K X.w.params a tab) (hm : X.mg g = some (.ref a)) (hg : Gl X g) (he : PE X e te) (m : M2 X (.Name g p) "get" apos e (.Constant .none j p2) cpos) (hdb : (g == ("__debug__" : Str)) = false := by decide) :
    PE X (.Call (.Attribute (.Name g p) "get" apos) [e, .Constant .none j p2] [] cpos) (tKGet tab te) := by
  refine ⟨fun pins s σ H Q I h => ?_⟩
  obtain ⟨es, n, hl, hk, ents⟩ := T.ex
  have hm1 := PySem.W.mapOf_K (prog := X.prog) (w := X.w) I.kIn hl hk
  refine wpAny_Call_method m.base m.few m.line PySem.F.plainAttrs_dict PySem.F.slot_dict_get PySem.F.type_dict_get (ld_glob I hg hm ⟨hm1.typeIs, fun b q => ?_, ?_⟩ hdb)
  · cases q
    exact ⟨_, I.kIn _ _ hl, rfl⟩
  rw [m.trees]
  refine Calls.callWith_builtin rfl (Calls.evalArgs_plain (Calls.spliced_cons (thn (he.run pins s σ H _ I h) fun iv s2 ⟨y, H2, I2, ry, z, ey, q2⟩ =>
    Calls.spliced_cons (Constant_none (Calls.spliced_nil ?_)))))
  subst ey
  obtain ⟨t, rfl⟩ := (show ∃ t, iv = Value.str z t from ry)
  have hm2 := PySem.W.mapOf_K (prog := X.prog) (w := X.w) I2.kIn hl hk
  refine call_meetsIn PySem.F.slot_dict_get hm2.typeIs PySem.F.entry_dict_get (PySem.F.args_dict_get_3 _ _ _) (meets_dict_get_default (strKind X.prog X.w) a (strKind_is X.prog X.w z t) T.low .none) ⟨_, hm2, ?_⟩
  refine ⟨kgetT tab z, H2, I2.tok _, ?_, q2⟩
  have r := ents_find ents z
  have e1 : findBy Value.isStrOf es z = (es.toList.find? fun e => Value.isStrOf z e.key).map (·.val) := by
    obtain ⟨l⟩ := es
    unfold findBy
    rw [List.find?_toArray]
  rw [e1]
  unfold kgetT
  cases q : tab.lookup z with
  | none =>
    rw [q] at r
    cases q3 : (es.toList.find? fun e => Value.isStrOf z e.key).map (·.val) with
    | none => rfl
    | some u => rw [q3] at r; exact r.elim
  | some t =>
    rw [q] at r
    cases q3 : (es.toList.find? fun e => Value.isStrOf z e.key).map (·.val) with
    | none => rw [q3] at r; exact r.elim
    | some u => rw [q3] at r; exact r
def kgetV (tab : List (Str × Str)) (x : D) (S : Store) : R D := match x with
  | .str z => match tab.lookup z with
    | some t => if okStr t = true then .ok (.str t) S else .no
    | none => .ok .non S
  | _ => .no
theorem de_kget {X : Cx} {cm : String → Addr → Prop} {E : XK} {g : Str} {a : Addr} {tab : List (Str × Str)} {e : Expr} {d : DEv} {p p2 apos cpos : Pos} {j : Nat} (T : KTab X.K X.w.params a tab) (hm : X.mg g = some (.ref a)) (he : DE X cm E e d) (hg : Gl X g := by rfl) (m : M2 X (.Name g p) "get" apos e (.Constant .none j p2) cpos := by exact ⟨by rfl, by rfl, by rfl, by rfl⟩)
    (hdb : (g == ("__debug__" : Str)) = false := by decide) : DE X cm E (.Call (.Attribute (.Name g p) "get" apos) [e, .Constant .none j p2] [] cpos) (dUn (kgetV tab) d) := by
  obtain ⟨t, pe, s⟩ := he.ex
  refine ⟨_, pe_kget T hm hg pe m hdb, fun A c st σ Q rel loc h => s A c st σ _ rel loc (Post.seq h fun x v c1 q1 x1 rel1 rx h1 => ?_)⟩
  unfold kgetV at h1
  split at h1
  · rename_i z
    refine ⟨z, rx.1, ?_⟩
    unfold kgetT
    split at h1
    · rename_i t ht
      split at h1
      · rename_i ok
        exact h1.here rel1 ⟨rfl, okStr_is ok⟩
      · exact h1.elim
    · rename_i ht
      exact h1.here rel1 rfl
  · exact h1.elim

/-! ### xs.index(a text) of texts -/
def idxV (x : D) (ds : List D) (S : Store) : R D := match ds with
  | [.str z] => match lsOf S x with
    | some xs => match strsOf xs with
      | some ys => if z ∈ ys then .ok (.int (ys.idxOf z : Nat)) S else .no
      | none => .no
    | none => .no
  | _ => .no
theorem idxV_s {K : PySem.W.Frag} {cm : String → Addr → Prop} : MtS K cm (rIndex K) idxV := fun A c x v ds vs Q rel rx rd h => by
  unfold idxV at h
  split at h
  · rename_i z
    split at h
    · rename_i xs hx
      split at h
      · rename_i ys hy
        split at h
        · rename_i hm
          obtain ⟨a, ws, e1, hs, r⟩ := lsOf_rep rel rx hx
          obtain ⟨ew, _⟩ := strsOf_rep r hy
          subst ew
          obtain ⟨w, e2, rw_⟩ := RpA.one rd
          have hl : ys.idxOf z < ys.length := List.idxOf_lt_length_of_mem hm
          refine ⟨a, ys.map V.str, .str z, ys.idxOf z, .str z, e1, by rw [e2, rw_.1], hs, rfl, ?_, ?_, ?_, fun m z' hlt hz' => ?_, h.here rel rfl⟩
          · rw [List.all_map]
            exact List.all_eq_true.mpr fun _ _ => rfl
          · rw [List.getElem?_map, List.getElem?_eq_getElem hl, List.getElem_idxOf hl]
            rfl
          · show (z == z) = true
            exact beq_self_eq_true z
          · rw [List.getElem?_map] at hz'
            obtain ⟨u, hu, rfl⟩ := Option.map_eq_some_iff.mp hz'
            show (u == z) = false
            rw [beq_eq_false_iff_ne]
            rintro rfl
            obtain ⟨hml, he⟩ := List.getElem?_eq_some_iff.mp hu
            have := List.not_of_lt_findIdx (p := (· == u)) (xs := ys) (i := m) (by exact hlt)
            rw [he] at this
            simp at this
        · exact h.elim
      · exact h.elim
    · exact h.elim
  · exact h.elim
theorem idxV_n : NoErrM idxV := fun x ds S => by unfold idxV; split <;> (try split) <;> (try split) <;> (try split) <;> exact True.intro

/-! ### zip(a text, a list) -/
theorem strAt {prog : Program} {w : World} {A : Around} {h : Heap} {it : Addr} {x : Str} {t : Tok} {i : Nat} (hh : A.handled = none) (st : h.IsStrIter it (strIterType x) x t i) :
    ∃ n P St, Draws prog w A it [it] n P St ∧ St i h ∧ i ≤ n ∧ (i < x.cps.size → n = x.cps.size ∧ P = fun i v => ∃ c u, x.cps[i]? = some c ∧ v = .str ⟨#[c]⟩ u) ∧ (x.cps.size ≤ i → i = n) ∧ (∀ j h', St j h' → h'.IsStrIter it (strIterType x) x t j) := by
  by_cases hi : i < x.cps.size
  · exact ⟨_, _, _, Draws.text hh it x t, st, Nat.le_of_lt hi, fun _ => ⟨rfl, rfl⟩, fun h => absurd hi (by omega), fun _ _ q => q⟩
  · refine ⟨i, fun _ _ => True, fun j h => j = i ∧ h.IsStrIter it (strIterType x) x t i, ⟨fun _ _ q => ?_, fun _ _ _ q k => ?_, fun j s Q E hj q => ?_, fun s Q E q hE => ?_⟩, ⟨rfl, st⟩, Nat.le_refl _, fun h => absurd h hi, fun _ => rfl, fun _ _ q => q.1 ▸ q.2⟩
    · obtain ⟨_, o, ho, _⟩ := q
      exact ⟨o, ho⟩
    · obtain ⟨e, o, ho, r⟩ := q
      exact ⟨e, o, k it (by simp) o ho, r⟩
    · exact absurd q.1 (by omega)
    · have hx : x.cps[i]? = none := Array.getElem?_eq_none (by omega)
      have q2 := q.2
      unfold strIterType at q2
      cases ha : x.cps.all (· < 128)
      · rw [ha] at q2
        exact wpAny_nextOf_wide_end hh q2 hx hE
      · rw [ha] at q2
        exact wpAny_nextOf_ascii_end hh q2 hx hE
theorem listAt {prog : Program} {w : World} {A : Around} {h : Heap} {it l : Addr} {items : Array Value} {i : Nat} (hh : A.handled = none) (hne : l ≠ it) (st : h.IsListIter it l i) (hl : h.IsList l items) :
    ∃ n P St, Draws prog w A it [it, l] n P St ∧ St i h ∧ i ≤ n ∧ (i < items.size → n = items.size ∧ P = fun i v => items[i]? = some v) ∧ (items.size ≤ i → i = n) ∧ (∀ j h', St j h' → h'.IsListIter it l j) := by
  by_cases hi : i < items.size
  · exact ⟨_, _, _, Draws.list hh it l hne items, ⟨st, hl⟩, Nat.le_of_lt hi, fun _ => ⟨rfl, rfl⟩, fun h => absurd hi (by omega), fun _ _ q => q.1⟩
  · refine ⟨i, fun _ _ => True, fun j h => j = i ∧ h.IsListIter it l i ∧ h.IsList l items, ⟨fun _ _ q => ?_, fun _ _ _ q k => ?_, fun j s Q E hj q => ?_, fun s Q E q hE => ?_⟩, ⟨rfl, st, hl⟩, Nat.le_refl _, fun h => absurd h hi, fun _ => rfl, fun _ _ q => q.1 ▸ q.2.1⟩
    · obtain ⟨_, ⟨o, ho, _⟩, _⟩ := q
      exact ⟨o, ho⟩
    · exact ⟨q.1, q.2.1.at fun o e => k it (by simp) o e, q.2.2.at fun o e => k l (by simp) o e⟩
    · exact absurd q.1 (by omega)
    · exact wpAny_nextOf_list_end hh q.2.1 q.2.2 (Array.getElem?_eq_none (by omega)) hE
def ItzS (K : PySem.W.Frag) (x : Str) (b : Addr) : It :=
  ⟨fun i H => ∃ (c : Nat) (ys : List V) (y : V), SqL K H b ys ∧ x.cps[i]? = some c ∧ ys[i]? = some y,
    fun i H v H' => ∃ T c y, v = .ref T ∧ H T = none ∧ H' = upd H T (.tup [.str ⟨#[c]⟩, y]) ∧ x.cps[i]? = some c ∧ ∀ ys, SqL K H b ys → ys[i]? = some y,
    fun i H => ∃ ys : List V, SqL K H b ys ∧ (x.cps.size ≤ i ∨ ys.length ≤ i)⟩
theorem turn_zipS {P : Program} {w : World} {K : PySem.W.Frag} {elts : List Expr} {kk : Nat} {tpos : Pos} {b z TI TO i1 i2 : Addr} {x : Str} {t : Tok} (D : ZipSep2 z TI TO i1 i2 [i1] [i2, b]) (hbi : b ≠ i2) :
    Turn P w K (.Tuple elts kk tpos) (ItzS K x b) [z, TI, TO, i1, i2] z (fun i h => IsZip h z TI TO .none ∧ IsTupOf2 h TI (.ref i1) (.ref i2) ∧ (∃ x y, IsTupOf2 h TO x y) ∧ h.IsStrIter i1 (strIterType x) x t i ∧ h.IsListIter i2 b i) where
  mem := by simp
  obj := fun i h st c hc => by
    obtain ⟨hz, hTI, ⟨x, y, hTO⟩, ⟨o1, e1, _, d1⟩, ⟨o2, e2, _, d2⟩⟩ := st
    have e' : c = z ∨ c = TI ∨ c = TO ∨ c = i1 ∨ c = i2 := by simpa using hc
    rcases e' with q | q | q | q | q
    · rw [q]; exact ⟨_, hz, fun v q => nomatch q⟩
    · rw [q]; exact ⟨_, hTI, fun v q => nomatch q⟩
    · rw [q]; exact ⟨_, hTO, fun v q => nomatch q⟩
    · rw [q]; exact ⟨o1, e1, fun v q => by rw [d1] at q; cases q⟩
    · rw [q]; exact ⟨o2, e2, fun v q => by rw [d2] at q; cases q⟩
  keep := fun i h h' st k => by
    obtain ⟨hz, hTI, ⟨x, y, hTO⟩, ⟨o1, h1, r1⟩, h2⟩ := st
    exact ⟨k z (by simp) _ hz, k TI (by simp) _ hTI, ⟨x, y, k TO (by simp) _ hTO⟩, ⟨o1, k i1 (by simp) o1 h1, r1⟩, h2.at fun o q => k i2 (by simp) o q⟩
  item := by
    intro X hP hw hK hc i pins s σ H E I hf st hg
    subst hP hw hK
    obtain ⟨hz, hTI, ⟨x0, y0, hTO⟩, h1, h2⟩ := st
    obtain ⟨cc, ys, y, hqy, hx, hy⟩ := hg
    obtain ⟨its2, rv2, p2, _⟩ := I.list hqy
    obtain ⟨u2, hu2, ru2⟩ := rv2.get hy
    have hzl : z < s.heap.objs.size := Heap.lt_size hz
    have hi1 : i < x.cps.size := (Array.getElem?_eq_some_iff.mp hx).1
    have hi2 : i < its2.toArray.size := by
      have := (List.getElem?_eq_some_iff.mp hu2).1
      simpa using this
    obtain ⟨n1, P1, S1, D1, st1, l1, f1, _, g1⟩ := strAt (prog := X.prog) (w := X.w) (A := X.A.in1) (I.ok.hd hc) h1
    obtain ⟨n2, P2, S2, D2, st2, l2, f2, _, g2⟩ := listAt (prog := X.prog) (w := X.w) (A := X.A.in1) (I.ok.hd hc) hbi h2 p2.isList
    obtain ⟨e1, e1'⟩ := f1 hi1
    obtain ⟨e2, e2'⟩ := f2 hi2
    subst e1' e2'
    refine wpAny_pyNext_zipD2_item D D1 D2 hz hTI hTO st1 st2 (by omega) (by omega) fun v1 v2 h' tk y1 y2 b1 b2 d1 d2 b5 b6 hk => ?_
    obtain ⟨c', u1, hc', rfl⟩ := y1
    rw [hx] at hc'
    cases hc'
    have e2 : v2 = u2 := by
      have : its2.toArray[i]? = some u2 := by simpa using hu2
      rw [this] at y2
      exact (Option.some.inj y2).symm
    subst e2
    refine ⟨_, rfl, wpAny_letOwnedTupleGo_zip (s := { s with heap := h', toks := tk }) b1 fun h'' z'' sb => ?_⟩
    have hT2 : h''.get? s.heap.objs.size = some { cls := .type "tuple", data := .seq #[.str ⟨#[cc]⟩ u1, v2] } := (sb.2 _ (Nat.ne_of_gt hzl)).trans b5
    have new : ObjOk X.prog X.w (upd H s.heap.objs.size (.tup [.str ⟨#[cc]⟩, y])) h'' s.heap.objs.size (.tup [.str ⟨#[cc]⟩, y]) :=
      ⟨by show 2 ≤ sizeLine; decide, [.str ⟨#[cc]⟩ u1, v2], .cons ⟨u1, rfl⟩ (.cons ru2 .nil), ⟨_, hT2, rfl, _, rfl⟩⟩
    have I1 : Inv X pins σ (upd H s.heap.objs.size (.tup [.str ⟨#[cc]⟩, y])) { s with heap := h'', toks := tk } :=
      I.turnedNew (t' := tk) (ch := [z, TI, TO, i1, i2]) (fun c o hb q => (sb.2 c (fun q' => hb (by simp [q']))).trans (hk c o (fun q' => hb (by simp [q'])) (fun q' => hb (by simp [q'])) (fun q' => hb (by simp [q'])) (fun q' => hb (by simp [q'])) q)) hf (Nat.le_refl _) new
    refine ⟨.ref s.heap.objs.size, _, I1, rfl, ⟨_, cc, y, rfl, I.hok.fresh (Nat.le_refl _), rfl, hx, fun l hl => by rw [I.list_inj hl hqy]; exact hy⟩, ⟨z'', ?_, ⟨.str ⟨#[cc]⟩ u1, v2, ?_⟩, ?_, ?_⟩, fun c hcm => ?_⟩
    · exact (sb.2 _ D.TIz).trans (hk _ _ D.TIz D.TITO D.TIi1 D.TIi2 hTI)
    · exact (sb.2 _ D.TOz).trans b2
    · obtain ⟨o, ho, r⟩ := g1 _ _ d1
      exact ⟨o, (sb.2 _ D.zi1.symm).trans ho, r⟩
    · exact (g2 _ _ d2).at fun o q => (sb.2 _ D.zi2.symm).trans q
    · have hlt : c < s.heap.objs.size := by
        have e' : c = z ∨ c = TI ∨ c = TO ∨ c = i1 ∨ c = i2 := by simpa using hcm
        rcases e' with q | q | q | q | q
        · rw [q]; exact hzl
        · rw [q]; exact Heap.lt_size hTI
        · rw [q]; exact Heap.lt_size hTO
        · rw [q]; obtain ⟨_, e1, _⟩ := h1; exact Heap.lt_size e1
        · rw [q]; obtain ⟨_, e2, _⟩ := h2; exact Heap.lt_size e2
      rw [upd_ne (Nat.ne_of_lt hlt)]
      exact (hf c hcm).1
  done := by
    intro X hP hw hK hc i pins s σ H E I hf st hg
    subst hP hw hK
    obtain ⟨hz, hTI, ⟨x0, y0, hTO⟩, h1, h2⟩ := st
    obtain ⟨ys, hqy, hend⟩ := hg
    obtain ⟨its2, rv2, p2, _⟩ := I.list hqy
    have l2 := rv2.length
    obtain ⟨n1, P1, S1, D1, st1, l1, _, f1, g1⟩ := strAt (prog := X.prog) (w := X.w) (A := X.A.in1) (I.ok.hd hc) h1
    obtain ⟨n2, P2, S2, D2, st2, l2, _, f2, g2⟩ := listAt (prog := X.prog) (w := X.w) (A := X.A.in1) (I.ok.hd hc) hbi h2 p2.isList
    refine wpAny_pyNext_zipD2_end D D1 D2 hz hTI hTO st1 st2 l1 l2 ?_ fun h' tk hk => ⟨rfl, I.turnedL (t' := tk) (ch := [z, TI, TO, i1, i2]) (fun c o hb q =>
      hk c o (fun q' => hb (by simp [q'])) (fun q' => hb (by simp [q'])) (fun q' => hb (by simp [q'])) (fun q' => hb (by simp [q'])) q) hf⟩
    rcases hend with q | q
    · exact .inl (f1 q)
    · exact .inr (f2 (by simp; omega))
  self := fun A i s Q E st h => wpAny_pyIter_zip st.1 h
theorem zs_sep {n b : Nat} (hb : b < n) : ZipSep2 (n + 4) (n + 2) (n + 3) n (n + 1) [n] [n + 1, b] where
  TIz := fun e => absurd (show n + 2 = n + 4 from e) (by omega)
  TOz := fun e => absurd (show n + 3 = n + 4 from e) (by omega)
  TITO := fun e => absurd (show n + 2 = n + 3 from e) (by omega)
  TIi1 := fun e => absurd (show n + 2 = n from e) (by omega)
  mem1 := .head _
  zf1 := fun h => absurd (show n + 4 = n from List.mem_singleton.mp h) (by omega)
  Tf1 := fun h => absurd (show n + 3 = n from List.mem_singleton.mp h) (by omega)
  TIi2 := fun e => absurd (show n + 2 = n + 1 from e) (by omega)
  mem2 := .head _
  zf2 := fun h => by
    rcases List.mem_cons.mp h with e | h
    · exact absurd (show n + 4 = n + 1 from e) (by omega)
    · exact absurd (show n + 4 = b from List.mem_singleton.mp h) (by omega)
  Tf2 := fun h => by
    rcases List.mem_cons.mp h with e | h
    · exact absurd (show n + 3 = n + 1 from e) (by omega)
    · exact absurd (show n + 3 = b from List.mem_singleton.mp h) (by omega)
  sep1_2 := fun h => by
    rcases List.mem_cons.mp h with e | h
    · exact absurd (show n = n + 1 from e) (by omega)
    · exact absurd (show n = b from List.mem_singleton.mp h) (by omega)
  sep2_1 := fun h => absurd (show n + 1 = n from List.mem_singleton.mp h) (by omega)
def iZipS (K : PySem.W.Frag) (ta : TA) : TI := fun σ H R => ta σ H fun vs H1 => ∃ x b ys, vs = [.str x, .ref b] ∧ SqL K H1 b ys ∧ R (ItzS K x b) H1
theorem pi_zipS {X : Cx} {e e2 : Expr} {ta : TA} {p pos tpos : Pos} {elts : List Expr} {kk : Nat} (hg : Gl X "zip") (hm : X.mg "zip" = none) (ha : PA X [e, e2] ta)
    (hs : starEach [e, e2] X.env = (false, eval e X.env) :: starEach [e2] X.env := by rfl) (hpl : (backTo pos (starEach [e2] X.env)).any (·.1) = false := by rfl) :
    PI X (.Tuple elts kk tpos) (.Call (.Name "zip" p) [e, e2] [] pos) (iZipS X.K ta) := by
  refine ⟨fun pins s σ H R I h => ?_⟩
  refine Call_ (ld_blt I hg hm PyProof.Rows.boot_zip (PyProof.Rows.callWith_type1 (thn (ha.run pos pins s σ H _ I h) fun us s1 ⟨vs, H1, I1, r1, q1⟩ => ?_) hs hpl))
  obtain ⟨x, b, ys, ex, hqy, q⟩ := q1
  subst ex
  cases r1 with
  | cons r rr =>
    cases rr with
    | cons r' rr =>
      cases rr
      obtain ⟨t, rfl⟩ := r
      cases r'
      have fresh5 : ∀ c, c ∈ [s1.heap.objs.size + 4, s1.heap.objs.size + 2, s1.heap.objs.size + 3, s1.heap.objs.size, s1.heap.objs.size + 1] → FpOk X pins H1 c := fun c hcm => by
        have e' : c = s1.heap.objs.size + 4 ∨ c = s1.heap.objs.size + 2 ∨ c = s1.heap.objs.size + 3 ∨ c = s1.heap.objs.size ∨ c = s1.heap.objs.size + 1 := by simpa using hcm
        have hle : s1.heap.objs.size ≤ c := by
          rcases e' with z | z | z | z | z <;> omega
        exact I1.fpOk hle (I1.hok.fresh hle)
      obtain ⟨its2, rv2, p2, _⟩ := I1.list hqy
      have hb : b < s1.heap.objs.size := p2.lt
      refine zip_begins2 (begins_text x t) (begins_list b its2.toArray) trivial p2.isList fun h' hz hTI hTO g1 g2 hsz hk => wpAny_pyIter_zip hz ?_
      have I2 : Inv X pins σ H1 { s1 with heap := h' } := I1.kept (t' := s1.toks) hk
      exact ⟨s1.heap.objs.size + 4, [s1.heap.objs.size + 4, s1.heap.objs.size + 2, s1.heap.objs.size + 3, s1.heap.objs.size, s1.heap.objs.size + 1], _, _, H1, rfl, I2,
        turn_zipS (x := x) (t := t) (zs_sep hb) (Nat.ne_of_lt (Nat.lt_succ_of_lt hb)),
        ⟨hz, hTI, ⟨_, _, hTO⟩, ⟨_, g1, rfl, rfl⟩, ⟨_, g2, rfl, rfl⟩⟩, fresh5, q⟩
theorem walk_zipS {K : PySem.W.Frag} {cm : String → Addr → Prop} {A : Addr → Prop} {c0 : Cfg} {x : Str} {b : Addr} {s : Src} (hx : (x.cps.all fun n => decide (n < 1114112)) = true) (see : SeeL K cm A c0 b s) : WalkD K cm A c0 (ItzS K x b) ⟨zipD (signsOf x) s.xs, s.at_⟩ := fun B hB c x' rel held i => by
  obtain ⟨ws, q', r2⟩ := see B hB c x' rel held
  refine ⟨fun y hy => ?_, fun hl => ⟨ws, q', ?_⟩⟩
  · obtain ⟨d, e, h1, h2, rfl⟩ := zipD_get hy
    obtain ⟨w, hw, rw⟩ := r2.get h2
    unfold signsOf at h1
    rw [List.getElem?_map] at h1
    obtain ⟨k, hk, e⟩ := Option.map_eq_some_iff.mp h1
    subst e
    have hk' : x.cps[i]? = some k := by simpa using hk
    refine ⟨⟨k, ws, w, q', hk', hw⟩, fun u H' hu => ?_⟩
    obtain ⟨T, k', z', e, hT, eH, hu, hu'⟩ := hu
    rw [hk'] at hu
    cases hu
    have h4 := hu' ws q'
    rw [hw] at h4
    cases h4
    rw [eH, e]
    have hm : k ∈ x.cps.toList := List.mem_of_getElem? hk
    rw [← Array.all_toList, List.all_eq_true] at hx
    refine new_pair rel hT (d := .str ⟨#[k]⟩) (v := .str ⟨#[k]⟩) ⟨rfl, ?_, Nat.le_trans (show (1 : Nat) ≤ 1000 by decide) line1000⟩ rw
    show (#[k].all fun n => decide (n < 1114112)) = true
    simpa using hx k hm
  · have hl : (zipD (signsOf x) s.xs).length ≤ i := hl
    unfold zipD signsOf at hl
    rw [List.length_map, List.length_zip, List.length_map, Array.length_toList] at hl
    rw [← r2.length]
    omega
def diZipS (a : DAv) : DIv := fun st S => (a st S).bind fun ds S1 => match ds with
  | [.str x, y] => match srcOf S1 y with
    | some s => .ok ⟨zipD (signsOf x) s.xs, s.at_⟩ S1
    | none => .no
  | _ => .no
theorem di_zipS {elts : List Expr} {kk : Nat} {tpos : Pos} {d : DAv} {p : Pos} (hg : Gl X "zip") (hm : X.mg "zip" = none) (h : DA X cm E [a, b] d) (hs : starEach [a, b] X.env = (false, eval a X.env) :: starEach [b] X.env := by rfl) (hpl : (backTo pos (starEach [b] X.env)).any (·.1) = false := by rfl) :
    DI X cm E (.Tuple elts kk tpos) (.Call (.Name "zip" p) [a, b] [] pos) (diZipS d) := by
  obtain ⟨t, p, s⟩ := h.ex
  refine ⟨_, pi_zipS hg hm p hs hpl, fun A c st σ Q rel loc h => s A c st σ _ rel loc (Post.seq h fun ds vs c1 _ x1 rel1 rx h1 => ?_)⟩
  split at h1
  · split at h1
    · rename_i s' hs1
      obtain ⟨v, w, e, rv, rw⟩ := RpA.two rx
      obtain ⟨b, e2, ⟨vs2, ex2⟩, see2, held2⟩ := srcOf_rep rel1 rw hs1
      exact ⟨_, b, vs2, by rw [e, rv.1, e2], ex2, h1.here rel1 ⟨walk_zipS rv.2.1 see2, held2⟩⟩
    · exact h1.elim
  · exact h1.elim

/-! ### d.update(e): a dict by ints and texts takes the entries of another one -/
def tDUpd (td te : TE) : TE := fun σ H Q => td σ H fun x H1 => ∃ a, x = .ref a ∧ IsD H1 a ∧ te σ H1 fun y H2 => ∃ b kvs kws, y = .ref b ∧ a ≠ b ∧ H2 a = some (.dK kvs) ∧ H2 b = some (.dK kws) ∧ kvs.length + kws.length ≤ sizeLine ∧ Q .non (upd H2 a (.dK (mergeK kvs kws)))
theorem d_update {X : Cx} {pins : List (Addr × Obj)} {σ : L2.St} {H : Hp} {s : Shared} {a b : Addr} {kvs kws : List (Key × V)} {A : Around} {E : Value → Shared → Prop} {Q : Value → Shared → Prop} (I : Inv X pins σ H s) (ne : a ≠ b) (e : H a = some (.dK kvs)) (f : H b = some (.dK kws)) (hl : kvs.length + kws.length ≤ sizeLine) (h : ∀ s', Inv X pins σ (upd H a (.dK (mergeK kvs kws))) s' → Q .none s') : wpAny (model X.prog X.w) A (call (.builtin "dict.update") [.ref a, .ref b]) Q E s := by
  obtain ⟨z, hd, vs, rel, dd⟩ := dk_of I.hok e
  obtain ⟨z2, hd2, ws, rel2, dd2⟩ := dk_of I.hok f
  refine call_meetsIn PySem.F.slot_dict_update dd.typeIs PySem.F.entry_dict_update (PySem.F.args_dict_update_2 _ _) (meets_dict_update (mixKind X.prog X.w) a b ne hd2) ⟨vs, ws, dd, dd2, by rw [← rel.length, ← rel2.length]; exact hl, fun h' dd' dd2' hs => h _ ?_⟩
  have he : ∃ q, h'.get? a = some q := let ⟨q, _, _, hq, _⟩ := dd'; ⟨q, hq⟩
  exact d_write (t' := s.toks) I (by rw [e]; exact True.intro) hs he (dk_new (Nat.le_trans (length_mergeK kws kvs) hl) hd (KV.merge rel2 rel) dd')
theorem pe_dupd {X : Cx} {o e : Expr} {apos cpos : Pos} {td te : TE} (ho : PE X o td) (he : PE X e te) (m : M1 X o "update" apos e cpos) : PE X (.Call (.Attribute o "update" apos) [e] [] cpos) (tDUpd td te) := by
  refine ⟨fun pins s σ H Q I h => ?_⟩
  refine wpAny_Call_method m.base m.few m.line PySem.F.plainAttrs_dict PySem.F.slot_dict_update PySem.F.type_dict_update (thn (ho.run pins s σ H _ I h) fun u s1 ⟨x, H1, I1, rx, a, ex, d, q1⟩ => ?_)
  subst ex
  obtain rfl : u = Value.ref a := rx
  obtain ⟨t1, t2, _⟩ := isD_at I1 d
  refine ⟨t1, t2, ?_⟩
  rw [m.trees]
  refine Calls.callWith_builtin rfl (Calls.evalArgs_plain (Calls.spliced_cons (thn (he.run pins s1 σ H1 _ I1 q1) fun iv s2 ⟨y, H2, I2, ry, b, kvs, kws, ey, ne, ea, eb, l, q2⟩ => Calls.spliced_nil ?_)))
  subst ey
  obtain rfl : iv = Value.ref b := ry
  exact d_update I2 ne ea eb l fun s3 I3 => ⟨.non, _, I3, rfl, q2⟩
def mergeA (kvs more : List (Key × D)) : List (Key × D) := more.foldl (fun acc kv => putA acc kv.1 kv.2) kvs
theorem mergeA_rep {G : Gam} {c : Cfg} : ∀ {kvs : List (Key × D)} {kws : List (Key × V)} {a : List (Key × D)} {b : List (Key × V)}, RpK G c kvs kws → RpK G c a b → RpK G c (mergeA a kvs) (mergeK b kws) := by
  intro kvs kws a b h
  unfold RpK at h
  induction h generalizing a b with
  | nil => intro q; exact q
  | @cons p q ps qs h1 _ ih =>
    intro q0
    show RpK G c (mergeA (putA a p.1 p.2) ps) (mergeK (putK b q.1 q.2) qs)
    exact ih (by rw [h1.1]; exact RpK.put q0 q.1 h1.2)
def updV (x y : D) (S : Store) : R D := match x, y with
  | .loc n, .loc m => match S[n]?, S[m]? with
    | some (.dK kvs), some (.dK kws) => if n ≠ m ∧ kvs.length + kws.length ≤ 1000000 then .ok .non (S.set n (.dK (mergeA kvs kws))) else .no
    | _, _ => .no
  | _, _ => .no
def dUpd (o e : DEv) : DEv := fun st S => (o st S).bind fun d S1 => if isDct S1 d = true then (e st S1).bind fun y S2 => updV d y S2 else .no
section
variable {X : Cx} {cm : String → Addr → Prop} {E : XK}
theorem de_dupd {o e : Expr} {apos cpos : Pos} {dd de : DEv} (ho : DE X cm E o dd) (he : DE X cm E e de) (m : M1 X o "update" apos e cpos := by exact ⟨by rfl, by rfl, by rfl, by rfl⟩) : DE X cm E (.Call (.Attribute o "update" apos) [e] [] cpos) (dUpd dd de) := by
  obtain ⟨_, p1, s1⟩ := ho.ex
  obtain ⟨_, p2, s2⟩ := he.ex
  refine ⟨_, pe_dupd p1 p2 m, fun A c st σ Q rel loc h => s1 A c st σ _ rel loc (Post.seq h fun d v c1 _ x1 rel1 rd h1 => ?_)⟩
  split at h1
  · rename_i hd
    obtain ⟨a, e1, isd⟩ := isDct_rep rel1 rd hd
    refine ⟨a, e1, isd, s2 A c1 st σ _ rel1 (loc.mono x1) (Post.seq h1 fun y w c2 _ x2 rel2 ry h2 => ?_)⟩
    unfold updV at h2
    split at h2
    · rename_i n m _ _
      split at h2
      · rename_i kvs kws hn hm
        split at h2
        · rename_i hl
          obtain ⟨a', e2, hφ, us, hH, t⟩ := Rp.obj rel2 (Rp.mono x2 _ _ rd) hn
          obtain ⟨b, e3, hφ2, ws, hH2, t2⟩ := Rp.obj rel2 ry hm
          rw [e1] at e2
          cases e2
          have ne : a ≠ b := fun z => by
            subst z
            have l1 := (List.getElem?_eq_some_iff.mp hφ).1
            exact hl.1 ((List.getElem?_inj l1 rel2.nod).mp (hφ.trans hφ2.symm))
          have xq : Ext c2 ⟨c2.φ, c2.S.set n (.dK (mergeA kvs kws)), upd c2.H a (.dK (mergeK us ws))⟩ := Ext.put rel2 hφ hn (by simp)
          refine ⟨b, us, ws, e3, ne, hH, hH2, by rw [← t.length, ← t2.length]; exact Nat.le_trans hl.2 million, ?_⟩
          exact h2 .non ⟨c2.φ, c2.S.set n (.dK (mergeA kvs kws)), upd c2.H a (.dK (mergeK us ws))⟩ rfl xq (rel2.put (o' := .dK (mergeA kvs kws)) hφ hn (by simp) ⟨_, upd_same, (mergeA_rep t2 t).map (Rp.mono xq)⟩) rfl
        · exact h2.elim
      · exact h2.elim
    · exact h2.elim
  · exact h1.elim
end

/-! ### z[::-1] of a text -/
def revS (z : Str) : Str := ⟨z.cps.toList.reverse.toArray⟩
theorem revS_tl {z : Str} : (revS z).cps.toList = z.cps.toList.reverse := by
  unfold revS
  simp
theorem revS_len {z : Str} : (revS z).length = z.length := by
  show (z.cps.toList.reverse.toArray).size = z.cps.size
  simp
theorem rev_picked (c : Array Nat) : ((List.range c.size).map fun k => c.size - 1 - k).filterMap (c[·]?) = c.toList.reverse := by
  rw [filterMap_get _ _ (fun i hi => by
    obtain ⟨k, hk, rfl⟩ := List.mem_map.mp hi
    have : k < c.size := List.mem_range.mp hk
    omega), List.map_map]
  refine List.ext_getElem (by simp) fun i h1 h2 => ?_
  simp only [List.getElem_map, List.getElem_range, List.getElem_reverse, Function.comp_apply]
  have hi : i < c.size := by simpa using h1
  have : c.size - 1 - i < c.size := by omega
  simp [Array.getD, this]
def tRevS (te : TE) (tl : TO) : TE := fun σ H Q => te σ H fun x H1 => tl σ H1 fun k H2 => k = some (-1) ∧ ∃ z, x = .str z ∧ z.length ≤ sizeLine ∧ Q (.str (revS z)) H2
theorem pe_revS {X : Cx} {e st : Expr} {te : TE} {tl : TO} {p2 pos : Pos} (he : PE X e te) (hl : PO X (some st) tl) : PE X (.Subscript e (.Slice none none (some st) p2) pos) (tRevS te tl) := by
  refine ⟨fun pins s σ H Q I h => ?_⟩
  refine Subscript_ (thn (he.run pins s σ H _ I h) fun v s1 ⟨x, H1, I1, r1, q1⟩ => ?_)
  refine wpAny_Slice ?_
  rw [evalPart_none]
  refine wpAny_pure (wpAny_pure ?_)
  refine thn (hl.run pins s1 σ H1 _ I1 q1) ?_
  rintro vs s3 ⟨k, H3, I3, pk, rfl, z, rfl, hz, q⟩
  obtain ⟨t, rfl⟩ := r1
  obtain ⟨u, rfl, e1⟩ := IsPart.raw pk
  have I4 : Inv X pins σ H3 { s3 with heap := s3.heap.push { cls := .type "slice", data := .fields #[.none, .none, partValue u] } } := I3.kept (t' := s3.toks) fun b ob q => Heap.get?_push_of_some _ q
  show wpAny (model X.prog X.w) X.A (subscriptTail e (.Slice none none (some st) p2) (.str z t) (.ref s3.heap.objs.size)) (EP X pins σ Q) X.xe { s3 with heap := s3.heap.push { cls := .type "slice", data := .fields #[.none, .none, partValue u] } }
  refine tail_any (ops := [.str z t, .ref s3.heap.objs.size]) (typeIs_str _ _ _) F.slot_str_getitem.lookup ?_ rfl
  refine wpAny_getItem_str_slice (l := none) (u := none) (st := u) ⟨_, Heap.get?_push_size _ rfl, rfl, rfl⟩ (by rw [e1]; rfl) ?_
  have ep : (slicePicked z none none u).filterMap (z.cps[·]?) = z.cps.toList.reverse := by
    unfold slicePicked
    rw [e1]
    show (Builtin.Str.strSliceIndices none none (-1) z.length).filterMap (z.cps[·]?) = _
    rw [picked_rev]
    exact rev_picked z.cps
  unfold sliceMade
  rw [ep, e1]
  show Made.post (if ((-1 : Int) == 1 && _) = true then Made.val (.str z t) else Made.str (revS z)) (EP X pins σ Q) _
  rw [if_neg (by simp)]
  exact ⟨by rw [revS_len]; exact hz, .str _, H3, I4.tok _, ⟨_, rfl⟩, q⟩
def revV (x : D) (S : Store) : R D := match x with
  | .str z => if okStr (revS z) = true then .ok (.str (revS z)) S else .no
  | _ => .no
section
variable {X : Cx} {cm : String → Addr → Prop} {E : XK}
theorem de_revS {e : Expr} {d : DEv} {j : Nat} {p1 p2 p3 pos : Pos} (h : DE X cm E e d) : DE X cm E (.Subscript e (.Slice none none (some (.UnaryOp .USub (.Constant (.int 1) j p3) p1)) p2) pos) (dUn revV d) := by
  obtain ⟨t, p, s⟩ := h.ex
  refine ⟨_, pe_revS p (po_some (pe_un un_neg pe_int)), fun A c st σ Q rel loc h => s A c st σ _ rel loc (Post.seq h fun x v c1 q1 x1 rel1 rx h1 => ?_)⟩
  unfold revV at h1
  split at h1
  · rename_i z
    split at h1
    · rename_i ok
      exact ⟨1, rfl, -1, rfl, rfl, z, rx.1, rx.2.2, h1.here rel1 ⟨rfl, okStr_is ok⟩⟩
    · exact h1.elim
  · exact h1.elim
end

/-! ### a lambda as the key of a sort; the maker's table of code objects is tracked (own work; the making of a lambda goes the kit's steps) -/
/-- a lambda's function -/
def LamO (f c' : Addr) (q : Str) (params : Arguments) (body : Expr) (scope : Scope) (cl : List (Str × Addr)) : HO := .ext fun h => ∃ pm ctv, h.get? f = some (PySem.W.kla_obj "<lambda>" q params body scope cl pm c' ctv)
section
variable {X : Cx} {pins : List (Addr × Obj)} {σ : L2.St} {H : Hp} {s : Shared} {q : Str} {c P : Addr} {ps : Array Value} {params : Arguments} {body : Expr} {scope : Scope} {pos : Pos} {E : Value → Shared → Prop} {Q : Value → Shared → Prop}
theorem lam_made (I : Inv X pins σ H s) (TB : LamX.TabB X.base X.mg c P) (hcode : X.env.code = .ref c) (hq : X.env.qual ++ "<lambda>" = q) (hP : H P = some (.tbl ps)) (ht : TriplesOk ps.toList)
    (ha : ∀ (p : Pos) (cv : Value), codeAmong p ps.toList = some cv → ∃ k, cv = .ref k ∧ H k = some (LamX.CodeO k q)) (hdef : defaultsOf params X.env = ([], [])) (hfree : ∀ y ∈ scope.names, y.2 = .free → ∃ c, X.env.cells.lookup y.1 = some c)
    (h : ∀ (f c' : Addr) (H1 : Hp) (s' : Shared), Inv X pins σ (upd H1 f (LamO f c' q params body scope (cloFrom X.env.cells scope.names []))) s' → H1 f = none →
      ((H1 = H ∧ H c' = some (LamX.CodeO c' q)) ∨ (H c' = none ∧ H1 = upd (upd H P (.tbl (ps ++ #[rawInt pos.line, rawInt pos.col, .ref c']))) c' (LamX.CodeO c' q))) → Q (.ref f) s') :
    wpAny (model X.prog X.w) X.A (eval (.Lambda params body scope pos) X.env) Q E s := by
  refine PySem.W.kla_eval hdef ?_
  rw [hq]
  have bP : s.heap.BuiltinsAt X.mg P := TB.bm.keeps I.bk
  have hP' : s.heap.get? P = some { cls := .none, data := .fields ps } := I.hok P _ hP
  have lay : ∀ {H1 : Hp} {h' : Heap} {t' t2 : Nat} {c' : Addr} {pm ctv : Value}, Inv X pins σ H1 { s with heap := h', toks := t' } →
      Inv X pins σ (upd H1 h'.objs.size (LamO h'.objs.size c' q params body scope (cloFrom X.env.cells scope.names []))) { s with heap := h'.push (PySem.W.kla_obj "<lambda>" q params body scope (cloFrom X.env.cells scope.names []) pm c' ctv), toks := t2 } := fun {H1 h' t' t2 c' pm ctv} I1 =>
    I1.laid (t' := t2) (h' := h'.push (PySem.W.kla_obj "<lambda>" q params body scope (cloFrom X.env.cells scope.names []) pm c' ctv)) (fun b o e => Heap.get?_push_of_some _ e) (Nat.le_refl _)
      ⟨⟨pm, ctv, Heap.get?_push_size _ rfl⟩, ⟨_, Heap.get?_push_size _ rfl⟩, fun h1 h2 ⟨a, b, e⟩ st => ⟨a, b, st _ e⟩⟩
  cases hc : codeAmong pos ps.toList with
  | none =>
    refine PySem.W.kla_makeFunction (mg := X.mg) (c := c) (P := P) (ps := ps) (closure_ok hfree) I.ok.glob (I.mod.glob.keeps I.bk) hcode (TB.code.keeps I.bk) hP' ht hc TB.gP bP fun c' ctv h' tk hx hge hlt hrec htb => ?_
    obtain ⟨c2, oc, vs, t, e2, hoc, hd, hv⟩ := hrec
    cases e2
    have I1 := LamX.inv_table (t' := s.toks) (more := #[rawInt pos.line, rawInt pos.col, .ref c']) (h' := h') I hP hx htb hge ⟨oc, vs, t, hoc, hd, hv⟩
    have nC : H c' = none := I.hok.fresh hge
    exact h h'.objs.size c' _ _ (lay I1) (I1.hok.fresh (Nat.le_refl _)) (.inr ⟨nC, rfl⟩)
  | some cv =>
    obtain ⟨c', e, hco⟩ := ha pos cv hc
    subst e
    refine PySem.W.kla_makeFunctionHit (mg := X.mg) (c := c) (P := P) (ps := ps) (closure_ok hfree) I.ok.glob (I.mod.glob.keeps I.bk) hcode (TB.code.keeps I.bk) hP' ht hc bP fun ctv h' tk hx hsz => ?_
    have I1 : Inv X pins σ H { s with heap := h', toks := s.toks } := I.kept hx
    exact h h'.objs.size c' H _ (lay I1) (I1.hok.fresh (Nat.le_refl _)) (.inl ⟨rfl, hco⟩)
end
/-- the value of the lambda: its function, laid -/
def tLamF (P : Addr) (q : Str) (params : Arguments) (body : Expr) (scope : Scope) (cl : List (Str × Addr)) : TE := fun _ H Q => ∃ ps : Array Value, H P = some (.tbl ps) ∧ TriplesOk ps.toList ∧ (∀ (p : Pos) (cv : Value), codeAmong p ps.toList = some cv → ∃ k, cv = .ref k ∧ H k = some (LamX.CodeO k q)) ∧
  ∀ (f c' : Addr) (H1 : Hp), H1 f = none → ((H1 = H ∧ H c' = some (LamX.CodeO c' q)) ∨ (H c' = none ∧ ∃ a b : Nat, H1 = upd (upd H P (.tbl (ps ++ #[rawInt a, rawInt b, .ref c']))) c' (LamX.CodeO c' q))) → Q (.ref f) (upd H1 f (LamO f c' q params body scope cl))
section
variable {X : Cx} {q : Str} {c P : Addr} {params : Arguments} {body : Expr} {scope : Scope} {pos : Pos}
theorem pe_lamF (TB : LamX.TabB X.base X.mg c P) (hcode : X.env.code = .ref c) (hq : X.env.qual ++ "<lambda>" = q) (hdef : defaultsOf params X.env = ([], [])) (hfree : ∀ y ∈ scope.names, y.2 = .free → X.env.scope.names.lookup y.1 = some .cell) :
    PE X (.Lambda params body scope pos) (tLamF P q params body scope (cloFrom X.env.cells scope.names [])) := by
  refine ⟨fun pins s σ H Q I h => ?_⟩
  obtain ⟨ps, h1, h2, h3, h4⟩ := h
  exact lam_made I TB hcode hq h1 h2 h3 hdef (fun y hy e => I.ok.has _ (.inl (hfree y hy e))) fun f c' H1 s' I1 nf hc => ⟨.ref f, _, I1, rfl, h4 f c' H1 nf (hc.imp id fun ⟨a, b⟩ => ⟨a, _, _, b⟩)⟩
end
/-! ### the key (row[3 + way % 2], row[0]) -/
abbrev rowParams (pa : Pos) : Arguments := ⟨[], [⟨"row", none, pa⟩], none, [], [], none, []⟩
abbrev keyBody (p1 p2 p3 p4 p5 p6 p7 p8 p9 p10 p11 : Pos) (j1 j2 j3 x1 : Nat) : Expr :=
  .Tuple [.Subscript (.Name "row" p1) (.BinOp (.Constant (.int 3) j1 p2) .Add (.BinOp (.Name "way" p3) .Mod (.Constant (.int 2) j2 p4) p5) p6) p7, .Subscript (.Name "row" p8) (.Constant (.int 0) j3 p9) p10] x1 p11
section
variable {prog : Program} {w : World} {A : Around} {E : Value → Shared → Prop} {s : Shared} {env : Env} {m : Str → Option Value} {p1 p2 p3 p4 p5 p6 p7 p8 p9 p10 p11 : Pos} {j1 j2 j3 x1 : Nat}
theorem key_body {cw t : Addr} {wv i j : Int} {tw t1 t2 : Tok} {items : List Value} {a : Nat} {Q : Value → Shared → Prop} (hk : env.scope.kind = .function) (hr : env.kindOf "row" = some .local) (hn : s.heap.Ns env.locals m) (hm : m "row" = some (.ref t))
    (hw : env.kindOf "way" = some .free) (hc : env.cells.lookup ("way" : Str) = some cw) (hv : s.heap.IsCell cw (some (.int wv tw))) (ht : IsTup s.heap t items.toArray) (ha : 3 + wv % 2 = (a : Int)) (e1 : items[a]? = some (.int i t1)) (e0 : items[0]? = some (.int j t2))
    (h : ∀ tk, Q (.ref s.heap.objs.size) { s with heap := s.heap.push { cls := .type "tuple", data := .seq #[.int i t1, .int j t2] }, toks := tk }) :
    wpAny (model prog w) A (eval (keyBody p1 p2 p3 p4 p5 p6 p7 p8 p9 p10 p11 j1 j2 j3 x1) env) Q E s := by
  have la : a < items.length := (List.getElem?_eq_some_iff.mp e1).1
  have l0 : 0 < items.length := (List.getElem?_eq_some_iff.mp e0).1
  have row : ∀ (s' : Shared) (p : Pos) (Q : Value → Shared → Prop), s'.heap = s.heap → Q (.ref t) s' → wpAny (model prog w) A (eval (.Name "row" p) env) Q E s' := fun s' p Q e q => wpAny_Name (wpAny_loadName_local hk hr (by rw [e]; exact hn) hm q)
  refine wpAny_Tuple_spliced (Calls.spliced_cons (Subscript_ (row s p1 _ rfl ?_)))
  refine wpAny_BinOp (wpAny_Constant_int (wpAny_BinOp (wpAny_Name (wpAny_loadName_free hk hw hc hv (wpAny_Constant_int ?_)))))
  refine mod_int' (by decide) ?_
  rw [Int.fmod_eq_emod_of_nonneg wv (by decide)]
  refine add_int ?_
  rw [ha]
  refine item_tuple (j := a) ht (by omega) (by omega) (by rw [seqIndex_of (by omega) (by rw [List.size_toArray]; omega)]; simp) (by simpa using e1) ?_
  refine Calls.spliced_cons (Subscript_ (row _ p8 _ rfl (wpAny_Constant_int ?_)))
  refine item_tuple (j := 0) ht (by omega) (by omega) (by rw [seqIndex_of (by omega) (by rw [List.size_toArray]; omega)]; simp) (by simpa using e0) ?_
  exact Calls.spliced_nil ⟨show 2 ≤ sizeLine from by decide, h _⟩
end
def keyP (k : Int × Int) : PyData := .tuple [.int k.1, .int k.2]
/-- a row at a heap: what stands at a and at 0 -/
def RowAt (h : Heap) (a : Nat) (v : Value) (k : Int × Int) : Prop := ∃ (t : Addr) (items : List Value) (t1 t2 : Tok), v = .ref t ∧ IsTup h t items.toArray ∧ items[a]? = some (.int k.1 t1) ∧ items[0]? = some (.int k.2 t2)
theorem RowAt.keeps {h h' : Heap} {a : Nat} {v : Value} {k : Int × Int} (x : RowAt h a v k) (e : ∀ b o, h.get? b = some o → h'.get? b = some o) : RowAt h' a v k := by
  obtain ⟨t, items, t1, t2, h1, ⟨o, h2, h3⟩, h4⟩ := x
  exact ⟨t, items, t1, t2, h1, ⟨o, e _ _ h2, h3⟩, h4⟩
structure KeyS (scope : Scope) : Prop where
  kind : scope.kind = .function
  co : scope.isCoroutine = false
  gen : scope.isGenerator = false
  row : scope.names.lookup ("row" : Str) = some .local
  way : scope.names.lookup ("way" : Str) = some .free
  nocell : ∀ y ∈ scope.names, y.2 ≠ .cell
section
variable {prog : Program} {w : World} {A : Around} {s : Shared} {p1 p2 p3 p4 p5 p6 p7 p8 p9 p10 p11 pa : Pos} {j1 j2 j3 x1 : Nat} {scope : Scope} {q : Str}
theorem key_call {f c' cw : Addr} {cl : List (Str × Addr)} {pm ctv v : Value} {wv : Int} {tw : Tok} {k : Int × Int} {a : Nat} (S : KeyS scope) (hd : A.depth < recursionLimit) (lim : s.heap.NoLimit)
    (hf : s.heap.get? f = some (PySem.W.kla_obj "<lambda>" q (rowParams pa) (keyBody p1 p2 p3 p4 p5 p6 p7 p8 p9 p10 p11 j1 j2 j3 x1) scope cl pm c' ctv)) (hcd : s.heap.CodeRec (.ref c') q) (hc : cl.lookup ("way" : Str) = some cw) (hv : s.heap.IsCell cw (some (.int wv tw)))
    (ha : 3 + wv % 2 = (a : Int)) (hr : RowAt s.heap a v k) : wpAny (model prog w) A (call (.ref f) [v]) (PySem.W.KeyPure (keyP k) s) (fun _ _ => False) s := by
  obtain ⟨t, items, t1, t2, rfl, ht, e1, e0⟩ := hr
  refine wpAny_call (codeAny_mono (R := fun r s' => ∃ u, r = .ok (.ret u) ∧ PySem.W.KeyPure (keyP k) s u s') ?_ fun r s2 ⟨u, e, kp⟩ => by subst e; exact kp)
  refine PySem.W.kla_callFunE hd hf rfl S.co S.gen rfl hcd ?_
  show wpAny _ _ (pure [(("row" : Str), Value.ref t)]) _ _ _
  refine wpAny_pure (wpAny_newFunctionEnv S.nocell (fun y hy => by
    have : y = (("row" : Str), Value.ref t) := by simpa using hy
    rw [this]
    exact S.row) (fun h₁ hns hsb => ⟨lim.fresh _ hsb, ?_⟩) S.kind)
  have keep : ∀ b o, s.heap.get? b = some o → h₁.get? b = some o := fun b o e => hsb.extBut b o (Nat.ne_of_lt (Heap.lt_size e)) (Heap.get?_push_of_some _ e)
  refine PySem.W.kla_codeExpr ?_
  obtain ⟨ot, ht1, ht2⟩ := ht
  refine key_body (a := a) (t := t) (cw := cw) (wv := wv) (tw := tw) (i := k.1) (j := k.2) (t1 := t1) (t2 := t2) (items := items) S.kind S.row hns rfl S.way hc (hv.keeps keep) ⟨ot, keep _ _ ht1, ht2⟩ ha e1 e0 fun tk => ?_
  refine ⟨_, rfl, _, tk, rfl, fun b o e => Heap.get?_push_of_some _ (keep b o e), ?_⟩
  exact Reads.tuple (Heap.get?_push_size _ rfl) rfl rfl (.cons (.int _ _) (.cons (.int _ _) .nil))
end
section
variable {X : Cx} {pins : List (Addr × Obj)} {σ : L2.St} {H : Hp} {s : Shared} {p1 p2 p3 p4 p5 p6 p7 p8 p9 p10 p11 pa : Pos} {j1 j2 j3 x1 : Nat} {scope : Scope} {q : Str} {Q : VK}
theorem ordV_keys (xs : List V) (ks : List (Int × Int)) : ordV xs (ks.map keyP) = ((xs.zip ks).mergeSort (PySem.W.dataLe false fun b => keyP b.2)).map Prod.fst := by
  unfold ordV
  have e : xs.zip (ks.map keyP) = (xs.zip ks).map fun b => (b.1, keyP b.2) := by
    rw [List.zip_map_right]
    rfl
  rw [e, ← List.map_mergeSort (f := fun b : V × (Int × Int) => (b.1, keyP b.2)) (s := PySem.W.dataLe false Prod.snd) (r := PySem.W.dataLe false fun b : V × (Int × Int) => keyP b.2) (fun a _ b _ => rfl), List.map_map]
  rfl
theorem call_sortKey {f c' l : Addr} {xs : List V} {ks : List (Int × Int)} {wv : Int} {iw a : Nat} (I : Inv X pins σ H s) (S : KeyS scope) (hr : Room 0 X.A)
    (hf : H f = some (LamO f c' q (rowParams pa) (keyBody p1 p2 p3 p4 p5 p6 p7 p8 p9 p10 p11 j1 j2 j3 x1) scope (cloFrom X.env.cells scope.names []))) (hc : H c' = some (LamX.CodeO c' q)) (hs : SqL X.K H l xs)
    (hN : X.N[iw]? = some ("way" : Str)) (hwc : X.env.scope.names.lookup ("way" : Str) = some .cell) (hw : σ[iw]? = some (some (.int wv))) (ha : 3 + wv % 2 = (a : Int))
    (hp : Paired (fun x k => ∃ p ts, x = V.ref p ∧ SqT X.K H p ts ∧ ts[a]? = some (.int k.1) ∧ ts[0]? = some (.int k.2)) xs ks) (h : ∀ p, H p = none → Q (.ref p) (upd H p (.lst (ordV xs (ks.map keyP))))) {E : Value → Shared → Prop} :
    wpAny (model X.prog X.w) X.A (call (.builtin "sorted") [.ref l] [(Str.ofString "key", .ref f)]) (EP X pins σ Q) E s := by
  obtain ⟨its, rv, hl, hz⟩ := I.list hs
  obtain ⟨⟨pm, ctv, of⟩, _, _⟩ := I.hok f _ hf
  obtain ⟨⟨oc, vs, tq, hoc, hdc, hvc⟩, _, _⟩ := I.hok c' _ hc
  obtain ⟨m, hn, hloc⟩ := I.loc
  obtain ⟨u, ru, lu⟩ := hloc iw _ (.int wv) hN hw (.inr (.inl hwc))
  obtain ⟨tw, rfl⟩ := ru
  obtain ⟨cw, hcw, hcell⟩ : ∃ cw, X.env.cells.lookup ("way" : Str) = some cw ∧ s.heap.IsCell cw (some (.int wv tw)) := by
    rcases lu with ⟨hk, _⟩ | ⟨_, c, e1, e2⟩
    · have hk : X.env.scope.names.lookup ("way" : Str) = some .local := hk
      rw [hwc] at hk
      cases hk
    · exact ⟨c, e1, e2⟩
  have hclo : (cloFrom X.env.cells scope.names []).lookup ("way" : Str) = some cw := by
    obtain ⟨c2, h2⟩ := mem_lookup (cloFrom_has (cells := X.env.cells) (acc := []) (PySem.mem_of_lookup S.way))
    rcases cloFrom_mem (PySem.mem_of_lookup h2) with z | ⟨_, z⟩
    · cases z
    · rw [h2, z, hcw]
      rfl
  have each : ∀ {xs : List V} {ks : List (Int × Int)} {its : List Value}, Paired (fun x k => ∃ p ts, x = V.ref p ∧ SqT X.K H p ts ∧ ts[a]? = some (.int k.1) ∧ ts[0]? = some (.int k.2)) xs ks → Vals xs its →
      PySem.W.EachIs (fun v (b : V × (Int × Int)) => RelV b.1 v ∧ RowAt s.heap a v b.2) its (xs.zip ks) ∧ (xs.zip ks).length = xs.length := by
    intro xs
    induction xs with
    | nil =>
      intro ks its hp r
      cases hp
      cases r
      exact ⟨.nil, rfl⟩
    | cons x xs ih =>
      intro ks its hp r
      cases hp with
      | cons hx hp =>
        cases r with
        | cons r rs =>
          obtain ⟨h1, h2⟩ := ih hp rs
          refine ⟨.cons ⟨r, ?_⟩ h1, by rw [List.zip_cons_cons, List.length_cons, List.length_cons, h2]⟩
          obtain ⟨p, ts, rfl, ht, ea, e0⟩ := hx
          obtain ⟨items, ri, pl, _⟩ := I.tuple ht
          obtain ⟨w1, ew1, rw1⟩ := ri.get ea
          obtain ⟨w0, ew0, rw0⟩ := ri.get e0
          obtain ⟨t1, rfl⟩ := rw1
          obtain ⟨t0, rfl⟩ := rw0
          cases r
          exact ⟨p, items, t1, t0, rfl, pl, ew1, ew0⟩
  obtain ⟨e, el⟩ := each hp rv
  refine PySem.W.sorted_key_data (b := false) (fun b : V × (Int × Int) => keyP b.2) hl.isList e (PySem.W.AllAlike.of fun _ _ => by simp [keyP, PySem.W.alike, PySem.W.alikeAll]) (PySem.W.Sortable.tuples fun _ => ⟨_, _, rfl⟩) (by rw [el]; exact hz)
    (fun b _ => by
      have h1 : (keyP b.2).depth ≤ 2 := by first | exact Nat.le_of_ble_eq_true rfl | simp [keyP, PyData.depth]
      have := hr.units
      omega) (ksk_s1 _ _) (fun _ => ksk_l1 _ _) (fun _ => ksk_t1 _ _)
    (fun v b ⟨_, hrow⟩ _ h' tk keep => key_call (s := { s with heap := h', toks := tk }) (cw := cw) (wv := wv) (tw := tw) (a := a) S hr.depth (I.nolimit.keeps keep) (keep _ _ of) ⟨c', oc, vs, tq, rfl, keep _ _ hoc, hdc, hvc⟩ hclo (hcell.keeps keep) ha (hrow.keeps keep)) fun out n h' tk keep hno hat hlen ho => ?_
  refine ⟨.ref (s.heap.objs.size + 1), upd H (s.heap.objs.size + 1) (.lst (ordV xs (ks.map keyP))), I.laid (t' := tk) keep (Nat.le_succ _) ⟨?_, out, n, ?_, hat⟩, rfl, h _ (I.hok.fresh (Nat.le_succ _))⟩
  · rw [ordV_keys, List.length_map, List.length_mergeSort, el]
    exact hz
  · rw [ordV_keys]
    have conv : ∀ {out : List Value} {bs : List (V × (Int × Int))}, PySem.W.EachIs (fun v (b : V × (Int × Int)) => RelV b.1 v ∧ RowAt s.heap a v b.2) out bs → Vals (bs.map Prod.fst) out := by
      intro out bs hh
      induction hh with
      | nil => exact .nil
      | cons x _ ih => exact .cons x.1 ih
    exact conv ho
end
/-! ### the sort by a lambda, on data -/
abbrev cmT (P : Addr) : String → Addr → Prop := fun _ C => C = P
def rowKey (w : Int) : D → Option (Int × Int)
  | .tup ts => match ts[(3 + w % 2).toNat]?, ts[(0 : Nat)]? with
    | some (.int i), some (.int j) => some (i, j)
    | _, _ => none
  | _ => none
def rowKeys (w : Int) : List D → Option (List (Int × Int))
  | [] => some []
  | x :: xs => match rowKey w x, rowKeys w xs with
    | some k, some ks => some (k :: ks)
    | _, _ => none
def sortK (q : Str) (x w : D) (S : Store) : R D := match S[(0 : Nat)]?, w, lsOf S x with
  | some (.tab q'), .int wv, some xs => match rowKeys wv xs with
    | some ks => if q' = q then .ok (.lst (ordD xs (ks.map keyP))) S else .no
    | none => .no
  | _, _, _ => .no
def sortKAt (q : Str) (iw : Nat) (st : DSt) (x : D) (S : Store) : R D := match st[iw]? with
  | some (some w) => sortK q x w S
  | _ => .no
def dSortK (q : Str) (iw : Nat) (e : DEv) : DEv := fun st S => (e st S).bind (sortKAt q iw st)
theorem rowKey_rep {G : Gam} {c : Cfg} {w : Int} {x : D} {v : V} {k : Int × Int} (r : Rp G c x v) (h : rowKey w x = some k) : ∃ p ts, v = V.ref p ∧ SqT G.K c.H p ts ∧ ts[(3 + w % 2).toNat]? = some (.int k.1) ∧ ts[0]? = some (.int k.2) := by
  cases x with
  | tup ts =>
    have h : (match ts[(3 + w % 2).toNat]?, ts[(0 : Nat)]? with | some (.int i), some (.int j) => some (i, j) | _, _ => none) = some k := h
    obtain ⟨p, vs, e, _, hp, t⟩ := r
    split at h
    · rename_i i j h1 h2
      cases h
      obtain ⟨v1, g1, r1⟩ := t.get h1
      obtain ⟨v2, g2, r2⟩ := t.get h2
      cases r1
      cases r2
      exact ⟨p, vs, e, .inl (.inl hp), g1, g2⟩
    · cases h
  | _ => cases h
theorem rowKeys_rep {G : Gam} {c : Cfg} {w : Int} : ∀ {xs : List D} {vs : List V} {ks : List (Int × Int)}, RpA G c xs vs → rowKeys w xs = some ks →
    Paired (fun x k => ∃ p ts, x = V.ref p ∧ SqT G.K c.H p ts ∧ ts[(3 + w % 2).toNat]? = some (.int k.1) ∧ ts[0]? = some (.int k.2)) vs ks
  | [], _, _, r, h => by
    cases r
    cases h
    exact .nil
  | x :: xs, _, _, ⟨v, vs, rfl, r, t⟩, h => by
    unfold rowKeys at h
    split at h
    · rename_i k ks h1 h2
      cases h
      exact .cons (rowKey_rep r h1) (rowKeys_rep t h2)
    · cases h
section
variable {X : Cx} {E : XK} {q : Str} {c P : Addr} {pos p lpos kpos pa p1 p2 p3 p4 p5 p6 p7 p8 p9 p10 p11 : Pos} {j1 j2 j3 x1 : Nat} {scope : Scope} {e : Expr} {iw : Nat} {d : DEv}
def tSortK (K : PySem.W.Frag) (P : Addr) (q : Str) (params : Arguments) (body : Expr) (scope : Scope) (cl : List (Str × Addr)) (iw : Nat) (te : TE) : TE := fun σ H Q => te σ H fun x H1 => tLamF P q params body scope cl σ H1 fun y H2 =>
  ∃ (l f c' : Addr) (xs : List V) (ks : List (Int × Int)) (wv : Int) (a : Nat), x = .ref l ∧ y = .ref f ∧ H2 f = some (LamO f c' q params body scope cl) ∧ H2 c' = some (LamX.CodeO c' q) ∧ SqL K H2 l xs ∧ σ[iw]? = some (some (.int wv)) ∧ 3 + wv % 2 = (a : Int) ∧
    Paired (fun x k => ∃ p ts, x = V.ref p ∧ SqT K H2 p ts ∧ ts[a]? = some (.int k.1) ∧ ts[0]? = some (.int k.2)) xs ks ∧ ∀ p, H2 p = none → Q (.ref p) (upd H2 p (.lst (ordV xs (ks.map keyP))))
theorem pe_sortK {te : TE} (he : PE X e te) (TB : LamX.TabB X.base X.mg c P) (hcode : X.env.code = .ref c) (hq : X.env.qual ++ "<lambda>" = q) (S : KeyS scope) (hr : Room 0 X.A) (hg : Gl X "sorted") (hm : X.mg "sorted" = none) (hN : X.N[iw]? = some ("way" : Str))
    (hwc : X.env.scope.names.lookup ("way" : Str) = some .cell) (hfree : ∀ y ∈ scope.names, y.2 = .free → X.env.scope.names.lookup y.1 = some .cell) (hne : starEach [e] X.env = (false, eval e X.env) :: starEach [] X.env := by rfl) :
    PE X (.Call (.Name "sorted" p) [e] [⟨some "key", .Lambda (rowParams pa) (keyBody p1 p2 p3 p4 p5 p6 p7 p8 p9 p10 p11 j1 j2 j3 x1) scope lpos, kpos⟩] pos)
      (tSortK X.K P q (rowParams pa) (keyBody p1 p2 p3 p4 p5 p6 p7 p8 p9 p10 p11 j1 j2 j3 x1) scope (cloFrom X.env.cells scope.names []) iw te) := by
  refine ⟨fun pins s σ H Q I h => ?_⟩
  refine wpAny_Call_Name_kw (ld_blt I hg hm rfl ?_)
  refine callWith_kw ?_ (by rw [hne]; rfl) (by rw [hne]; rfl)
  rw [hne]
  refine Calls.spliced_cons (thn (he.run pins s σ H _ I h) fun u s1 ⟨x, H1, I1, r1, q1⟩ => Calls.spliced_nil ?_)
  refine thn ((pk_cons (pe_lamF TB hcode hq rfl hfree) pk_nil).run pos pins s1 σ H1 (fun ys H2 => ∃ y, ys = [y] ∧ ∃ (l f c' : Addr) (xs : List V) (ks : List (Int × Int)) (wv : Int) (a : Nat), x = .ref l ∧ y = .ref f ∧ H2 f = some (LamO f c' q (rowParams pa) (keyBody p1 p2 p3 p4 p5 p6 p7 p8 p9 p10 p11 j1 j2 j3 x1) scope (cloFrom X.env.cells scope.names [])) ∧ H2 c' = some (LamX.CodeO c' q) ∧ SqL X.K H2 l xs ∧ σ[iw]? = some (some (.int wv)) ∧ 3 + wv % 2 = (a : Int) ∧
    Paired (fun x k => ∃ p ts, x = V.ref p ∧ SqT X.K H2 p ts ∧ ts[a]? = some (.int k.1) ∧ ts[0]? = some (.int k.2)) xs ks ∧ ∀ p, H2 p = none → Q (.ref p) (upd H2 p (.lst (ordV xs (ks.map keyP))))) I1 ?_) fun us s2 ⟨ys, H2, I2, r2, y, ey, hh⟩ => ?_
  · obtain ⟨ps, a1, a2, a3, a4⟩ := q1
    exact ⟨ps, a1, a2, a3, fun f c' H2 n2 hc => ⟨_, rfl, a4 f c' H2 n2 hc⟩⟩
  · obtain ⟨l, f, c', xs, ks, wv, a, rfl, rfl, hf, hc, hs, hw, ha, hp, fin⟩ := hh
    subst ey
    obtain ⟨uf, rfl, ruf⟩ := vals1 r2
    obtain rfl : uf = Value.ref f := ruf
    obtain rfl : u = Value.ref l := r1
    exact call_sortKey I2 S hr hf hc hs hN hwc hw ha hp fin
theorem de_sortK {k : Nat} (G : GX X E k) (he : DE X (cmT P) E e d) (TB : LamX.TabB X.base X.mg c P) (hcode : X.env.code = .ref c) (hq : X.env.qual ++ "<lambda>" = q) (S : KeyS scope) (hg : Gl X "sorted") (hm : X.mg "sorted" = none) (hN : X.N[iw]? = some ("way" : Str))
    (hwc : X.env.scope.names.lookup ("way" : Str) = some .cell) (hfree : ∀ y ∈ scope.names, y.2 = .free → X.env.scope.names.lookup y.1 = some .cell) (hne : starEach [e] X.env = (false, eval e X.env) :: starEach [] X.env := by rfl) :
    DE X (cmT P) E (.Call (.Name "sorted" p) [e] [⟨some "key", .Lambda (rowParams pa) (keyBody p1 p2 p3 p4 p5 p6 p7 p8 p9 p10 p11 j1 j2 j3 x1) scope lpos, kpos⟩] pos) (dSortK q iw d) := by
  obtain ⟨te, pe, sd⟩ := he.ex
  refine ⟨_, pe_sortK pe TB hcode hq S (G.room.mono (Nat.zero_le _)) hg hm hN hwc hfree hne, fun A c0 st σ Q rel loc h => ?_⟩
  refine sd A c0 st σ _ rel loc (Post.seq h fun x v c1 _ y1 rel1 rx h1 => ?_)
  have loc1 := loc.mono y1
  unfold sortKAt at h1
  split at h1
  · rename_i w hw
    obtain ⟨wV, sw, rw1⟩ := loc1.2 iw w hw
    unfold sortK at h1
    split at h1
    · rename_i q' wv xs hS hx
      split at h1
      · rename_i ks hks
        by_cases hqq : q' = q
        · rw [if_pos hqq] at h1
          subst hqq
          have l0 : 0 < c1.S.length := (List.getElem?_eq_some_iff.mp hS).1
          obtain ⟨a0, ha0⟩ : ∃ a0, c1.φ[0]? = some a0 := ⟨_, List.getElem?_eq_getElem (by rw [rel1.len]; exact l0)⟩
          obtain ⟨eP, ps, hT, tT, cT⟩ := rel1.obj 0 a0 _ ha0 hS
          have eP : a0 = P := eP
          subst eP
          have codes : ∀ (p : Pos) (cv : Value), codeAmong p ps.toList = some cv → ∃ k, cv = .ref k ∧ c1.H k = some (LamX.CodeO k q') := fun p cv hcv => by
            obtain ⟨k, e1, a, e2, _, e3⟩ := cT p cv hcv
            cases e2
            exact ⟨k, e1, e3⟩
          refine ⟨ps, hT, tT, codes, fun f c' H1 nf hc => ?_⟩
          -- from a state in which the code object stands
          have fin : ∀ c2 : Cfg, c2.S = c1.S → Ext c1 c2 → RelC ⟨X.K, cmT a0, A⟩ c2 → c2.H = H1 → c2.H c' = some (LamX.CodeO c' q') →
              ∃ (l f2 c'2 : Addr) (xs : List V) (ks : List (Int × Int)) (wv : Int) (a : Nat), v = .ref l ∧ V.ref f = .ref f2 ∧ upd H1 f (LamO f c' q' (rowParams pa) (keyBody p1 p2 p3 p4 p5 p6 p7 p8 p9 p10 p11 j1 j2 j3 x1) scope (cloFrom X.env.cells scope.names [])) f2 = some (LamO f2 c'2 q' (rowParams pa) (keyBody p1 p2 p3 p4 p5 p6 p7 p8 p9 p10 p11 j1 j2 j3 x1) scope (cloFrom X.env.cells scope.names [])) ∧
                upd H1 f (LamO f c' q' (rowParams pa) (keyBody p1 p2 p3 p4 p5 p6 p7 p8 p9 p10 p11 j1 j2 j3 x1) scope (cloFrom X.env.cells scope.names [])) c'2 = some (LamX.CodeO c'2 q') ∧ SqL X.K (upd H1 f (LamO f c' q' (rowParams pa) (keyBody p1 p2 p3 p4 p5 p6 p7 p8 p9 p10 p11 j1 j2 j3 x1) scope (cloFrom X.env.cells scope.names []))) l xs ∧ σ[iw]? = some (some (.int wv)) ∧ 3 + wv % 2 = (a : Int) ∧
                Paired (fun x k => ∃ p ts, x = V.ref p ∧ SqT X.K (upd H1 f (LamO f c' q' (rowParams pa) (keyBody p1 p2 p3 p4 p5 p6 p7 p8 p9 p10 p11 j1 j2 j3 x1) scope (cloFrom X.env.cells scope.names []))) p ts ∧ ts[a]? = some (.int k.1) ∧ ts[0]? = some (.int k.2)) xs ks ∧
                ∀ p, upd H1 f (LamO f c' q' (rowParams pa) (keyBody p1 p2 p3 p4 p5 p6 p7 p8 p9 p10 p11 j1 j2 j3 x1) scope (cloFrom X.env.cells scope.names [])) p = none → Q (.ref p) (upd (upd H1 f (LamO f c' q' (rowParams pa) (keyBody p1 p2 p3 p4 p5 p6 p7 p8 p9 p10 p11 j1 j2 j3 x1) scope (cloFrom X.env.cells scope.names []))) p (.lst (ordV xs (ks.map keyP)))) := by
            intro c2 eS y2 rel2 eH hco
            subst eH
            have y3 : Ext c2 ⟨c2.φ, c2.S, upd c2.H f (LamO f c' q' (rowParams pa) (keyBody p1 p2 p3 p4 p5 p6 p7 p8 p9 p10 p11 j1 j2 j3 x1) scope (cloFrom X.env.cells scope.names []))⟩ := Ext.lay rel2 nf
            have rel3 := rel2.lay (o := LamO f c' q' (rowParams pa) (keyBody p1 p2 p3 p4 p5 p6 p7 p8 p9 p10 p11 j1 j2 j3 x1) scope (cloFrom X.env.cells scope.names [])) nf
            have rx3 := Rp.mono y3 x v (Rp.mono y2 x v rx)
            obtain ⟨l, vs, e1, hs, t⟩ := lsOf_rep (xs := xs) rel3 rx3 (by show lsOf c2.S x = _; rw [eS]; exact hx)
            have pr := rowKeys_rep t hks
            have sw' : wV = .int wv := rw1
            rw [sw'] at sw
            refine ⟨l, f, c', vs, ks, wv, (3 + wv % 2).toNat, e1, rfl, upd_same, ?_, hs, sw, by omega, pr, fun p np => ?_⟩
            · rw [upd_ne (ne_of_none hco nf)]
              exact hco
            · have h2 : Post ⟨X.K, cmT a0, A⟩ E (Rp ⟨X.K, cmT a0, A⟩) ⟨c2.φ, c2.S, upd c2.H f (LamO f c' q' (rowParams pa) (keyBody p1 p2 p3 p4 p5 p6 p7 p8 p9 p10 p11 j1 j2 j3 x1) scope (cloFrom X.env.cells scope.names []))⟩ Q (.ok (.lst (ordD xs (ks.map keyP))) c2.S) := by
                have h3 := Post.trans (y2.trans y3) h1
                rw [← eS] at h3
                exact h3
              exact h2.newL rel3 (ord_rep t (by rw [List.length_map]; exact (Paired.length pr).symm)) p np
          rcases hc with ⟨rfl, hco⟩ | ⟨nC, a, b, eH⟩
          · exact fin c1 rfl (.refl c1) rel1 rfl hco
          · have xa : Ext c1 ⟨c1.φ, c1.S, upd c1.H c' (LamX.CodeO c' q')⟩ := Ext.lay rel1 nC
            have rela := rel1.lay (o := LamX.CodeO c' q') nC
            have xb := Ext.put rela (u := .tbl (ps ++ #[rawInt a, rawInt b, .ref c'])) (o' := .tab q') ha0 hS (by simp)
            have eSet : c1.S.set 0 (.tab q') = c1.S := by
              refine List.ext_getElem? fun n => ?_
              by_cases hn : 0 = n
              · subst hn
                rw [List.getElem?_set_self l0, hS]
              · rw [List.getElem?_set_ne hn]
            have nP : a0 ≠ c' := ne_of_none hT nC
            have own' : ¬ Own ⟨X.K, cmT a0, A⟩ ⟨c1.φ, c1.S.set 0 (.tab q'), upd (upd c1.H c' (LamX.CodeO c' q')) a0 (.tbl (ps ++ #[rawInt a, rawInt b, .ref c']))⟩ c' := (Own.keep xb (own_new rel1 nC) upd_same).2
            have relb := rela.put (u := .tbl (ps ++ #[rawInt a, rawInt b, .ref c'])) (o' := .tab q') ha0 hS (by simp) ⟨rfl, ps ++ #[rawInt a, rawInt b, .ref c'], upd_same, by
              have eL : (ps ++ #[rawInt a, rawInt b, .ref c']).toList = ps.toList ++ [rawInt a, rawInt b, .ref c'] := by simp
              rw [eL]
              refine ⟨PySem.TriplesOk_snoc _ _ _ _ tT, fun p cv hcv => ?_⟩
              rcases LamX.among_app (pos := ⟨a, b, a, b⟩) _ tT hcv with z | z
              · obtain ⟨k, e1, r⟩ := cT p cv z
                exact ⟨k, e1, Rp.mono xb _ _ (Rp.mono xa _ _ r)⟩
              · exact ⟨c', z, c', rfl, own', by show upd (upd c1.H c' _) a0 _ c' = _; rw [upd_ne nP.symm]; exact upd_same⟩⟩
            refine fin _ eSet (xa.trans xb) relb ?_ (by show upd (upd c1.H c' _) a0 _ c' = _; rw [upd_ne nP.symm]; exact upd_same)
            rw [eH]
            funext z
            show upd (upd c1.H c' _) a0 _ z = upd (upd c1.H a0 _) c' _ z
            by_cases hz : z = c'
            · subst hz
              rw [upd_ne nP.symm, upd_same, upd_same]
            · by_cases hz2 : z = a0
              · subst hz2
                rw [upd_same, upd_ne hz, upd_same]
              · rw [upd_ne hz2, upd_ne hz, upd_ne hz, upd_ne hz2]
        · rw [if_neg hqq] at h1
          exact h1.elim
      · exact h1.elim
    · exact h1.elim
  · exact h1.elim
end

section
variable {P : Program} {w : World} {K : PySem.W.Frag} {mg : Str → Option Value} {base : Heap} {x qual : Str} {params : Arguments} {body : List Stmt} {scope : Scope} {dvs : List V} {kws : List (Str × V)} {f cc : Addr} {fd : FuncData} {N ps : List Str} {k : Nat} {cm : String → Addr → Prop}
/-- a def whose code object is known -/
theorem okDC {d : DSv} (F : FunD K x qual params body scope dvs kws f fd) (hfd : fd.code = .ref cc) (S : FnScope N ps scope)
    (h : ∀ (A : Around) (outer : List Env) (s : Shared) (H : Hp) (E : XK), GX (cxOf (CX P w) P w K mg base N qual scope f (.ref cc) A outer s H E) E k → DSs (cxOf (CX P w) P w K mg base N qual scope f (.ref cc) A outer s H E) cm E body d) :
    FnOk P w K mg base (CX P w) (k + 1) f fd ps (spD K cm ps.length (runD d N.length)) := by
  obtain ⟨oc, od, dV, kV, doc, pm, an, cdv, ct, osl, rfl, lk, hcd, _, _⟩ := F.ex
  have e : cdv = .ref cc := hfd
  subst e
  refine fn_of lk hcd S (fun vs H Q E h => h.1) fun A outer s H vs Q E hr hsp => ?_
  obtain ⟨hl, B, c, ds, rfl, rel, rd, post⟩ := hsp
  obtain ⟨t, p, sn⟩ := (h A outer s c.H E ⟨rfl, S.nd, hr, passes_call (takes_of rfl rfl rfl rfl) (fun _ _ _ _ z => z), passes_of rfl⟩).ex
  refine ⟨t, p, sn B c _ _ _ rel (LocR.start (N := N.length) rd) ?_⟩
  unfold runD at post
  split at post
  · rename_i st' S' e
    rw [e]
    exact fun σ' c' e' x' r' l' => post .non c' e' x' r' rfl
  · rename_i v S' e
    rw [e]
    exact fun v' c' e' x' r' rr => post v' c' e' x' r' rr
  · exact post.elim
  · exact post.elim
  · rename_i z S' e
    rw [e]
    exact post
  · exact post.elim
end
/-- the start: the maker's empty table is the store's first object -/
theorem spD_startT {K : PySem.W.Frag} {F : List D → Store → R D} {H : Hp} {P a : Addr} {ns : List Int} {q : Str} (hT : H P = some (.tbl #[])) (hS : SqL K H a (ns.map V.int)) (h : ∀ mk : List D → D, (mk = D.scr ∨ mk = D.lst) → ∃ S', F [mk (ns.map D.int)] [.tab q] = .ok (.bl true) S') :
    spD K (cmT P) 1 F [.ref a] H (fun v _ => v = .bl true) fun _ _ _ => False := by
  have intsR : ∀ {G : Gam} {c : Cfg} (ns : List Int), RpA G c (ns.map D.int) (ns.map V.int) := fun {G c} ns => by
    induction ns with
    | nil => rfl
    | cons n ns ih => exact ⟨_, _, rfl, rfl, ih⟩
  have key : ∀ mk : List D → D, (mk = D.scr ∨ mk = D.lst) → Rp ⟨K, cmT P, fun _ => False⟩ ⟨[P], [.tab q], H⟩ (mk (ns.map D.int)) (.ref a) → spD K (cmT P) 1 F [.ref a] H (fun v _ => v = .bl true) fun _ _ _ => False := by
    intro mk hmk hr
    obtain ⟨S', h⟩ := h mk hmk
    refine ⟨rfl, fun _ => False, ⟨[P], [.tab q], H⟩, [mk (ns.map D.int)], rfl, ⟨rfl, by simp, fun n a o h1 h2 => ?_, fun a l h => h, fun n a h1 => ?_, fun a h => h.elim⟩, ⟨_, [], rfl, hr, rfl⟩, ?_⟩
    · cases n with
      | zero =>
        have h1 : some P = some a := h1
        have h2 : some (O.tab q) = some o := h2
        cases h1
        cases h2
        exact ⟨rfl, #[], hT, True.intro, fun pos cv hc => by
          have z : codeAmong pos [] = some cv := hc
          simp [codeAmong] at z⟩
      | succ n => simp at h1
    · cases n with
      | zero =>
        have h1 : some P = some a := h1
        cases h1
        exact ⟨_, hT⟩
      | succ n => simp at h1
    · show Post _ _ _ _ _ (F [mk (ns.map D.int)] [.tab q])
      rw [h]
      exact fun b c' e x r rb => rb
  have nown : ∀ {o : HO}, H a = some o → (∀ ps, o ≠ .tbl ps) → ¬ Own ⟨K, cmT P, fun _ => False⟩ ⟨[P], [.tab q], H⟩ a := fun {o} ha ho z => by
    rcases z with z | ⟨n, u, h1, _⟩
    · exact z
    · cases n with
      | zero =>
        have h1 : some P = some a := h1
        cases h1
        rw [hT] at ha
        cases ha
        exact ho _ rfl
      | succ n => simp at h1
  rcases hS with (h1 | ⟨o, h1⟩) | h1
  · exact key D.lst (.inr rfl) ⟨a, _, rfl, nown h1 (fun ps z => by cases z), h1, intsR ns⟩
  · exact key D.scr (.inl rfl) ⟨a, _, rfl, .inl ⟨nown h1 (fun ps z => by cases z), o, h1⟩, intsR ns⟩
  · exact key D.scr (.inl rfl) ⟨a, _, rfl, .inr (.inr h1), intsR ns⟩

/-! ### running the values: what is left of a run (own work) -/
/-- a law of running that the kernel is handed as such -/
theorem nr {α : Sort u} {a b : α} (h : a = b) : a = b := h
def wpE {α : Type} (r : R α) (P : α → Store → Prop) : Prop := ∃ a S, r = .ok a S ∧ P a S
theorem bind_okN {α β : Type} {a : α} {S : Store} {f : α → Store → R β} : (R.ok a S).bind f = f a S := nr R.bind_ok
theorem wpE_ok {α : Type} {a : α} {S : Store} {P : α → Store → Prop} : wpE (.ok a S) P = P a S := propext ⟨fun ⟨_, _, e, h⟩ => by cases e; exact h, fun h => ⟨a, S, rfl, h⟩⟩
theorem wpE_ok_i {α : Type} {a : α} {S : Store} {P : α → Store → Prop} (h : P a S) : wpE (.ok a S) P := ⟨a, S, rfl, h⟩
theorem wpE_err {α : Type} {x : Err} {S : Store} {P : α → Store → Prop} (h : wpE (.err x S) P) : False := by
  obtain ⟨_, _, e, _⟩ := h
  cases e
theorem wpE_no {α : Type} {P : α → Store → Prop} (h : wpE .no P) : False := by
  obtain ⟨_, _, e, _⟩ := h
  cases e
theorem wpE_bind {α β : Type} {r : R α} {f : α → Store → R β} {P : β → Store → Prop} : wpE (r.bind f) P ↔ wpE r fun a S => wpE (f a S) P := by
  cases r with
  | ok a S => rw [wpE_ok]; exact Iff.rfl
  | err x S => exact ⟨fun h => (wpE_err h).elim, fun h => (wpE_err h).elim⟩
  | no => exact ⟨fun h => (wpE_no h).elim, fun h => (wpE_no h).elim⟩
theorem wpE_mono {α : Type} {r : R α} {P Q : α → Store → Prop} (h : wpE r P) (q : ∀ a S, P a S → Q a S) : wpE r Q := by
  obtain ⟨a, S, e, h⟩ := h
  exact ⟨a, S, e, q a S h⟩
/-- what comes next is kept closed: nothing is run ahead of its turn -/
def cmpK {α β γ : Type} (f : α → Store → R β) (g : β → Store → R γ) (a : α) (S : Store) : R γ := (f a S).bind g
theorem cmpK_ev {α β γ : Type} {f : α → Store → R β} {g : β → Store → R γ} {a : α} {S : Store} : cmpK f g a S = (f a S).bind g := nr rfl
theorem bind_assoc' {α β γ : Type} {r : R α} {f : α → Store → R β} {g : β → Store → R γ} : (r.bind f).bind g = r.bind (cmpK f g) := by
  cases r <;> rfl
theorem cmpK_assoc {α β γ δ : Type} {f : α → Store → R β} {g : β → Store → R γ} {h : γ → Store → R δ} : cmpK (cmpK f g) h = cmpK f (cmpK g h) := by
  funext a S
  exact bind_assoc'
def seqK (f : DSv) (fl : Fl) (S : Store) : R Fl := match fl with
  | .nx st => f st S
  | .rt d => .ok (.rt d) S
  | .bk st => .ok (.bk st) S
  | .ct st => .ok (.ct st) S
theorem seqK_nx {f : DSv} {st : DSt} {S : Store} : seqK f (.nx st) S = f st S := nr rfl
theorem seqK_rt {f : DSv} {d : D} {S : Store} : seqK f (.rt d) S = .ok (.rt d) S := nr rfl
theorem seqK_bk {f : DSv} {st : DSt} {S : Store} : seqK f (.bk st) S = .ok (.bk st) S := nr rfl
theorem seqK_ct {f : DSv} {st : DSt} {S : Store} : seqK f (.ct st) S = .ok (.ct st) S := nr rfl
theorem dSeq_ev {a b : DSv} {st : DSt} {S : Store} : dSeq a b st S = (a st S).bind (seqK b) := by
  unfold dSeq
  cases a st S with
  | ok fl S' => cases fl <;> rfl
  | _ => rfl
def finK (fl : Fl) (S : Store) : R D := match fl with
  | .nx _ => .ok .non S
  | .rt d => .ok d S
  | .bk _ => .no
  | .ct _ => .no
theorem finK_nx {st : DSt} {S : Store} : finK (.nx st) S = .ok .non S := nr rfl
theorem finK_rt {d : D} {S : Store} : finK (.rt d) S = .ok d S := nr rfl
/-- the slots at the start -/
def st0 (N : Nat) (ds : List D) : DSt := ds.map some ++ List.replicate (N - ds.length) none
theorem runD_ev {b : DSv} {N : Nat} {ds : List D} {S : Store} : runD b N ds S = (b (st0 N ds) S).bind finK := by
  unfold runD
  show _ = (b (ds.map some ++ List.replicate (N - ds.length) none) S).bind finK
  cases b (ds.map some ++ List.replicate (N - ds.length) none) S with
  | ok fl S' => cases fl <;> rfl
  | _ => rfl
def pad : Nat → DSt
  | 0 => []
  | n + 1 => none :: pad n
theorem pad_eq (n : Nat) : List.replicate n (none : Option D) = pad n := by
  induction n with
  | zero => rfl
  | succ n ih => rw [List.replicate_succ, ih]; rfl
/-- slots read and written -/
def rdS : Nat → DSt → Store → R D
  | 0, some d :: _, S => .ok d S
  | n + 1, _ :: st, S => rdS n st S
  | _, _, _ => .no
theorem dVar_ev {i : Nat} {st : DSt} {S : Store} : dVar i st S = rdS i st S := by
  induction st generalizing i with
  | nil => cases i <;> rfl
  | cons x st ih =>
    cases i with
    | zero => cases x <;> rfl
    | succ n =>
      have := ih (i := n)
      unfold dVar at this ⊢
      rw [List.getElem?_cons_succ]
      exact this
theorem rdS_0 {d : D} {st : DSt} {S : Store} : rdS 0 (some d :: st) S = .ok d S := nr rfl
theorem rdS_s {n : Nat} {x : Option D} {st : DSt} {S : Store} : rdS (n + 1) (x :: st) S = rdS n st S := nr rfl
section
variable {st : DSt} {S : Store} {a b c : DEv} {f g : D → D → Store → R D} {t u : DTv} {p q : DSv} {r : DAv} {x y : D} {i j : Int}
theorem dC_ev : dC x st S = .ok x S := nr rfl
def opK (f : D → D → Store → R D) (b : DEv) (st : DSt) (x : D) (S : Store) : R D := (b st S).bind (f x)
theorem opK_ev : opK f b st x S = (b st S).bind (f x) := nr rfl
theorem dOp_ev : dOp f a b st S = (a st S).bind (opK f b st) := nr rfl
theorem dUn_ev {f : D → Store → R D} : dUn f a st S = (a st S).bind f := nr rfl
def testK (x : D) (S : Store) : R Bool := match x with
  | .bl k => .ok k S
  | _ => .no
theorem testK_bl {k : Bool} : testK (.bl k) S = .ok k S := nr rfl
theorem dTest_ev : dTest a st S = (a st S).bind testK := nr rfl
def chainK (g : D → D → Store → R D) (c : DEv) (st : DSt) (y : D) (z : D) (S : Store) : R D := match z with
  | .bl true => (c st S).bind (g y)
  | .bl false => .ok (.bl false) S
  | _ => .no
theorem chainK_t : chainK g c st y (.bl true) S = (c st S).bind (g y) := nr rfl
theorem chainK_f : chainK g c st y (.bl false) S = .ok (.bl false) S := nr rfl
theorem chainK_b {k : Bool} : chainK g c st y (.bl k) S = if k = true then (c st S).bind (g y) else .ok (.bl false) S := by cases k <;> rfl
def chain2K (f g : D → D → Store → R D) (c : DEv) (st : DSt) (x y : D) (S : Store) : R D := (f x y S).bind (chainK g c st y)
theorem chain2K_ev : chain2K f g c st x y S = (f x y S).bind (chainK g c st y) := nr rfl
def chain1K (f g : D → D → Store → R D) (b c : DEv) (st : DSt) (x : D) (S : Store) : R D := (b st S).bind (chain2K f g c st x)
theorem chain1K_ev : chain1K f g b c st x S = (b st S).bind (chain2K f g c st x) := nr rfl
theorem dChain_ev : dChain f g a b c st S = (a st S).bind (chain1K f g b c st) := nr rfl
def andTK (u : DTv) (st : DSt) (k : Bool) (S : Store) : R Bool := if k = true then u st S else .ok false S
theorem andTK_ev {k : Bool} : andTK u st k S = if k = true then u st S else .ok false S := nr rfl
def orTK (u : DTv) (st : DSt) (k : Bool) (S : Store) : R Bool := if k = true then .ok true S else u st S
theorem orTK_ev {k : Bool} : orTK u st k S = if k = true then .ok true S else u st S := nr rfl
def notTK (k : Bool) (S : Store) : R Bool := .ok (!k) S
theorem notTK_ev {k : Bool} : notTK k S = .ok (!k) S := nr rfl
theorem dAnd_ev : dAnd t u st S = (t st S).bind (andTK u st) := nr rfl
theorem dOr_ev : dOr t u st S = (t st S).bind (orTK u st) := nr rfl
theorem dNot_ev : dNot t st S = (t st S).bind notTK := nr rfl
def andK (b : DEv) (st : DSt) (x : D) (S : Store) : R D := match x with
  | .bl true => b st S
  | .bl false => .ok (.bl false) S
  | _ => .no
def orK (b : DEv) (st : DSt) (x : D) (S : Store) : R D := match x with
  | .bl true => .ok (.bl true) S
  | .bl false => b st S
  | _ => .no
def notK (x : D) (S : Store) : R D := match x with
  | .bl k => .ok (.bl (!k)) S
  | _ => .no
theorem andK_b {k : Bool} : andK b st (.bl k) S = if k = true then b st S else .ok (.bl false) S := by cases k <;> rfl
theorem orK_b {k : Bool} : orK b st (.bl k) S = if k = true then .ok (.bl true) S else b st S := by cases k <;> rfl
theorem notK_b {k : Bool} : notK (.bl k) S = .ok (.bl (!k)) S := nr rfl
theorem dAndV_ev : dAndV a b st S = (a st S).bind (andK b st) := nr rfl
theorem dOrV_ev : dOrV a b st S = (a st S).bind (orK b st) := nr rfl
theorem dNotV_ev : dNotV a st S = (a st S).bind notK := nr rfl
def ifK (a b : DEv) (st : DSt) (k : Bool) (S : Store) : R D := if k = true then a st S else b st S
theorem ifK_ev {k : Bool} : ifK a b st k S = if k = true then a st S else b st S := nr rfl
theorem dIf_ev : dIf t a b st S = (t st S).bind (ifK a b st) := nr rfl
theorem dNil_ev : dNil st S = .ok [] S := nr rfl
def conK (x : D) (xs : List D) (S : Store) : R (List D) := .ok (x :: xs) S
theorem conK_ev {xs : List D} : conK x xs S = .ok (x :: xs) S := nr rfl
def con1K (r : DAv) (st : DSt) (x : D) (S : Store) : R (List D) := (r st S).bind (conK x)
theorem con1K_ev : con1K r st x S = (r st S).bind (conK x) := nr rfl
theorem dCons_ev : dCons a r st S = (a st S).bind (con1K r st) := nr rfl
def tupK (xs : List D) (S : Store) : R D := if xs.length ≤ 1000 then .ok (.tup xs) S else .no
def lstK (xs : List D) (S : Store) : R D := if xs.length ≤ 1000 then .ok (.lst xs) S else .no
def lstMK (xs : List D) (S : Store) : R D := if xs.length ≤ 1000 then .ok (.loc S.length) (S ++ [.lst xs]) else .no
theorem dTup_ev : dTup r st S = (r st S).bind tupK := nr rfl
theorem dLst_ev : dLst r st S = (r st S).bind lstK := nr rfl
theorem dLstM_ev : dLstM r st S = (r st S).bind lstMK := nr rfl
theorem tupK_ok {xs : List D} (h : Nat.ble xs.length 1000 = true) : tupK xs S = .ok (.tup xs) S := if_pos (Nat.le_of_ble_eq_true h)
theorem lstK_ok {xs : List D} (h : Nat.ble xs.length 1000 = true) : lstK xs S = .ok (.lst xs) S := if_pos (Nat.le_of_ble_eq_true h)
theorem lstMK_ok {xs : List D} (h : Nat.ble xs.length 1000 = true) : lstMK xs S = .ok (.loc S.length) (S ++ [.lst xs]) := if_pos (Nat.le_of_ble_eq_true h)
def callK (F : List D → Store → R D) (n : Nat) (ds : List D) (S : Store) : R D := if ds.length = n then F ds S else .no
theorem callK_ev {F : List D → Store → R D} {n : Nat} {ds : List D} (h : ds.length = n) : callK F n ds S = F ds S := if_pos h
theorem dCall_ev {F : List D → Store → R D} {n : Nat} : dCall F n r st S = (r st S).bind (callK F n) := nr rfl
def callDK (F : List D → Store → R D) (n : Nat) (dd ds : List D) (S : Store) : R D := if (ds ++ dd).length = n then F (ds ++ dd) S else .no
theorem callDK_ev {F : List D → Store → R D} {n : Nat} {dd ds : List D} (h : (ds ++ dd).length = n) : callDK F n dd ds S = F (ds ++ dd) S := if_pos h
theorem dCallD_ev {F : List D → Store → R D} {n : Nat} {dd : List D} : dCallD F n dd r st S = (r st S).bind (callDK F n dd) := nr rfl
def callK2 (F : List D → Store → R D) (m n l : Nat) (g : List D → List D → List D) (ds zs : List D) (S : Store) : R D := if ds.length = n ∧ zs.length = l ∧ (g ds zs).length = m then F (g ds zs) S else .no
theorem callK2_ev {F : List D → Store → R D} {m n l : Nat} {g : List D → List D → List D} {ds zs : List D} (h : ds.length = n) (h1 : zs.length = l) (h2 : (g ds zs).length = m) : callK2 F m n l g ds zs S = F (g ds zs) S := if_pos ⟨h, h1, h2⟩
def callK1 (F : List D → Store → R D) (m n l : Nat) (g : List D → List D → List D) (kk : DAv) (st : DSt) (ds : List D) (S : Store) : R D := (kk st S).bind (callK2 F m n l g ds)
theorem callK1_ev {F : List D → Store → R D} {m n l : Nat} {g : List D → List D → List D} {kk : DAv} {ds : List D} : callK1 F m n l g kk st ds S = (kk st S).bind (callK2 F m n l g ds) := nr rfl
theorem dCallK_ev {F : List D → Store → R D} {m n l : Nat} {g : List D → List D → List D} {kk : DAv} : dCallK F m n l g r kk st S = (r st S).bind (callK1 F m n l g kk st) := nr rfl
theorem dBlt_ev {F : List D → Store → R D} : dBlt F r st S = (r st S).bind F := nr rfl
def mtK (ok : Store → D → Bool) (F : D → List D → Store → R D) (r : DAv) (st : DSt) (x : D) (S : Store) : R D := if ok S x = true then (r st S).bind (F x) else .no
theorem mtK_ev {ok : Store → D → Bool} {F : D → List D → Store → R D} (h : ok S x = true) : mtK ok F r st x S = (r st S).bind (F x) := if_pos h
theorem mtK_l {F : D → List D → Store → R D} {n : Nat} {xs : List D} (h : S[n]? = some (.lst xs)) : mtK isLs F r st (.loc n) S = (r st S).bind (F (.loc n)) := if_pos (by simp only [isLs, lsOf, h, Option.isSome_some])
theorem dMt_ev {ok : Store → D → Bool} {F : D → List D → Store → R D} : dMt ok F a r st S = (a st S).bind (mtK ok F r st) := nr rfl
def sl2K (u : DPv) (st : DSt) (x : D) (i : Option Int) (S : Store) : R D := (u st S).bind (slV x i)
theorem sl2K_ev {u : DPv} {o : Option Int} : sl2K u st x o S = (u st S).bind (slV x o) := nr rfl
def sl1K (l u : DPv) (st : DSt) (x : D) (S : Store) : R D := (l st S).bind (sl2K u st x)
theorem sl1K_ev {l u : DPv} : sl1K l u st x S = (l st S).bind (sl2K u st x) := nr rfl
theorem dSl_ev {l u : DPv} : dSl a l u st S = (a st S).bind (sl1K l u st) := nr rfl
theorem dPNone_ev : dPNone st S = .ok none S := nr rfl
def partK (x : D) (S : Store) : R (Option Int) := match x with
  | .int i => .ok (some i) S
  | _ => .no
theorem partK_i : partK (.int i) S = .ok (some i) S := nr rfl
theorem dPart_ev : dPart a st S = (a st S).bind partK := nr rfl
theorem dFrz_ev : dFrz a st S = (a st S).bind frzV := nr rfl
/-- statements -/
theorem dNext_ev : dNext st S = .ok (.nx st) S := nr rfl
def nxK (st : DSt) (_ : D) (S : Store) : R Fl := .ok (.nx st) S
theorem nxK_ev : nxK st x S = .ok (.nx st) S := nr rfl
theorem dDrop_ev : dDrop a st S = (a st S).bind (nxK st) := nr rfl
def rtK (x : D) (S : Store) : R Fl := .ok (.rt x) S
theorem rtK_ev : rtK x S = .ok (.rt x) S := nr rfl
theorem dRet_ev : dRet a st S = (a st S).bind rtK := nr rfl
theorem dRetN_ev : dRetN st S = .ok (.rt .non) S := nr rfl
theorem dBreak_ev : dBreak st S = .ok (.bk st) S := nr rfl
theorem dCont_ev : dCont st S = .ok (.ct st) S := nr rfl
def ifSK (p q : DSv) (st : DSt) (k : Bool) (S : Store) : R Fl := if k = true then p st S else q st S
theorem ifSK_ev {k : Bool} : ifSK p q st k S = if k = true then p st S else q st S := nr rfl
theorem dIfS_ev : dIfS t p q st S = (t st S).bind (ifSK p q st) := nr rfl
def stK (n : Nat) (st : DSt) (x : D) (S : Store) : R Fl := .ok (.nx (st.set n (some x))) S
theorem stK_ev {n : Nat} : stK n st x S = .ok (.nx (st.set n (some x))) S := nr rfl
theorem dSet_ev {n : Nat} : dSet n a st S = (a st S).bind (stK n st) := nr rfl
def nx2K (st : DSt) (S : Store) : R Fl := .ok (.nx st) S
theorem nx2K_ev : nx2K st S = .ok (.nx st) S := nr rfl
def asgK (g : DGv) (st : DSt) (x : D) (S : Store) : R Fl := (g x st S).bind nx2K
theorem asgK_ev {g : DGv} : asgK g st x S = (g x st S).bind nx2K := nr rfl
theorem dAsg_ev {g : DGv} : dAsg a g st S = (a st S).bind (asgK g st) := nr rfl
theorem dgName_ev {n : Nat} : dgName n x st S = .ok (st.set n (some x)) S := nr rfl
theorem dgNil_ev : dgNil [] st S = .ok st S := nr rfl
theorem dgCons_ev {g : DGv} {gs : DGsv} {xs : List D} : dgCons g gs (x :: xs) st S = (g x st S).bind (gs xs) := nr rfl
theorem dgTup_ev {n : Nat} {gs : DGsv} {xs : List D} (h : xs.length = n) : dgTup n gs (.tup xs) st S = gs xs st S := if_pos h
def sub3K (st : DSt) (_ : Unit) (S : Store) : R DSt := .ok st S
theorem sub3K_ev {u : Unit} : sub3K st u S = .ok st S := nr rfl
def sub2K (st : DSt) (x o k : D) (S : Store) : R DSt := (setO o k x S).bind (sub3K st)
theorem sub2K_ev {o k : D} : sub2K st x o k S = (setO o k x S).bind (sub3K st) := nr rfl
def sub1K (b : DEv) (st : DSt) (x o : D) (S : Store) : R DSt := (b st S).bind (sub2K st x o)
theorem sub1K_ev {o : D} : sub1K b st x o S = (b st S).bind (sub2K st x o) := nr rfl
theorem dgSub_ev : dgSub a b x st S = (a st S).bind (sub1K b st x) := nr rfl
noncomputable def forK (g : DGv) (p : DSv) (st : DSt) (s : Src) (S : Store) : R Fl := forD s g p s.xs st S
theorem forK_ev {g : DGv} {s : Src} : forK g p st s S = forD s g p s.xs st S := nr rfl
theorem dFor_ev {di : DIv} {g : DGv} : dFor di g p st S = (di st S).bind (forK g p st) := nr rfl
def rng1K (ds : List D) (S1 : Store) : R Src := match ds with
  | [.int j] => if j < 2 ^ 60 ∧ -(2 ^ 60) ≤ j then .ok ⟨rangeD 0 j.toNat, []⟩ S1 else .no
  | _ => .no
theorem rng1K_i (h0 : j < 2 ^ 60) (h1 : -(2 ^ 60) ≤ j) : rng1K [.int j] S = .ok ⟨rangeD 0 j.toNat, []⟩ S := if_pos ⟨h0, h1⟩
theorem diRng1_ev : diRng1 r st S = (r st S).bind rng1K := nr rfl
def rng2K (ds : List D) (S1 : Store) : R Src := match ds with
  | [.int i, .int j] => if j < 2 ^ 60 ∧ -(2 ^ 60) ≤ j ∧ i < 2 ^ 60 ∧ -(2 ^ 60) ≤ i then .ok ⟨rangeD i (j - i).toNat, []⟩ S1 else .no
  | _ => .no
theorem rng2K_i (h0 : j < 2 ^ 60) (h1 : -(2 ^ 60) ≤ j) (h2 : i < 2 ^ 60) (h3 : -(2 ^ 60) ≤ i) : rng2K [.int i, .int j] S = .ok ⟨rangeD i (j - i).toNat, []⟩ S := if_pos ⟨h0, h1, h2, h3⟩
theorem diRng2_ev : diRng2 r st S = (r st S).bind rng2K := nr rfl
def anyI (x : D) (S : Store) : R Src := match x with
  | .tup xs => .ok ⟨xs, []⟩ S
  | .str x => .ok ⟨signsOf x, []⟩ S
  | x => match srcOf S x with
    | some s => .ok s S
    | none => .no
theorem diAny_ev : diAny a st S = (a st S).bind anyI := nr rfl
theorem anyI_t {xs : List D} : anyI (.tup xs) S = .ok ⟨xs, []⟩ S := nr rfl
theorem anyI_l {xs : List D} : anyI (.lst xs) S = .ok ⟨xs, []⟩ S := nr rfl
theorem anyI_s {x : Str} : anyI (.str x) S = .ok ⟨signsOf x, []⟩ S := nr rfl
theorem anyI_r {xs : List D} : anyI (.scr xs) S = .ok ⟨xs, []⟩ S := nr rfl
theorem anyI_m {n : Nat} {xs : List D} (h : S[n]? = some (.lst xs)) : anyI (.loc n) S = .ok ⟨xs, [(n, xs)]⟩ S := by
  show (match (match S[n]? with
    | some (.lst xs) => some (Src.mk xs [(n, xs)])
    | some (.frz xs) => some (Src.mk xs [(n, xs)])
    | _ => none) with
    | some s => R.ok s S
    | none => .no) = _
  rw [h]
def lc2K (acc : List D) (S : Store) : R D := .ok (.lst acc) S
theorem lc2K_ev {xs : List D} : lc2K xs S = .ok (.lst xs) S := nr rfl
noncomputable def lc1K (g : DGv) (t : DTv) (a : DEv) (st : DSt) (s : Src) (S : Store) : R D := (lcD s g t a st s.xs [] S).bind lc2K
theorem lc1K_ev {g : DGv} {s : Src} : lc1K g t a st s S = (lcD s g t a st s.xs [] S).bind lc2K := nr rfl
theorem dLc_ev {di : DIv} {g : DGv} {vs : List Nat} : dLc di g t a vs st S = (di st S).bind (lc1K g t a (wipeD st vs)) := nr rfl
theorem wipeD_nil : wipeD st [] = st := nr rfl
theorem wipeD_cons {n : Nat} {ns : List Nat} : wipeD st (n :: ns) = (wipeD st ns).set n none := nr rfl
/-- operators on plain things -/
theorem addV_i : addV (.int i) (.int j) S = .ok (.int (i + j)) S := nr rfl
theorem subV_i : subV (.int i) (.int j) S = .ok (.int (i - j)) S := nr rfl
theorem mulV_l (h0 : -(2 ^ 64) < i) (h1 : i < 2 ^ 64) : mulV (.int i) (.int j) S = .ok (.int (i * j)) S := if_pos (by unfold CMulB; rw [decide_eq_true h0, decide_eq_true h1]; rfl)
theorem mulV_r (h0 : -(2 ^ 64) < j) (h1 : j < 2 ^ 64) : mulV (.int i) (.int j) S = .ok (.int (i * j)) S := if_pos (by unfold CMulB; rw [decide_eq_true h0, decide_eq_true h1]; exact Bool.or_true _)
theorem divV_i (h0 : 0 < j) (h1 : j < 10 ^ 60) : divV (.int i) (.int j) S = .ok (.int (i / j)) S := if_pos ⟨h0, lt_huge h1⟩
theorem modV_i (h0 : 0 < j) : modV (.int i) (.int j) S = .ok (.int (i % j)) S := if_pos h0
theorem powV_i (h0 : 0 ≤ j) (h1 : j ≤ 1000) (h2 : 0 ≤ i) (h3 : i ≤ 1000) : powV (.int i) (.int j) S = .ok (.int (i ^ j.toNat)) S := if_pos ⟨h0, h1, h2, h3⟩
theorem negV_i : negV (.int i) S = .ok (.int (-i)) S := nr rfl
theorem cmpV_i {f : Int → Int → Bool} {g : List Nat → List Nat → Bool} : cmpV f g (.int i) (.int j) S = .ok (.bl (f i j)) S := nr rfl
theorem cmpV_st {f : Int → Int → Bool} {g : List Nat → List Nat → Bool} {x y : Str} : cmpV f g (.str x) (.str y) S = .ok (.bl (g x.cps.toList y.cps.toList)) S := nr rfl
theorem eqV_i : eqV (.int i) (.int j) S = .ok (.bl (i == j)) S := by
  show (if min (PyData.int i).depth (PyData.int j).depth ≤ 64 then R.ok (D.bl (PyData.eqv (.int i) (.int j))) S else .no) = _
  rfl
theorem neV_i : neV (.int i) (.int j) S = .ok (.bl (!(i == j))) S := by
  show (if min (PyData.int i).depth (PyData.int j).depth ≤ 64 then R.ok (D.bl (!PyData.eqv (.int i) (.int j))) S else .no) = _
  rfl
theorem eqV_b {k l : Bool} : eqV (.bl k) (.bl l) S = .ok (.bl (k == l)) S := by
  show (if min (PyData.bool k).depth (PyData.bool l).depth ≤ 64 then R.ok (D.bl (PyData.eqv (.bool k) (.bool l))) S else .no) = _
  rfl
theorem neV_b {k l : Bool} : neV (.bl k) (.bl l) S = .ok (.bl (!(k == l))) S := by
  show (if min (PyData.bool k).depth (PyData.bool l).depth ≤ 64 then R.ok (D.bl (!PyData.eqv (.bool k) (.bool l))) S else .no) = _
  rfl
theorem eqV_s' {x y : Str} : eqV (.str x) (.str y) S = .ok (.bl (x == y)) S := by
  show (if min (PyData.str x).depth (PyData.str y).depth ≤ 64 then R.ok (D.bl (PyData.eqv (.str x) (.str y))) S else .no) = _
  rfl
theorem neV_s' {x y : Str} : neV (.str x) (.str y) S = .ok (.bl (!(x == y))) S := by
  show (if min (PyData.str x).depth (PyData.str y).depth ≤ 64 then R.ok (D.bl (!PyData.eqv (.str x) (.str y))) S else .no) = _
  rfl
theorem eqV_nn : eqV .non .non S = .ok (.bl true) S := by
  show (if min (PyData.depth .none) (PyData.depth .none) ≤ 64 then R.ok (D.bl (PyData.eqv .none .none)) S else .no) = _
  rfl
theorem neV_nn : neV .non .non S = .ok (.bl false) S := by
  show (if min (PyData.depth .none) (PyData.depth .none) ≤ 64 then R.ok (D.bl (!PyData.eqv .none .none)) S else .no) = _
  rfl
theorem eqV_ni : eqV .non (.int i) S = .ok (.bl false) S := by
  show (if min (PyData.depth .none) (PyData.depth (.int i)) ≤ 64 then R.ok (D.bl (PyData.eqv .none (.int i))) S else .no) = _
  rfl
theorem neV_ni : neV .non (.int i) S = .ok (.bl true) S := by
  show (if min (PyData.depth .none) (PyData.depth (.int i)) ≤ 64 then R.ok (D.bl (!PyData.eqv .none (.int i))) S else .no) = _
  rfl
theorem eqV_in : eqV (.int i) .non S = .ok (.bl false) S := by
  show (if min (PyData.depth (.int i)) (PyData.depth .none) ≤ 64 then R.ok (D.bl (PyData.eqv (.int i) .none)) S else .no) = _
  rfl
theorem neV_in : neV (.int i) .non S = .ok (.bl true) S := by
  show (if min (PyData.depth (.int i)) (PyData.depth .none) ≤ 64 then R.ok (D.bl (!PyData.eqv (.int i) .none)) S else .no) = _
  rfl
theorem eqV_ns {z : Str} : eqV .non (.str z) S = .ok (.bl false) S := by
  show (if min (PyData.depth .none) (PyData.depth (.str z)) ≤ 64 then R.ok (D.bl (PyData.eqv .none (.str z))) S else .no) = _
  rfl
theorem neV_ns {z : Str} : neV .non (.str z) S = .ok (.bl true) S := by
  show (if min (PyData.depth .none) (PyData.depth (.str z)) ≤ 64 then R.ok (D.bl (!PyData.eqv .none (.str z))) S else .no) = _
  rfl
theorem eqV_sn {z : Str} : eqV (.str z) .non S = .ok (.bl false) S := by
  show (if min (PyData.depth (.str z)) (PyData.depth .none) ≤ 64 then R.ok (D.bl (PyData.eqv (.str z) .none)) S else .no) = _
  rfl
theorem neV_sn {z : Str} : neV (.str z) .non S = .ok (.bl true) S := by
  show (if min (PyData.depth (.str z)) (PyData.depth .none) ≤ 64 then R.ok (D.bl (!PyData.eqv (.str z) .none)) S else .no) = _
  rfl
theorem eqV_nb {k : Bool} : eqV .non (.bl k) S = .ok (.bl false) S := by
  show (if min (PyData.depth .none) (PyData.depth (.bool k)) ≤ 64 then R.ok (D.bl (PyData.eqv .none (.bool k))) S else .no) = _
  rfl
theorem neV_nb {k : Bool} : neV .non (.bl k) S = .ok (.bl true) S := by
  show (if min (PyData.depth .none) (PyData.depth (.bool k)) ≤ 64 then R.ok (D.bl (!PyData.eqv .none (.bool k))) S else .no) = _
  rfl
theorem eqV_bn {k : Bool} : eqV (.bl k) .non S = .ok (.bl false) S := by
  show (if min (PyData.depth (.bool k)) (PyData.depth .none) ≤ 64 then R.ok (D.bl (PyData.eqv (.bool k) .none)) S else .no) = _
  rfl
theorem neV_bn {k : Bool} : neV (.bl k) .non S = .ok (.bl true) S := by
  show (if min (PyData.depth (.bool k)) (PyData.depth .none) ≤ 64 then R.ok (D.bl (!PyData.eqv (.bool k) .none)) S else .no) = _
  rfl
theorem isNon_n : isNon .non = true := nr rfl
theorem isNon_i : isNon (.int i) = false := nr rfl
theorem isNon_t {xs : List D} : isNon (.tup xs) = false := nr rfl
theorem isNon_l {xs : List D} : isNon (.lst xs) = false := nr rfl
theorem isNon_b {k : Bool} : isNon (.bl k) = false := nr rfl
theorem isNon_s {z : Str} : isNon (.str z) = false := nr rfl
theorem isNon_m {n : Nat} : isNon (.loc n) = false := nr rfl
theorem isV_n' : isV x .non S = .ok (.bl (isNon x)) S := nr rfl
theorem isNotV_n' : isNotV x .non S = .ok (.bl (!isNon x)) S := nr rfl
def ixK (o : Option D) (S : Store) : R D := match o with
  | some d => .ok d S
  | none => .no
theorem ixK_s : ixK (some x) S = .ok x S := nr rfl
theorem ixV_t {xs : List D} : ixV (.tup xs) (.int i) S = ixK (atI xs i) S := by
  show (match atI xs i with | some d => R.ok d S | none => .no) = _
  cases atI xs i <;> rfl
theorem ixV_l {xs : List D} : ixV (.lst xs) (.int i) S = ixK (atI xs i) S := by
  show (match atI xs i with | some d => R.ok d S | none => .no) = _
  cases atI xs i <;> rfl
theorem ixV_r {xs : List D} : ixV (.scr xs) (.int i) S = ixK (atI xs i) S := by
  show (match atI xs i with | some d => R.ok d S | none => .no) = _
  cases atI xs i <;> rfl
theorem ixV_m {n : Nat} {xs : List D} (h : S[n]? = some (.lst xs)) : ixV (.loc n) (.int i) S = ixK (atI xs i) S := by
  unfold ixV
  simp only [sqOf, lsOf, h]
  cases atI xs i <;> rfl
theorem lenV_t {xs : List D} : lenV [.tup xs] S = .ok (.int xs.length) S := nr rfl
theorem lenV_l {xs : List D} : lenV [.lst xs] S = .ok (.int xs.length) S := nr rfl
theorem lenV_r {xs : List D} : lenV [.scr xs] S = .ok (.int xs.length) S := nr rfl
theorem lenV_s' {z : Str} : lenV [.str z] S = .ok (.int z.length) S := nr rfl
theorem lenV_m {n : Nat} {xs : List D} (h : S[n]? = some (.lst xs)) : lenV [.loc n] S = .ok (.int xs.length) S := by
  unfold lenV
  simp only [sqOf, lsOf, h]
theorem absV_i : absV [.int i] S = .ok (.int (if i < 0 then -i else i)) S := nr rfl
theorem maxV_i : maxV [.int i, .int j] S = .ok (.int (if j > i then j else i)) S := nr rfl
theorem minV_i : minV [.int i, .int j] S = .ok (.int (if j < i then j else i)) S := nr rfl
theorem appV_m {n : Nat} {xs : List D} (h : S[n]? = some (.lst xs)) (hl : xs.length < 1000000) : appV (.loc n) [x] S = .ok .non (S.set n (.lst (xs ++ [x]))) := by
  unfold appV
  simp only [h, hl, if_true]
def setK (n : Nat) (xs : List D) (x : D) (S : Store) : Option Nat → R Unit
  | some m => .ok () (S.set n (.lst (xs.set m x)))
  | none => .no
theorem setK_s {n m : Nat} {xs : List D} : setK n xs x S (some m) = .ok () (S.set n (.lst (xs.set m x))) := nr rfl
theorem setO_m {n : Nat} {xs : List D} (h : S[n]? = some (.lst xs)) : setO (.loc n) (.int i) x S = setK n xs x S (ixN xs.length i) := by
  unfold setO
  simp only [h]
  cases ixN xs.length i <;> rfl
theorem ixN_ok {n : Nat} (h0 : 0 ≤ i) (h1 : i < n) : ixN n i = some i.toNat := by
  unfold ixN
  rw [if_pos h0, if_pos h1]
theorem atI_ok {α : Type} {xs : List α} (h0 : 0 ≤ i) (h1 : i < xs.length) : atI xs i = xs[i.toNat]? := by
  unfold atI
  rw [ixN_ok h0 h1]
  rfl
theorem atI_nat' {α : Type} {xs : List α} {n : Nat} : atI xs (n : Int) = xs[n]? := by
  by_cases h : n < xs.length
  · rw [atI_ok (by omega) (by omega)]
    simp
  · rw [List.getElem?_eq_none (by omega)]
    unfold atI ixN
    rw [if_pos (by omega), if_neg (by omega)]
    rfl
theorem atI_0 {α : Type} {x0 : α} {xs : List α} : atI (x0 :: xs) 0 = some x0 := by rw [atI_ok (by decide) (by simp <;> omega)]; rfl
theorem atI_1 {α : Type} {x0 x1 : α} {xs : List α} : atI (x0 :: x1 :: xs) 1 = some x1 := by rw [atI_ok (by decide) (by simp <;> omega)]; rfl
theorem atI_2 {α : Type} {x0 x1 x2 : α} {xs : List α} : atI (x0 :: x1 :: x2 :: xs) 2 = some x2 := by rw [atI_ok (by decide) (by simp <;> omega)]; rfl
theorem atI_3 {α : Type} {x0 x1 x2 x3 : α} {xs : List α} : atI (x0 :: x1 :: x2 :: x3 :: xs) 3 = some x3 := by rw [atI_ok (by decide) (by simp <;> omega)]; rfl
theorem atI_4 {α : Type} {x0 x1 x2 x3 x4 : α} {xs : List α} : atI (x0 :: x1 :: x2 :: x3 :: x4 :: xs) 4 = some x4 := by rw [atI_ok (by decide) (by simp <;> omega)]; rfl
theorem atI_5 {α : Type} {x0 x1 x2 x3 x4 x5 : α} {xs : List α} : atI (x0 :: x1 :: x2 :: x3 :: x4 :: x5 :: xs) 5 = some x5 := by rw [atI_ok (by decide) (by simp <;> omega)]; rfl
theorem atI_6 {α : Type} {x0 x1 x2 x3 x4 x5 x6 : α} {xs : List α} : atI (x0 :: x1 :: x2 :: x3 :: x4 :: x5 :: x6 :: xs) 6 = some x6 := by rw [atI_ok (by decide) (by simp <;> omega)]; rfl
theorem atI_7 {α : Type} {x0 x1 x2 x3 x4 x5 x6 x7 : α} {xs : List α} : atI (x0 :: x1 :: x2 :: x3 :: x4 :: x5 :: x6 :: x7 :: xs) 7 = some x7 := by rw [atI_ok (by decide) (by simp <;> omega)]; rfl
theorem atI_8 {α : Type} {x0 x1 x2 x3 x4 x5 x6 x7 x8 : α} {xs : List α} : atI (x0 :: x1 :: x2 :: x3 :: x4 :: x5 :: x6 :: x7 :: x8 :: xs) 8 = some x8 := by rw [atI_ok (by decide) (by simp <;> omega)]; rfl
theorem atI_9 {α : Type} {x0 x1 x2 x3 x4 x5 x6 x7 x8 x9 : α} {xs : List α} : atI (x0 :: x1 :: x2 :: x3 :: x4 :: x5 :: x6 :: x7 :: x8 :: x9 :: xs) 9 = some x9 := by rw [atI_ok (by decide) (by simp <;> omega)]; rfl
theorem isLs_m {n : Nat} {xs : List D} (h : S[n]? = some (.lst xs)) : isLs S (.loc n) = true := by simp only [isLs, lsOf, h, Option.isSome_some]
end
/-! for: an invariant by the turn -/
/-! where a walk's body is to end -/
def forP (I : Nat → DSt → Store → Prop) (i : Nat) (Q : Fl → Store → Prop) (fl : Fl) (S : Store) : Prop := match fl with
  | .nx st => I (i + 1) st S
  | .ct st => I (i + 1) st S
  | .bk st => Q (.nx st) S
  | .rt d => Q (.rt d) S
section
variable {I : Nat → DSt → Store → Prop} {i : Nat} {Q : Fl → Store → Prop} {st : DSt} {S : Store} {d : D}
theorem forP_nx : forP I i Q (.nx st) S = I (i + 1) st S := nr rfl
theorem forP_ct : forP I i Q (.ct st) S = I (i + 1) st S := nr rfl
theorem forP_bk : forP I i Q (.bk st) S = Q (.nx st) S := nr rfl
theorem forP_rt : forP I i Q (.rt d) S = Q (.rt d) S := nr rfl
end
def kP {α β : Type} (k : β → Store → R α) (P : α → Store → Prop) (x : β) (S : Store) : Prop := wpE (k x S) P
theorem kP_ev {α β : Type} {k : β → Store → R α} {P : α → Store → Prop} {x : β} {S : Store} : kP k P x S = wpE (k x S) P := nr rfl
theorem wp_for {s : Src} {g : DGv} {b : DSv} {st : DSt} {S : Store} {α : Type} {k : Fl → Store → R α} {P : α → Store → Prop} (I : Nat → DSt → Store → Prop) (h0 : I 0 st S)
    (step : ∀ i x st S, s.xs[i]? = some x → I i st S → s.held S ∧ wpE ((g x st S).bind b) (forP I i (kP k P)))
    (done : ∀ st S, I s.xs.length st S → s.held S ∧ wpE (k (.nx st) S) P) : wpE ((forD s g b s.xs st S).bind k) P := by
  have go : ∀ (n i : Nat) (st : DSt) (S : Store), s.xs.length - i = n → i ≤ s.xs.length → I i st S → wpE ((forD s g b (s.xs.drop i) st S).bind k) P := by
    intro n
    induction n with
    | zero =>
      intro i st S e hi h
      have e : i = s.xs.length := by omega
      subst e
      obtain ⟨h1, h2⟩ := done st S h
      rw [List.drop_length]
      unfold forD
      rw [if_pos h1]
      exact h2
    | succ n ih =>
      intro i st S e hi h
      have hlt : i < s.xs.length := by omega
      obtain ⟨h1, h2⟩ := step i _ st S (List.getElem?_eq_getElem hlt) h
      rw [List.drop_eq_getElem_cons hlt]
      unfold forD
      rw [if_pos h1]
      cases q : g s.xs[i] st S with
      | ok st1 S1 =>
        rw [q] at h2
        simp only [R.bind_ok] at h2 ⊢
        obtain ⟨fl, S2, q2, h2⟩ := h2
        rw [q2]
        cases fl with
        | nx st2 => exact ih (i + 1) st2 S2 (by omega) hlt h2
        | ct st2 => exact ih (i + 1) st2 S2 (by omega) hlt h2
        | bk st2 => exact h2
        | rt d => exact h2
      | err x S2 => rw [q] at h2; exact (wpE_err h2).elim
      | no => rw [q] at h2; exact (wpE_no h2).elim
  exact go _ 0 st S rfl (Nat.zero_le _) h0
theorem bind_ret {α : Type} {r : R α} : (r.bind fun a S => .ok a S) = r := by cases r <;> rfl
/-- the same for a walk that ends a body -/
theorem wp_forE {s : Src} {g : DGv} {b : DSv} {st : DSt} {S : Store} {P : Fl → Store → Prop} (I : Nat → DSt → Store → Prop) (h0 : I 0 st S)
    (step : ∀ i x st S, s.xs[i]? = some x → I i st S → s.held S ∧ wpE ((g x st S).bind b) (forP I i P))
    (done : ∀ st S, I s.xs.length st S → s.held S ∧ P (.nx st) S) : wpE (forD s g b s.xs st S) P := by
  rw [← bind_ret (r := forD s g b s.xs st S)]
  refine wp_for I h0 (fun i x st S h1 h2 => ?_) fun st S h => ⟨(done st S h).1, wpE_ok_i (done st S h).2⟩
  obtain ⟨h3, h4⟩ := step i x st S h1 h2
  exact ⟨h3, wpE_mono h4 fun fl S' h => by
    cases fl with
    | nx st => exact h
    | ct st => exact h
    | bk st => exact wpE_ok_i h
    | rt d => exact wpE_ok_i h⟩
theorem rangeD_get {lo : Int} {n i : Nat} {x : D} (h : (rangeD lo n)[i]? = some x) : i < n ∧ x = .int (lo + (i : Int)) := by
  unfold rangeD at h
  rw [List.getElem?_map] at h
  by_cases hi : i < n
  · rw [List.getElem?_range hi] at h
    cases h
    exact ⟨hi, rfl⟩
  · rw [List.getElem?_eq_none (by simpa using Nat.le_of_not_lt hi)] at h
    cases h
theorem rangeD_len {lo : Int} {n : Nat} : (rangeD lo n).length = n := by simp [rangeD]
/-! a comprehension's turn -/
def someK (y : D) (S : Store) : R (Option D) := .ok (some y) S
theorem someK_ev {y : D} {S : Store} : someK y S = .ok (some y) S := nr rfl
def lcT2K (e : DEv) (st : DSt) (k : Bool) (S : Store) : R (Option D) := if k = true then (e st S).bind someK else .ok none S
theorem lcT2K_ev {e : DEv} {st : DSt} {k : Bool} {S : Store} : lcT2K e st k S = if k = true then (e st S).bind someK else .ok none S := nr rfl
def lcT1K (t : DTv) (e : DEv) (st : DSt) (S : Store) : R (Option D) := (t st S).bind (lcT2K e st)
theorem lcT1K_ev {t : DTv} {e : DEv} {st : DSt} {S : Store} : lcT1K t e st S = (t st S).bind (lcT2K e st) := nr rfl
def lcT (g : DGv) (t : DTv) (e : DEv) (st : DSt) (x : D) (S : Store) : R (Option D) := (g x st S).bind (lcT1K t e)
theorem lcT_ev {g : DGv} {t : DTv} {e : DEv} {st : DSt} {x : D} {S : Store} : lcT g t e st x S = (g x st S).bind (lcT1K t e) := nr rfl
/-- where a comprehension's turn is to end -/
def lcP (I : Nat → List D → Store → Prop) (i : Nat) (acc : List D) (o : Option D) (S : Store) : Prop := match o with
  | some y => I (i + 1) (acc ++ [y]) S
  | none => I (i + 1) acc S
theorem lcP_some {I : Nat → List D → Store → Prop} {i : Nat} {acc : List D} {y : D} {S : Store} : lcP I i acc (some y) S = I (i + 1) (acc ++ [y]) S := nr rfl
theorem lcP_none {I : Nat → List D → Store → Prop} {i : Nat} {acc : List D} {S : Store} : lcP I i acc none S = I (i + 1) acc S := nr rfl
/-- each turn leaves the store -/
theorem lcD_pure {s : Src} {g : DGv} {t : DTv} {e : DEv} {st : DSt} {S : Store} (f : D → Option D) (hS : s.held S) : ∀ (xs acc : List D), acc.length + xs.length ≤ 1000000 → (∀ x ∈ xs, lcT g t e st x S = .ok (f x) S) → lcD s g t e st xs acc S = .ok (acc ++ xs.filterMap f) S
  | [], acc, _, _ => by
    unfold lcD
    rw [if_pos hS]
    simp
  | x :: xs, acc, hl, h => by
    have hx : ((g x st S).bind fun st1 S1 => (t st1 S1).bind fun k S2 => if k = true then (e st1 S2).bind fun y S3 => R.ok (some y) S3 else .ok none S2) = .ok (f x) S := h x List.mem_cons_self
    rw [List.length_cons] at hl
    unfold lcD
    rw [if_pos ⟨hS, by omega⟩, hx]
    have tl : ∀ y ∈ xs, lcT g t e st y S = .ok (f y) S := fun y hy => h y (List.mem_cons_of_mem _ hy)
    cases q : f x with
    | none =>
      simp only [R.mute, R.bind_ok]
      rw [lcD_pure f hS xs acc (by omega) tl, List.filterMap_cons, q]
    | some y =>
      simp only [R.mute, R.bind_ok]
      rw [lcD_pure f hS xs (acc ++ [y]) (by rw [List.length_append, List.length_singleton]; omega) tl, List.filterMap_cons, q]
      simp
/-- an invariant over what was made -/
theorem wp_lc {s : Src} {g : DGv} {t : DTv} {e : DEv} {st : DSt} {S : Store} {α : Type} {k : List D → Store → R α} {P : α → Store → Prop} (I : Nat → List D → Store → Prop) (h0 : I 0 [] S)
    (step : ∀ i x acc S, s.xs[i]? = some x → I i acc S → s.held S ∧ acc.length < 1000000 ∧ wpE (lcT g t e st x S) (lcP I i acc))
    (done : ∀ acc S, I s.xs.length acc S → s.held S ∧ wpE (k acc S) P) : wpE ((lcD s g t e st s.xs [] S).bind k) P := by
  have go : ∀ (n i : Nat) (acc : List D) (S : Store), s.xs.length - i = n → i ≤ s.xs.length → I i acc S → wpE ((lcD s g t e st (s.xs.drop i) acc S).bind k) P := by
    intro n
    induction n with
    | zero =>
      intro i acc S e1 hi h
      have e1 : i = s.xs.length := by omega
      subst e1
      obtain ⟨h1, h2⟩ := done acc S h
      rw [List.drop_length]
      unfold lcD
      rw [if_pos h1]
      exact h2
    | succ n ih =>
      intro i acc S e1 hi h
      have hlt : i < s.xs.length := by omega
      obtain ⟨h1, hl, h2⟩ := step i _ acc S (List.getElem?_eq_getElem hlt) h
      rw [List.drop_eq_getElem_cons hlt]
      unfold lcD
      rw [if_pos ⟨h1, hl⟩]
      show wpE ((R.bind (R.mute (lcT g t e st s.xs[i] S)) _).bind k) P
      obtain ⟨o, S2, q, h2⟩ := h2
      rw [q]
      cases o with
      | none => exact ih (i + 1) acc S2 (by omega) hlt h2
      | some y => exact ih (i + 1) (acc ++ [y]) S2 (by omega) hlt h2
  exact go _ 0 [] S rfl (Nat.zero_le _) h0
theorem wp_use {α β : Type} {r : R α} {k : α → Store → R β} {Q : α → Store → Prop} {P : β → Store → Prop} (h : wpE r Q) (q : ∀ a S', Q a S' → wpE (k a S') P) : wpE (r.bind k) P := wpE_bind.mpr (wpE_mono h q)
theorem wp_eq {α β : Type} {r : R α} {a : α} {S' : Store} {k : α → Store → R β} {P : β → Store → Prop} (h : r = .ok a S') (q : wpE (k a S') P) : wpE (r.bind k) P := by rw [h]; exact q
theorem wp_ite {α : Type} {c : Prop} [Decidable c] {a b : R α} {P : α → Store → Prop} (h1 : c → wpE a P) (h2 : ¬ c → wpE b P) : wpE (if c then a else b) P := by
  by_cases h : c
  · rw [if_pos h]; exact h1 h
  · rw [if_neg h]; exact h2 h
theorem wp_iteB {α β : Type} {c : Prop} [Decidable c] {a b : R α} {k : α → Store → R β} {P : β → Store → Prop} (h1 : c → wpE (a.bind k) P) (h2 : ¬ c → wpE (b.bind k) P) : wpE ((if c then a else b).bind k) P := by
  by_cases h : c
  · rw [if_pos h]; exact h1 h
  · rw [if_neg h]; exact h2 h
theorem wp_done {r : R D} {d : D} (h : wpE r fun x _ => x = d) : ∃ S', r = .ok d S' := by
  obtain ⟨a, S, e, rfl⟩ := h
  exact ⟨S, e⟩

/-! ### what stands in the store -/
/-- a bag of draws -/
def BagAt (S : Store) (b : Nat) : Prop := ∃ b0 b1 : Int, S[b]? = some (.lst [.int b0, .int b1])
/-- only b may have changed, more may stand behind -/
structure Fr (b : Nat) (S S' : Store) : Prop where
  bag : BagAt S' b
  len : S.length ≤ S'.length
  keep : ∀ (n : Nat) (o : O), n ≠ b → S[n]? = some o → S'[n]? = some o
theorem BagAt.lt {S : Store} {b : Nat} (h : BagAt S b) : b < S.length := let ⟨_, _, h⟩ := h; (List.getElem?_eq_some_iff.mp h).1
theorem Fr.refl {b : Nat} {S : Store} (h : BagAt S b) : Fr b S S := ⟨h, Nat.le_refl _, fun _ _ _ h => h⟩
theorem Fr.trans {b : Nat} {S S1 S2 : Store} (x : Fr b S S1) (y : Fr b S1 S2) : Fr b S S2 := ⟨y.bag, Nat.le_trans x.len y.len, fun n o h e => y.keep n o h (x.keep n o h e)⟩
theorem Fr.set {b : Nat} {S : Store} {x y : Int} (h : b < S.length) : Fr b S (S.set b (.lst [.int x, .int y])) :=
  ⟨⟨x, y, List.getElem?_set_self h⟩, by simp, fun n o ne e => by rw [List.getElem?_set_ne (Ne.symm ne)]; exact e⟩
theorem Fr.app {b : Nat} {S T : Store} (h : BagAt S b) : Fr b S (S ++ T) := by
  obtain ⟨x, y, e⟩ := h
  exact ⟨⟨x, y, by rw [List.getElem?_append_left (List.getElem?_eq_some_iff.mp e).1]; exact e⟩, by simp, fun n o _ e => by rw [List.getElem?_append_left (List.getElem?_eq_some_iff.mp e).1]; exact e⟩
theorem app_at {S : Store} {o : O} : (S ++ [o])[S.length]? = some o := by simp
/-- a display of a fixed size -/
theorem tupK_0 {S : Store} : tupK [] S = .ok (.tup []) S := nr rfl
theorem lstK_0 {S : Store} : lstK [] S = .ok (.lst []) S := nr rfl
theorem lstMK_0 {S : Store} : lstMK [] S = .ok (.loc S.length) (S ++ [.lst []]) := nr rfl
theorem tupK_1 {x0 : D} {S : Store} : tupK [x0] S = .ok (.tup [x0]) S := nr rfl
theorem lstK_1 {x0 : D} {S : Store} : lstK [x0] S = .ok (.lst [x0]) S := nr rfl
theorem lstMK_1 {x0 : D} {S : Store} : lstMK [x0] S = .ok (.loc S.length) (S ++ [.lst [x0]]) := nr rfl
theorem tupK_2 {x0 x1 : D} {S : Store} : tupK [x0, x1] S = .ok (.tup [x0, x1]) S := nr rfl
theorem lstK_2 {x0 x1 : D} {S : Store} : lstK [x0, x1] S = .ok (.lst [x0, x1]) S := nr rfl
theorem lstMK_2 {x0 x1 : D} {S : Store} : lstMK [x0, x1] S = .ok (.loc S.length) (S ++ [.lst [x0, x1]]) := nr rfl
theorem tupK_3 {x0 x1 x2 : D} {S : Store} : tupK [x0, x1, x2] S = .ok (.tup [x0, x1, x2]) S := nr rfl
theorem lstK_3 {x0 x1 x2 : D} {S : Store} : lstK [x0, x1, x2] S = .ok (.lst [x0, x1, x2]) S := nr rfl
theorem lstMK_3 {x0 x1 x2 : D} {S : Store} : lstMK [x0, x1, x2] S = .ok (.loc S.length) (S ++ [.lst [x0, x1, x2]]) := nr rfl
theorem tupK_4 {x0 x1 x2 x3 : D} {S : Store} : tupK [x0, x1, x2, x3] S = .ok (.tup [x0, x1, x2, x3]) S := nr rfl
theorem lstK_4 {x0 x1 x2 x3 : D} {S : Store} : lstK [x0, x1, x2, x3] S = .ok (.lst [x0, x1, x2, x3]) S := nr rfl
theorem lstMK_4 {x0 x1 x2 x3 : D} {S : Store} : lstMK [x0, x1, x2, x3] S = .ok (.loc S.length) (S ++ [.lst [x0, x1, x2, x3]]) := nr rfl
theorem tupK_5 {x0 x1 x2 x3 x4 : D} {S : Store} : tupK [x0, x1, x2, x3, x4] S = .ok (.tup [x0, x1, x2, x3, x4]) S := nr rfl
theorem lstK_5 {x0 x1 x2 x3 x4 : D} {S : Store} : lstK [x0, x1, x2, x3, x4] S = .ok (.lst [x0, x1, x2, x3, x4]) S := nr rfl
theorem lstMK_5 {x0 x1 x2 x3 x4 : D} {S : Store} : lstMK [x0, x1, x2, x3, x4] S = .ok (.loc S.length) (S ++ [.lst [x0, x1, x2, x3, x4]]) := nr rfl
theorem tupK_6 {x0 x1 x2 x3 x4 x5 : D} {S : Store} : tupK [x0, x1, x2, x3, x4, x5] S = .ok (.tup [x0, x1, x2, x3, x4, x5]) S := nr rfl
theorem lstK_6 {x0 x1 x2 x3 x4 x5 : D} {S : Store} : lstK [x0, x1, x2, x3, x4, x5] S = .ok (.lst [x0, x1, x2, x3, x4, x5]) S := nr rfl
theorem lstMK_6 {x0 x1 x2 x3 x4 x5 : D} {S : Store} : lstMK [x0, x1, x2, x3, x4, x5] S = .ok (.loc S.length) (S ++ [.lst [x0, x1, x2, x3, x4, x5]]) := nr rfl
theorem tupK_7 {x0 x1 x2 x3 x4 x5 x6 : D} {S : Store} : tupK [x0, x1, x2, x3, x4, x5, x6] S = .ok (.tup [x0, x1, x2, x3, x4, x5, x6]) S := nr rfl
theorem lstK_7 {x0 x1 x2 x3 x4 x5 x6 : D} {S : Store} : lstK [x0, x1, x2, x3, x4, x5, x6] S = .ok (.lst [x0, x1, x2, x3, x4, x5, x6]) S := nr rfl
theorem lstMK_7 {x0 x1 x2 x3 x4 x5 x6 : D} {S : Store} : lstMK [x0, x1, x2, x3, x4, x5, x6] S = .ok (.loc S.length) (S ++ [.lst [x0, x1, x2, x3, x4, x5, x6]]) := nr rfl
theorem tupK_8 {x0 x1 x2 x3 x4 x5 x6 x7 : D} {S : Store} : tupK [x0, x1, x2, x3, x4, x5, x6, x7] S = .ok (.tup [x0, x1, x2, x3, x4, x5, x6, x7]) S := nr rfl
theorem lstK_8 {x0 x1 x2 x3 x4 x5 x6 x7 : D} {S : Store} : lstK [x0, x1, x2, x3, x4, x5, x6, x7] S = .ok (.lst [x0, x1, x2, x3, x4, x5, x6, x7]) S := nr rfl
theorem lstMK_8 {x0 x1 x2 x3 x4 x5 x6 x7 : D} {S : Store} : lstMK [x0, x1, x2, x3, x4, x5, x6, x7] S = .ok (.loc S.length) (S ++ [.lst [x0, x1, x2, x3, x4, x5, x6, x7]]) := nr rfl
theorem tupK_9 {x0 x1 x2 x3 x4 x5 x6 x7 x8 : D} {S : Store} : tupK [x0, x1, x2, x3, x4, x5, x6, x7, x8] S = .ok (.tup [x0, x1, x2, x3, x4, x5, x6, x7, x8]) S := nr rfl
theorem lstK_9 {x0 x1 x2 x3 x4 x5 x6 x7 x8 : D} {S : Store} : lstK [x0, x1, x2, x3, x4, x5, x6, x7, x8] S = .ok (.lst [x0, x1, x2, x3, x4, x5, x6, x7, x8]) S := nr rfl
theorem lstMK_9 {x0 x1 x2 x3 x4 x5 x6 x7 x8 : D} {S : Store} : lstMK [x0, x1, x2, x3, x4, x5, x6, x7, x8] S = .ok (.loc S.length) (S ++ [.lst [x0, x1, x2, x3, x4, x5, x6, x7, x8]]) := nr rfl
theorem tupK_10 {x0 x1 x2 x3 x4 x5 x6 x7 x8 x9 : D} {S : Store} : tupK [x0, x1, x2, x3, x4, x5, x6, x7, x8, x9] S = .ok (.tup [x0, x1, x2, x3, x4, x5, x6, x7, x8, x9]) S := nr rfl
theorem lstK_10 {x0 x1 x2 x3 x4 x5 x6 x7 x8 x9 : D} {S : Store} : lstK [x0, x1, x2, x3, x4, x5, x6, x7, x8, x9] S = .ok (.lst [x0, x1, x2, x3, x4, x5, x6, x7, x8, x9]) S := nr rfl
theorem lstMK_10 {x0 x1 x2 x3 x4 x5 x6 x7 x8 x9 : D} {S : Store} : lstMK [x0, x1, x2, x3, x4, x5, x6, x7, x8, x9] S = .ok (.loc S.length) (S ++ [.lst [x0, x1, x2, x3, x4, x5, x6, x7, x8, x9]]) := nr rfl
theorem tupK_11 {x0 x1 x2 x3 x4 x5 x6 x7 x8 x9 x10 : D} {S : Store} : tupK [x0, x1, x2, x3, x4, x5, x6, x7, x8, x9, x10] S = .ok (.tup [x0, x1, x2, x3, x4, x5, x6, x7, x8, x9, x10]) S := nr rfl
theorem lstK_11 {x0 x1 x2 x3 x4 x5 x6 x7 x8 x9 x10 : D} {S : Store} : lstK [x0, x1, x2, x3, x4, x5, x6, x7, x8, x9, x10] S = .ok (.lst [x0, x1, x2, x3, x4, x5, x6, x7, x8, x9, x10]) S := nr rfl
theorem lstMK_11 {x0 x1 x2 x3 x4 x5 x6 x7 x8 x9 x10 : D} {S : Store} : lstMK [x0, x1, x2, x3, x4, x5, x6, x7, x8, x9, x10] S = .ok (.loc S.length) (S ++ [.lst [x0, x1, x2, x3, x4, x5, x6, x7, x8, x9, x10]]) := nr rfl
theorem tupK_12 {x0 x1 x2 x3 x4 x5 x6 x7 x8 x9 x10 x11 : D} {S : Store} : tupK [x0, x1, x2, x3, x4, x5, x6, x7, x8, x9, x10, x11] S = .ok (.tup [x0, x1, x2, x3, x4, x5, x6, x7, x8, x9, x10, x11]) S := nr rfl
theorem lstK_12 {x0 x1 x2 x3 x4 x5 x6 x7 x8 x9 x10 x11 : D} {S : Store} : lstK [x0, x1, x2, x3, x4, x5, x6, x7, x8, x9, x10, x11] S = .ok (.lst [x0, x1, x2, x3, x4, x5, x6, x7, x8, x9, x10, x11]) S := nr rfl
theorem lstMK_12 {x0 x1 x2 x3 x4 x5 x6 x7 x8 x9 x10 x11 : D} {S : Store} : lstMK [x0, x1, x2, x3, x4, x5, x6, x7, x8, x9, x10, x11] S = .ok (.loc S.length) (S ++ [.lst [x0, x1, x2, x3, x4, x5, x6, x7, x8, x9, x10, x11]]) := nr rfl
theorem tupK_13 {x0 x1 x2 x3 x4 x5 x6 x7 x8 x9 x10 x11 x12 : D} {S : Store} : tupK [x0, x1, x2, x3, x4, x5, x6, x7, x8, x9, x10, x11, x12] S = .ok (.tup [x0, x1, x2, x3, x4, x5, x6, x7, x8, x9, x10, x11, x12]) S := nr rfl
theorem tupK_14 {x0 x1 x2 x3 x4 x5 x6 x7 x8 x9 x10 x11 x12 x13 : D} {S : Store} : tupK [x0, x1, x2, x3, x4, x5, x6, x7, x8, x9, x10, x11, x12, x13] S = .ok (.tup [x0, x1, x2, x3, x4, x5, x6, x7, x8, x9, x10, x11, x12, x13]) S := nr rfl
theorem tupK_15 {x0 x1 x2 x3 x4 x5 x6 x7 x8 x9 x10 x11 x12 x13 x14 : D} {S : Store} : tupK [x0, x1, x2, x3, x4, x5, x6, x7, x8, x9, x10, x11, x12, x13, x14] S = .ok (.tup [x0, x1, x2, x3, x4, x5, x6, x7, x8, x9, x10, x11, x12, x13, x14]) S := nr rfl
theorem tupK_16 {x0 x1 x2 x3 x4 x5 x6 x7 x8 x9 x10 x11 x12 x13 x14 x15 : D} {S : Store} : tupK [x0, x1, x2, x3, x4, x5, x6, x7, x8, x9, x10, x11, x12, x13, x14, x15] S = .ok (.tup [x0, x1, x2, x3, x4, x5, x6, x7, x8, x9, x10, x11, x12, x13, x14, x15]) S := nr rfl
theorem tupK_17 {x0 x1 x2 x3 x4 x5 x6 x7 x8 x9 x10 x11 x12 x13 x14 x15 x16 : D} {S : Store} : tupK [x0, x1, x2, x3, x4, x5, x6, x7, x8, x9, x10, x11, x12, x13, x14, x15, x16] S = .ok (.tup [x0, x1, x2, x3, x4, x5, x6, x7, x8, x9, x10, x11, x12, x13, x14, x15, x16]) S := nr rfl
theorem tupK_18 {x0 x1 x2 x3 x4 x5 x6 x7 x8 x9 x10 x11 x12 x13 x14 x15 x16 x17 : D} {S : Store} : tupK [x0, x1, x2, x3, x4, x5, x6, x7, x8, x9, x10, x11, x12, x13, x14, x15, x16, x17] S = .ok (.tup [x0, x1, x2, x3, x4, x5, x6, x7, x8, x9, x10, x11, x12, x13, x14, x15, x16, x17]) S := nr rfl
theorem tupK_19 {x0 x1 x2 x3 x4 x5 x6 x7 x8 x9 x10 x11 x12 x13 x14 x15 x16 x17 x18 : D} {S : Store} : tupK [x0, x1, x2, x3, x4, x5, x6, x7, x8, x9, x10, x11, x12, x13, x14, x15, x16, x17, x18] S = .ok (.tup [x0, x1, x2, x3, x4, x5, x6, x7, x8, x9, x10, x11, x12, x13, x14, x15, x16, x17, x18]) S := nr rfl
theorem tupK_20 {x0 x1 x2 x3 x4 x5 x6 x7 x8 x9 x10 x11 x12 x13 x14 x15 x16 x17 x18 x19 : D} {S : Store} : tupK [x0, x1, x2, x3, x4, x5, x6, x7, x8, x9, x10, x11, x12, x13, x14, x15, x16, x17, x18, x19] S = .ok (.tup [x0, x1, x2, x3, x4, x5, x6, x7, x8, x9, x10, x11, x12, x13, x14, x15, x16, x17, x18, x19]) S := nr rfl
theorem tupK_21 {x0 x1 x2 x3 x4 x5 x6 x7 x8 x9 x10 x11 x12 x13 x14 x15 x16 x17 x18 x19 x20 : D} {S : Store} : tupK [x0, x1, x2, x3, x4, x5, x6, x7, x8, x9, x10, x11, x12, x13, x14, x15, x16, x17, x18, x19, x20] S = .ok (.tup [x0, x1, x2, x3, x4, x5, x6, x7, x8, x9, x10, x11, x12, x13, x14, x15, x16, x17, x18, x19, x20]) S := nr rfl
theorem tupK_22 {x0 x1 x2 x3 x4 x5 x6 x7 x8 x9 x10 x11 x12 x13 x14 x15 x16 x17 x18 x19 x20 x21 : D} {S : Store} : tupK [x0, x1, x2, x3, x4, x5, x6, x7, x8, x9, x10, x11, x12, x13, x14, x15, x16, x17, x18, x19, x20, x21] S = .ok (.tup [x0, x1, x2, x3, x4, x5, x6, x7, x8, x9, x10, x11, x12, x13, x14, x15, x16, x17, x18, x19, x20, x21]) S := nr rfl
theorem tupK_23 {x0 x1 x2 x3 x4 x5 x6 x7 x8 x9 x10 x11 x12 x13 x14 x15 x16 x17 x18 x19 x20 x21 x22 : D} {S : Store} : tupK [x0, x1, x2, x3, x4, x5, x6, x7, x8, x9, x10, x11, x12, x13, x14, x15, x16, x17, x18, x19, x20, x21, x22] S = .ok (.tup [x0, x1, x2, x3, x4, x5, x6, x7, x8, x9, x10, x11, x12, x13, x14, x15, x16, x17, x18, x19, x20, x21, x22]) S := nr rfl
theorem tupK_24 {x0 x1 x2 x3 x4 x5 x6 x7 x8 x9 x10 x11 x12 x13 x14 x15 x16 x17 x18 x19 x20 x21 x22 x23 : D} {S : Store} : tupK [x0, x1, x2, x3, x4, x5, x6, x7, x8, x9, x10, x11, x12, x13, x14, x15, x16, x17, x18, x19, x20, x21, x22, x23] S = .ok (.tup [x0, x1, x2, x3, x4, x5, x6, x7, x8, x9, x10, x11, x12, x13, x14, x15, x16, x17, x18, x19, x20, x21, x22, x23]) S := nr rfl
theorem lstK_13 {x0 x1 x2 x3 x4 x5 x6 x7 x8 x9 x10 x11 x12 : D} {S : Store} : lstK [x0, x1, x2, x3, x4, x5, x6, x7, x8, x9, x10, x11, x12] S = .ok (.lst [x0, x1, x2, x3, x4, x5, x6, x7, x8, x9, x10, x11, x12]) S := nr rfl
theorem lstK_14 {x0 x1 x2 x3 x4 x5 x6 x7 x8 x9 x10 x11 x12 x13 : D} {S : Store} : lstK [x0, x1, x2, x3, x4, x5, x6, x7, x8, x9, x10, x11, x12, x13] S = .ok (.lst [x0, x1, x2, x3, x4, x5, x6, x7, x8, x9, x10, x11, x12, x13]) S := nr rfl
theorem lstK_15 {x0 x1 x2 x3 x4 x5 x6 x7 x8 x9 x10 x11 x12 x13 x14 : D} {S : Store} : lstK [x0, x1, x2, x3, x4, x5, x6, x7, x8, x9, x10, x11, x12, x13, x14] S = .ok (.lst [x0, x1, x2, x3, x4, x5, x6, x7, x8, x9, x10, x11, x12, x13, x14]) S := nr rfl
theorem lstK_16 {x0 x1 x2 x3 x4 x5 x6 x7 x8 x9 x10 x11 x12 x13 x14 x15 : D} {S : Store} : lstK [x0, x1, x2, x3, x4, x5, x6, x7, x8, x9, x10, x11, x12, x13, x14, x15] S = .ok (.lst [x0, x1, x2, x3, x4, x5, x6, x7, x8, x9, x10, x11, x12, x13, x14, x15]) S := nr rfl
theorem lstK_17 {x0 x1 x2 x3 x4 x5 x6 x7 x8 x9 x10 x11 x12 x13 x14 x15 x16 : D} {S : Store} : lstK [x0, x1, x2, x3, x4, x5, x6, x7, x8, x9, x10, x11, x12, x13, x14, x15, x16] S = .ok (.lst [x0, x1, x2, x3, x4, x5, x6, x7, x8, x9, x10, x11, x12, x13, x14, x15, x16]) S := nr rfl
theorem lstK_18 {x0 x1 x2 x3 x4 x5 x6 x7 x8 x9 x10 x11 x12 x13 x14 x15 x16 x17 : D} {S : Store} : lstK [x0, x1, x2, x3, x4, x5, x6, x7, x8, x9, x10, x11, x12, x13, x14, x15, x16, x17] S = .ok (.lst [x0, x1, x2, x3, x4, x5, x6, x7, x8, x9, x10, x11, x12, x13, x14, x15, x16, x17]) S := nr rfl
theorem lstK_19 {x0 x1 x2 x3 x4 x5 x6 x7 x8 x9 x10 x11 x12 x13 x14 x15 x16 x17 x18 : D} {S : Store} : lstK [x0, x1, x2, x3, x4, x5, x6, x7, x8, x9, x10, x11, x12, x13, x14, x15, x16, x17, x18] S = .ok (.lst [x0, x1, x2, x3, x4, x5, x6, x7, x8, x9, x10, x11, x12, x13, x14, x15, x16, x17, x18]) S := nr rfl
theorem lstK_20 {x0 x1 x2 x3 x4 x5 x6 x7 x8 x9 x10 x11 x12 x13 x14 x15 x16 x17 x18 x19 : D} {S : Store} : lstK [x0, x1, x2, x3, x4, x5, x6, x7, x8, x9, x10, x11, x12, x13, x14, x15, x16, x17, x18, x19] S = .ok (.lst [x0, x1, x2, x3, x4, x5, x6, x7, x8, x9, x10, x11, x12, x13, x14, x15, x16, x17, x18, x19]) S := nr rfl
theorem lstK_21 {x0 x1 x2 x3 x4 x5 x6 x7 x8 x9 x10 x11 x12 x13 x14 x15 x16 x17 x18 x19 x20 : D} {S : Store} : lstK [x0, x1, x2, x3, x4, x5, x6, x7, x8, x9, x10, x11, x12, x13, x14, x15, x16, x17, x18, x19, x20] S = .ok (.lst [x0, x1, x2, x3, x4, x5, x6, x7, x8, x9, x10, x11, x12, x13, x14, x15, x16, x17, x18, x19, x20]) S := nr rfl
theorem lstK_22 {x0 x1 x2 x3 x4 x5 x6 x7 x8 x9 x10 x11 x12 x13 x14 x15 x16 x17 x18 x19 x20 x21 : D} {S : Store} : lstK [x0, x1, x2, x3, x4, x5, x6, x7, x8, x9, x10, x11, x12, x13, x14, x15, x16, x17, x18, x19, x20, x21] S = .ok (.lst [x0, x1, x2, x3, x4, x5, x6, x7, x8, x9, x10, x11, x12, x13, x14, x15, x16, x17, x18, x19, x20, x21]) S := nr rfl
theorem lstK_23 {x0 x1 x2 x3 x4 x5 x6 x7 x8 x9 x10 x11 x12 x13 x14 x15 x16 x17 x18 x19 x20 x21 x22 : D} {S : Store} : lstK [x0, x1, x2, x3, x4, x5, x6, x7, x8, x9, x10, x11, x12, x13, x14, x15, x16, x17, x18, x19, x20, x21, x22] S = .ok (.lst [x0, x1, x2, x3, x4, x5, x6, x7, x8, x9, x10, x11, x12, x13, x14, x15, x16, x17, x18, x19, x20, x21, x22]) S := nr rfl
theorem lstK_24 {x0 x1 x2 x3 x4 x5 x6 x7 x8 x9 x10 x11 x12 x13 x14 x15 x16 x17 x18 x19 x20 x21 x22 x23 : D} {S : Store} : lstK [x0, x1, x2, x3, x4, x5, x6, x7, x8, x9, x10, x11, x12, x13, x14, x15, x16, x17, x18, x19, x20, x21, x22, x23] S = .ok (.lst [x0, x1, x2, x3, x4, x5, x6, x7, x8, x9, x10, x11, x12, x13, x14, x15, x16, x17, x18, x19, x20, x21, x22, x23]) S := nr rfl
theorem app_set {S : Store} {o o' : O} : (S ++ [o]).set S.length o' = S ++ [o'] := by
  induction S with
  | nil => rfl
  | cons x S ih => show x :: (S ++ [o]).set S.length o' = x :: (S ++ [o']); rw [ih]
/-! isinstance -/
section
variable {S : Store} {x y : D} {i : Int} {n : Nat} {xs ys : List D}
theorem tyOf_non : tyOf S .non = some .NoneType := nr rfl
theorem tyOf_bl {k : Bool} : tyOf S (.bl k) = some .bool := nr rfl
theorem tyOf_int : tyOf S (.int i) = some .int := nr rfl
theorem tyOf_str {z : Str} : tyOf S (.str z) = some .str := nr rfl
theorem tyOf_tup : tyOf S (.tup xs) = some .tuple := nr rfl
theorem tyOf_lst : tyOf S (.lst xs) = some .list := nr rfl
theorem tyOf_locL (h : S[n]? = some (.lst xs)) : tyOf S (.loc n) = some .list := by
  show (match S[n]? with
    | some (.lst _) => some Ty.list
    | some (.frz _) => some Ty.list
    | some (.dK _) => some Ty.dict
    | some (.dT _) => some Ty.dict
    | _ => none) = _
  rw [h]
def isiK (a b : Option Ty) (S : Store) : R D := match a, b with
  | some a, some t => .ok (.bl (isTy a t)) S
  | _, _ => .no
theorem isiV_ty {m : String} : isiV [x, .ty m] S = isiK (tyOf S x) (tyNm m) S := by
  unfold isiK
  rfl
theorem isiK_s {a b : Ty} : isiK (some a) (some b) S = .ok (.bl (isTy a b)) S := nr rfl
def zipK (ds : List D) (S1 : Store) : R Src := match ds with
  | [.tup xs, .tup ys] => .ok ⟨zipD xs ys, []⟩ S1
  | [x, y] => match srcOf S1 x, srcOf S1 y with
    | some s, some s' => .ok ⟨zipD s.xs s'.xs, s.at_ ++ s'.at_⟩ S1
    | _, _ => .no
  | _ => .no
theorem diZip_ev {a : DAv} {st : DSt} : diZip a st S = (a st S).bind zipK := nr rfl
theorem zipK_t : zipK [.tup xs, .tup ys] S = .ok ⟨zipD xs ys, []⟩ S := nr rfl
theorem zipK_ll : zipK [.lst xs, .lst ys] S = .ok ⟨zipD xs ys, []⟩ S := nr rfl
theorem zipK_ml (h : S[n]? = some (.lst xs)) : zipK [.loc n, .lst ys] S = .ok ⟨zipD xs ys, [(n, xs)]⟩ S := by
  unfold zipK
  simp only [srcOf, h]
  rfl
theorem zipK_lm (h : S[n]? = some (.lst xs)) : zipK [.lst ys, .loc n] S = .ok ⟨zipD ys xs, [(n, xs)]⟩ S := by
  unfold zipK
  simp only [srcOf, h]
  rfl
theorem addV_ll (h : xs.length + ys.length ≤ 1000000) : addV (.lst xs) (.lst ys) S = .ok (.lst (xs ++ ys)) S := if_pos h
theorem addV_tt (h : xs.length + ys.length ≤ 1000000) : addV (.tup xs) (.tup ys) S = .ok (.tup (xs ++ ys)) S := if_pos h
theorem zipD_nil : zipD [] ys = [] := nr rfl
def zipSK (ds : List D) (S1 : Store) : R Src := match ds with
  | [.str x, y] => match srcOf S1 y with
    | some s => .ok ⟨zipD (signsOf x) s.xs, s.at_⟩ S1
    | none => .no
  | _ => .no
theorem diZipS_ev {a : DAv} {st : DSt} : diZipS a st S = (a st S).bind zipSK := nr rfl
theorem zipSK_l {z : Str} : zipSK [.str z, .lst ys] S = .ok ⟨zipD (signsOf z) ys, []⟩ S := nr rfl
end
theorem castLit {n : Nat} : ((no_index (OfNat.ofNat n) : Nat) : Int) = OfNat.ofNat n := rfl
theorem wp_is {r : R D} {v : D} {S : Store} (h : wpE r fun d S' => d = v ∧ S' = S) : r = .ok v S := by
  obtain ⟨a, S1, e, rfl, rfl⟩ := h
  exact e
theorem isTy_NoneType_bool : isTy .NoneType .bool = false := nr rfl
theorem isTy_NoneType_int : isTy .NoneType .int = false := nr rfl
theorem isTy_NoneType_str : isTy .NoneType .str = false := nr rfl
theorem isTy_NoneType_list : isTy .NoneType .list = false := nr rfl
theorem isTy_NoneType_tuple : isTy .NoneType .tuple = false := nr rfl
theorem isTy_NoneType_dict : isTy .NoneType .dict = false := nr rfl
theorem isTy_bool_bool : isTy .bool .bool = true := nr rfl
theorem isTy_bool_int : isTy .bool .int = true := nr rfl
theorem isTy_bool_str : isTy .bool .str = false := nr rfl
theorem isTy_bool_list : isTy .bool .list = false := nr rfl
theorem isTy_bool_tuple : isTy .bool .tuple = false := nr rfl
theorem isTy_bool_dict : isTy .bool .dict = false := nr rfl
theorem isTy_int_bool : isTy .int .bool = false := nr rfl
theorem isTy_int_int : isTy .int .int = true := nr rfl
theorem isTy_int_str : isTy .int .str = false := nr rfl
theorem isTy_int_list : isTy .int .list = false := nr rfl
theorem isTy_int_tuple : isTy .int .tuple = false := nr rfl
theorem isTy_int_dict : isTy .int .dict = false := nr rfl
theorem isTy_str_bool : isTy .str .bool = false := nr rfl
theorem isTy_str_int : isTy .str .int = false := nr rfl
theorem isTy_str_str : isTy .str .str = true := nr rfl
theorem isTy_str_list : isTy .str .list = false := nr rfl
theorem isTy_str_tuple : isTy .str .tuple = false := nr rfl
theorem isTy_str_dict : isTy .str .dict = false := nr rfl
theorem isTy_list_bool : isTy .list .bool = false := nr rfl
theorem isTy_list_int : isTy .list .int = false := nr rfl
theorem isTy_list_str : isTy .list .str = false := nr rfl
theorem isTy_list_list : isTy .list .list = true := nr rfl
theorem isTy_list_tuple : isTy .list .tuple = false := nr rfl
theorem isTy_list_dict : isTy .list .dict = false := nr rfl
theorem isTy_tuple_bool : isTy .tuple .bool = false := nr rfl
theorem isTy_tuple_int : isTy .tuple .int = false := nr rfl
theorem isTy_tuple_str : isTy .tuple .str = false := nr rfl
theorem isTy_tuple_list : isTy .tuple .list = false := nr rfl
theorem isTy_tuple_tuple : isTy .tuple .tuple = true := nr rfl
theorem isTy_tuple_dict : isTy .tuple .dict = false := nr rfl
theorem isTy_dict_bool : isTy .dict .bool = false := nr rfl
theorem isTy_dict_int : isTy .dict .int = false := nr rfl
theorem isTy_dict_str : isTy .dict .str = false := nr rfl
theorem isTy_dict_list : isTy .dict .list = false := nr rfl
theorem isTy_dict_tuple : isTy .dict .tuple = false := nr rfl
theorem isTy_dict_dict : isTy .dict .dict = true := nr rfl
theorem tyNm_bool : tyNm "bool" = some .bool := nr rfl
theorem tyNm_int : tyNm "int" = some .int := nr rfl
theorem tyNm_str : tyNm "str" = some .str := nr rfl
theorem tyNm_list : tyNm "list" = some .list := nr rfl
theorem tyNm_tuple : tyNm "tuple" = some .tuple := nr rfl
theorem tyNm_dict : tyNm "dict" = some .dict := nr rfl
/-! comprehensions into the store, enumerate, slices, in -/
noncomputable def dc1K (g : DGv) (t : DTv) (ek ev : DEv) (st : DSt) (s : Src) (S : Store) : R D := (dcD s S.length g t ek ev st s.xs (S ++ [.dK []])).bind fun _ S2 => .ok (.loc S.length) S2
theorem dDc_ev {i : DIv} {g : DGv} {t : DTv} {ek ev : DEv} {vs : List Nat} {st : DSt} {S : Store} : dDc i g t ek ev vs st S = (i st S).bind (dc1K g t ek ev (wipeD st vs)) := nr rfl
def locK {α : Type} (n : Nat) (_ : α) (S : Store) : R D := .ok (.loc n) S
theorem locK_ev {α : Type} {n : Nat} {u : α} {S : Store} : locK n u S = .ok (.loc n) S := nr rfl
theorem dc1K_ev {g : DGv} {t : DTv} {ek ev : DEv} {st : DSt} {s : Src} {S : Store} : dc1K g t ek ev st s S = (dcD s S.length g t ek ev st s.xs (S ++ [.dK []])).bind (locK S.length) := nr rfl
def dcT3K (n : Nat) (ev : DEv) (st : DSt) (y : D) (S : Store) : R Unit := (ev st S).bind (putC n y)
theorem dcT3K_ev {n : Nat} {ev : DEv} {st : DSt} {y : D} {S : Store} : dcT3K n ev st y S = (ev st S).bind (putC n y) := nr rfl
def dcT2K (n : Nat) (ek ev : DEv) (st : DSt) (k : Bool) (S : Store) : R Unit := if k = true then (ek st S).bind (dcT3K n ev st) else .ok () S
theorem dcT2K_ev {n : Nat} {ek ev : DEv} {st : DSt} {k : Bool} {S : Store} : dcT2K n ek ev st k S = if k = true then (ek st S).bind (dcT3K n ev st) else .ok () S := nr rfl
def dcT1K (n : Nat) (t : DTv) (ek ev : DEv) (st : DSt) (S : Store) : R Unit := (t st S).bind (dcT2K n ek ev st)
theorem dcT1K_ev {n : Nat} {t : DTv} {ek ev : DEv} {st : DSt} {S : Store} : dcT1K n t ek ev st S = (t st S).bind (dcT2K n ek ev st) := nr rfl
theorem dcT_ev {n : Nat} {g : DGv} {t : DTv} {ek ev : DEv} {st : DSt} {x : D} {S : Store} : dcT n g t ek ev st x S = (g x st S).bind (dcT1K n t ek ev) := nr rfl
theorem putC_ok {n : Nat} {y z : D} {q : Key} {kvs : List (Key × D)} {S : Store} (h : keyOf y = some q) (h1 : S[n]? = some (.dK kvs)) (h2 : kvs.length < 1000000) : putC n y z S = .ok () (S.set n (.dK (putA kvs q z))) := by
  unfold putC
  rw [h, h1]
  exact if_pos h2
theorem wp_dc {s : Src} {n : Nat} {g : DGv} {t : DTv} {ek ev : DEv} {st : DSt} {S : Store} {α : Type} {k : Unit → Store → R α} {P : α → Store → Prop} (I : Nat → Store → Prop) (h0 : I 0 S)
    (step : ∀ i x S, s.xs[i]? = some x → I i S → s.held S ∧ wpE (dcT n g t ek ev st x S) fun _ S2 => I (i + 1) S2)
    (done : ∀ S, I s.xs.length S → s.held S ∧ wpE (k () S) P) : wpE ((dcD s n g t ek ev st s.xs S).bind k) P := by
  have go : ∀ (j i : Nat) (S : Store), s.xs.length - i = j → i ≤ s.xs.length → I i S → wpE ((dcD s n g t ek ev st (s.xs.drop i) S).bind k) P := by
    intro j
    induction j with
    | zero =>
      intro i S e1 hi h
      have e1 : i = s.xs.length := by omega
      subst e1
      obtain ⟨h1, h2⟩ := done S h
      rw [List.drop_length]
      unfold dcD
      rw [if_pos h1]
      exact h2
    | succ j ih =>
      intro i S e1 hi h
      have hlt : i < s.xs.length := by omega
      obtain ⟨h1, h2⟩ := step i _ S (List.getElem?_eq_getElem hlt) h
      rw [List.drop_eq_getElem_cons hlt]
      unfold dcD
      rw [if_pos h1]
      obtain ⟨o, S2, q, h2⟩ := h2
      rw [q]
      exact ih (i + 1) S2 (by omega) hlt h2
  exact go _ 0 S rfl (Nat.zero_le _) h0
noncomputable def lm1K (g : DGv) (t : DTv) (e : DEv) (st : DSt) (s : Src) (S : Store) : R D := (lmD s S.length g t e st s.xs (S ++ [.lst []])).bind fun _ S2 => .ok (.loc S.length) S2
theorem dLm_ev {i : DIv} {g : DGv} {t : DTv} {e : DEv} {vs : List Nat} {st : DSt} {S : Store} : dLm i g t e vs st S = (i st S).bind (lm1K g t e (wipeD st vs)) := nr rfl
theorem lm1K_ev {g : DGv} {t : DTv} {e : DEv} {st : DSt} {s : Src} {S : Store} : lm1K g t e st s S = (lmD s S.length g t e st s.xs (S ++ [.lst []])).bind (locK S.length) := nr rfl
def lmT2K (n : Nat) (e : DEv) (st : DSt) (k : Bool) (S : Store) : R Unit := if k = true then (e st S).bind (putL n) else .ok () S
theorem lmT2K_ev {n : Nat} {e : DEv} {st : DSt} {k : Bool} {S : Store} : lmT2K n e st k S = if k = true then (e st S).bind (putL n) else .ok () S := nr rfl
def lmT1K (n : Nat) (t : DTv) (e : DEv) (st : DSt) (S : Store) : R Unit := (t st S).bind (lmT2K n e st)
theorem lmT1K_ev {n : Nat} {t : DTv} {e : DEv} {st : DSt} {S : Store} : lmT1K n t e st S = (t st S).bind (lmT2K n e st) := nr rfl
theorem lmT_ev {n : Nat} {g : DGv} {t : DTv} {e : DEv} {st : DSt} {x : D} {S : Store} : lmT n g t e st x S = (g x st S).bind (lmT1K n t e) := nr rfl
theorem putL_ok {n : Nat} {y : D} {acc : List D} {S : Store} (h1 : S[n]? = some (.lst acc)) (h2 : acc.length < 1000000) : putL n y S = .ok () (S.set n (.lst (acc ++ [y]))) := by
  unfold putL
  rw [h1]
  exact if_pos h2
theorem wp_lm {s : Src} {n : Nat} {g : DGv} {t : DTv} {e : DEv} {st : DSt} {S : Store} {α : Type} {k : Unit → Store → R α} {P : α → Store → Prop} (I : Nat → Store → Prop) (h0 : I 0 S)
    (step : ∀ i x S, s.xs[i]? = some x → I i S → s.held S ∧ wpE (lmT n g t e st x S) fun _ S2 => I (i + 1) S2)
    (done : ∀ S, I s.xs.length S → s.held S ∧ wpE (k () S) P) : wpE ((lmD s n g t e st s.xs S).bind k) P := by
  have go : ∀ (j i : Nat) (S : Store), s.xs.length - i = j → i ≤ s.xs.length → I i S → wpE ((lmD s n g t e st (s.xs.drop i) S).bind k) P := by
    intro j
    induction j with
    | zero =>
      intro i S e1 hi h
      have e1 : i = s.xs.length := by omega
      subst e1
      obtain ⟨h1, h2⟩ := done S h
      rw [List.drop_length]
      unfold lmD
      rw [if_pos h1]
      exact h2
    | succ j ih =>
      intro i S e1 hi h
      have hlt : i < s.xs.length := by omega
      obtain ⟨h1, h2⟩ := step i _ S (List.getElem?_eq_getElem hlt) h
      rw [List.drop_eq_getElem_cons hlt]
      unfold lmD
      rw [if_pos h1]
      obtain ⟨o, S2, q, h2⟩ := h2
      rw [q]
      exact ih (i + 1) S2 (by omega) hlt h2
  exact go _ 0 S rfl (Nat.zero_le _) h0
theorem dYes_ev {st : DSt} {S : Store} : dYes st S = .ok true S := nr rfl
def enumK (ds : List D) (S1 : Store) : R Src := match ds with
  | [x] => match srcOf S1 x with
    | some s => .ok ⟨(List.range s.xs.length).map fun (k : Nat) => .tup [.int (k : Int), s.xs.getD k .non], s.at_⟩ S1
    | none => .no
  | _ => .no
theorem diEnum_ev {a : DAv} {st : DSt} {S : Store} : diEnumerate a st S = (a st S).bind enumK := nr rfl
def enumL (xs : List D) : List D := (List.range xs.length).map fun (k : Nat) => .tup [.int (k : Int), xs.getD k .non]
theorem enumL_len {xs : List D} : (enumL xs).length = xs.length := by simp [enumL]
theorem enumL_get {xs : List D} {i : Nat} {y : D} (h : (enumL xs)[i]? = some y) : ∃ x, xs[i]? = some x ∧ y = .tup [.int (i : Int), x] := by
  unfold enumL at h
  rw [List.getElem?_map] at h
  by_cases hi : i < xs.length
  · rw [List.getElem?_range hi] at h
    cases h
    exact ⟨xs[i], List.getElem?_eq_getElem hi, by simp [List.getD_eq_getElem?_getD, List.getElem?_eq_getElem hi]⟩
  · rw [List.getElem?_eq_none (by simpa using Nat.le_of_not_lt hi)] at h
    cases h
theorem enumK_l {xs : List D} {S : Store} : enumK [.lst xs] S = .ok ⟨enumL xs, []⟩ S := nr rfl
theorem enumK_m {n : Nat} {xs : List D} {S : Store} (h : S[n]? = some (.lst xs)) : enumK [.loc n] S = .ok ⟨enumL xs, [(n, xs)]⟩ S := by
  unfold enumK
  simp only [srcOf, h]
  rfl
theorem slV_t {xs : List D} {lo hi : Option Int} {S : Store} : slV (.tup xs) lo hi S = .ok (.tup (cutD xs lo hi)) S := nr rfl
theorem slV_l {xs : List D} {lo hi : Option Int} {S : Store} : slV (.lst xs) lo hi S = .ok (.lst (cutD xs lo hi)) S := nr rfl
theorem slV_m {n : Nat} {xs : List D} {lo hi : Option Int} {S : Store} (h : S[n]? = some (.lst xs)) : slV (.loc n) lo hi S = .ok (.lst (cutD xs lo hi)) S := by
  unfold slV
  simp only [lsOf, h]
theorem cutD_to {xs : List D} {k : Nat} : cutD xs none (some (k : Int)) = xs.take k := by
  unfold cutD
  rw [HT.sIx_none, HT.sIx_nat]
  simp only [List.drop_zero, Nat.sub_zero]
  rw [List.take_eq_take_iff]
  omega
theorem listV_l {xs : List D} {S : Store} : listV [.lst xs] S = .ok (.lst xs) S := nr rfl
theorem listV_m {n : Nat} {xs : List D} {S : Store} (h : S[n]? = some (.lst xs)) : listV [.loc n] S = .ok (.lst xs) S := by
  unfold listV
  simp only [sqOf, lsOf, h]
theorem notInV_dk {n : Nat} {i : Int} {kvs : List (Key × D)} {S : Store} (h : S[n]? = some (.dK kvs)) : notInV' (.int i) (.loc n) S = .ok (.bl (!(lookA kvs (.inl i)).isSome)) S := by
  unfold notInV' inC
  simp only [sqOf, lsOf, dGetO, h, keyOf, Option.map_some]
theorem notInV_ints {i : Int} {is : List Int} {S : Store} : notInV' (.int i) (.lst (is.map D.int)) S = .ok (.bl (!decide (i ∈ is))) S := by
  have a : (is.map D.int).all flatD = true := by
    induction is with
    | nil => rfl
    | cons x xs ih => rw [List.map_cons, List.all_cons, ih]; rfl
  have b : ((is.map D.int).any fun u => eqF u (.int i)) = decide (i ∈ is) := by
    induction is with
    | nil => simp
    | cons x xs ih =>
      rw [List.map_cons, List.any_cons, ih (by rw [List.map_cons, List.all_cons, Bool.and_eq_true] at a; exact a.2)]
      show ((x == i) || decide (i ∈ xs)) = _
      by_cases e : x = i
      · subst e
        simp
      · have e' : ¬ i = x := fun z => e z.symm
        simp [e, e']
  unfold notInV' inC
  simp only [sqOf, lsOf, a, b, and_true, flatD, if_true]
def downK (ds : List D) (S1 : Store) : R Src := match ds with
  | [.int i, .int j, .int c] => if c = -1 ∧ j < 2 ^ 60 ∧ -(2 ^ 60) ≤ j ∧ i < 2 ^ 60 ∧ -(2 ^ 60) ≤ i then .ok ⟨downD i (i - j).toNat, []⟩ S1 else .no
  | _ => .no
theorem diDown_ev {r : DAv} {st : DSt} {S : Store} : diDown r st S = (r st S).bind downK := nr rfl
theorem downK_i {i j c : Int} {S : Store} (hc : c = -1) (h0 : j < 2 ^ 60) (h1 : -(2 ^ 60) ≤ j) (h2 : i < 2 ^ 60) (h3 : -(2 ^ 60) ≤ i) : downK [.int i, .int j, .int c] S = .ok ⟨downD i (i - j).toNat, []⟩ S := if_pos ⟨hc, h0, h1, h2, h3⟩
theorem downD_len {i : Int} {n : Nat} : (downD i n).length = n := by simp [downD]
theorem downD_get {lo : Int} {n i : Nat} {x : D} (h : (downD lo n)[i]? = some x) : i < n ∧ x = .int (lo + (i : Int) * (-1)) := by
  have hi : i < n := by
    have := (List.getElem?_eq_some_iff.mp h).1
    rw [downD_len] at this
    exact this
  unfold downD at h
  rw [List.getElem?_map, List.getElem?_range hi] at h
  cases h
  exact ⟨hi, rfl⟩
theorem BagAt.put {S : Store} {b n : Nat} {o : O} (h : BagAt S b) (ne : n ≠ b) : BagAt (S.set n o) b := by
  obtain ⟨u, v, e⟩ := h
  exact ⟨u, v, by rw [List.getElem?_set_ne ne]; exact e⟩
theorem set_at {S : Store} {n : Nat} {o o' : O} (h : S[n]? = some o) : (S.set n o')[n]? = some o' := List.getElem?_set_self (List.getElem?_eq_some_iff.mp h).1
/-! truths among ints; texts -/
section
variable {S : Store} {x y : D} {i j : Int} {k : Bool} {z u : Str} {xs ys : List D} {n : Nat}
theorem addB_i : addB (.int i) (.int j) S = .ok (.int (i + j)) S := nr rfl
theorem addB_b : addB (.bl k) (.int j) S = .ok (.int (b2 k + j)) S := nr rfl
theorem addV_s' (h : z.length + u.length ≤ 1000000) : addV (.str z) (.str u) S = .ok (.str (z ++ u)) S := if_pos h
theorem addB_s' (h : z.length + u.length ≤ 1000000) : addB (.str z) (.str u) S = .ok (.str (z ++ u)) S := if_pos h
theorem addB_ll (h : xs.length + ys.length ≤ 1000000) : addB (.lst xs) (.lst ys) S = .ok (.lst (xs ++ ys)) S := if_pos h
theorem subB_i : subB (.int i) (.int j) S = .ok (.int (i - j)) S := nr rfl
theorem subB_b : subB (.bl k) (.int j) S = .ok (.int (b2 k - j)) S := nr rfl
theorem mulB_b : mulB (.bl k) (.int j) S = .ok (.int (b2 k * j)) S := nr rfl
theorem mulB_r (h0 : -(2 ^ 64) < j) (h1 : j < 2 ^ 64) : mulB (.int i) (.int j) S = .ok (.int (i * j)) S := mulV_r h0 h1
theorem negB_i : negB (.int i) S = .ok (.int (-i)) S := nr rfl
theorem negB_b : negB (.bl k) S = .ok (.int (-(b2 k))) S := nr rfl
theorem strB_b : strB [.bl k] S = .ok (.str (if k then "True" else "False")) S := nr rfl
theorem strB_i (h : i.natAbs.log2 < 1920 ∧ okStr (toString i : String) = true) : strB [.int i] S = .ok (.str (toString i : String)) S := if_pos h
theorem neL_i : neL (.int i) (.int j) S = .ok (.bl (!(i == j))) S := neV_i
theorem neL_l0 : neL (.lst xs) (.lst []) S = .ok (.bl (!xs.isEmpty)) S := by
  cases xs with
  | nil => rfl
  | cons x xs => rfl
theorem slV_z {lo hi : Option Int} : slV (.str z) lo hi S = .ok (.str (cutS z lo hi)) S := nr rfl
theorem isStr_s : isStr S (.str z) = true := nr rfl
theorem mtK_s {F : D → List D → Store → R D} {r : DAv} {st : DSt} : mtK isStr F r st (.str z) S = (r st S).bind (F (.str z)) := if_pos rfl
theorem upperV_ok (h : z.length ≤ 5592405 ∧ okStr (Txt.upper z) = true) : upperV (.str z) [] S = .ok (.str (Txt.upper z)) S := if_pos h
theorem tupV_t : tupV [.tup xs] S = .ok (.tup xs) S := nr rfl
theorem tupV_l : tupV [.lst xs] S = .ok (.tup xs) S := nr rfl
theorem tupV_m (h : S[n]? = some (.lst xs)) : tupV [.loc n] S = .ok (.tup xs) S := by
  unfold tupV
  simp only [lsOf, h]
theorem listM_t : listM [.tup xs] S = .ok (.loc S.length) (S ++ [.lst xs]) := nr rfl
theorem listM_l : listM [.lst xs] S = .ok (.loc S.length) (S ++ [.lst xs]) := nr rfl
theorem listM_m (h : S[n]? = some (.lst xs)) : listM [.loc n] S = .ok (.loc S.length) (S ++ [.lst xs]) := by
  unfold listM
  simp only [sqOf, lsOf, h]
def isiTK (a : Option Ty) (ts : List D) (S : Store) : R D := match a with
  | some a => match isAny a ts with
    | some k => .ok (.bl k) S
    | none => .no
  | none => .no
theorem isiV_tup {ts : List D} : isiV [x, .tup ts] S = isiTK (tyOf S x) ts S := nr rfl
theorem isiTK_tl {a : Ty} : isiTK (some a) [.ty "tuple", .ty "list"] S = .ok (.bl (isTy a .tuple || isTy a .list)) S := by cases a <;> rfl
def getK (o : D) (y : D) (u : D) (S : Store) : R D := getC o y u S
theorem getK_ev {o : D} : getK o y x S = getC o y x S := nr rfl
def dget2K (z : DEv) (st : DSt) (d y : D) (S : Store) : R D := (z st S).bind (getK d y)
theorem dget2K_ev {z : DEv} {st : DSt} {d : D} : dget2K z st d y S = (z st S).bind (getK d y) := nr rfl
def dget1K (k z : DEv) (st : DSt) (d : D) (S : Store) : R D := if isDct S d = true then (k st S).bind (dget2K z st d) else .no
theorem dget1K_ev {k z : DEv} {st : DSt} {d : D} (h : isDct S d = true) : dget1K k z st d S = (k st S).bind (dget2K z st d) := if_pos h
theorem dDget_ev {o k z : DEv} {st : DSt} : dDget o k z st S = (o st S).bind (dget1K k z st) := nr rfl
def dpopK (o y u : D) (S : Store) : R D := dpopC o y u S
theorem dpopK_ev {o : D} : dpopK o y x S = dpopC o y x S := nr rfl
def dpop2K (z : DEv) (st : DSt) (d y : D) (S : Store) : R D := (z st S).bind (dpopK d y)
theorem dpop2K_ev {z : DEv} {st : DSt} {d : D} : dpop2K z st d y S = (z st S).bind (dpopK d y) := nr rfl
def dpop1K (k z : DEv) (st : DSt) (d : D) (S : Store) : R D := if isDct S d = true then (k st S).bind (dpop2K z st d) else .no
theorem dpop1K_ev {k z : DEv} {st : DSt} {d : D} (h : isDct S d = true) : dpop1K k z st d S = (k st S).bind (dpop2K z st d) := if_pos h
theorem dDpop_ev {o k z : DEv} {st : DSt} : dDpop o k z st S = (o st S).bind (dpop1K k z st) := nr rfl
theorem isDct_k {kvs : List (Key × D)} (h : S[n]? = some (.dK kvs)) : isDct S (.loc n) = true := by
  unfold isDct
  simp only [h]
theorem dpopC_k {kvs : List (Key × D)} (h : S[n]? = some (.dK kvs)) (y : D) (q : Key) (hq : keyOf y = some q) : dpopC (.loc n) y x S = match lookA kvs q with
  | some v => .ok v (S.set n (.dK (dropA kvs q)))
  | none => .ok x S := by
  unfold dpopC
  simp only [hq, h] <;> (cases lookA kvs q <;> rfl)
theorem lenV_dk {kvs : List (Key × D)} (h : S[n]? = some (.dK kvs)) : lenV [.loc n] S = .ok (.int kvs.length) S := by
  unfold lenV
  simp only [sqOf, lsOf, dictLen, h]
def parK (i j : Nat) (st : DSt) (ds : List D) (S : Store) : R Fl := match ds with
  | [x, y] => .ok (.nx ((st.set i (some x)).set j (some y))) S
  | _ => .no
theorem parK_2 {i j : Nat} {st : DSt} : parK i j st [x, y] S = .ok (.nx ((st.set i (some x)).set j (some y))) S := nr rfl
theorem dPar_ev {i j : Nat} {a : DAv} {st : DSt} : dPar i j a st S = (a st S).bind (parK i j st) := nr rfl
theorem dNewK_ev {st : DSt} : dNewK st S = .ok (.loc S.length) (S ++ [.dK []]) := nr rfl
theorem setO_k {kvs : List (Key × D)} {q : Key} (h : S[n]? = some (.dK kvs)) (hq : keyOf y = some q) (hl : kvs.length < 1000000) : setO (.loc n) y x S = .ok () (S.set n (.dK (putA kvs q x))) := by
  unfold setO
  simp only [h, hq, hl, if_true]
theorem eqL_s' : eqL (.str z) (.str u) S = .ok (.bl (z == u)) S := eqV_s'
theorem eqL_i : eqL (.int i) (.int j) S = .ok (.bl (i == j)) S := eqV_i
theorem eqL_l0 : eqL (.lst xs) (.lst []) S = .ok (.bl xs.isEmpty) S := by
  cases xs with
  | nil => rfl
  | cons x xs => rfl
theorem dgStar3_3 {gs : DGsv} {st : DSt} {a b c : D} : dgStar 3 gs (.tup [a, b, c]) st S = gs [a, b, c, .lst []] st S := nr rfl
theorem dgStar3_4 {gs : DGsv} {st : DSt} {a b c : D} : dgStar 3 gs (.tup [a, b, c, x]) st S = gs [a, b, c, .lst [x]] st S := nr rfl
theorem dCnt_ev {a : DEv} {st : DSt} : dCnt a st S = (a st S).bind cntV := nr rfl
theorem cntV_l {is : List Int} (h : intsOf xs = some is) (hl : is.length < 4000) : cntV (.lst xs) S = .ok (.int (cntI is : Nat)) S := by
  unfold cntV
  show (match intsOf xs with
    | some ns => if ns.length < 4000 then R.ok (D.int (cntI ns : Nat)) S else .no
    | none => .no) = _
  rw [h]
  exact if_pos hl
theorem intsOf_map : ∀ is : List Int, intsOf (is.map D.int) = some is
  | [] => rfl
  | i :: is => by
    rw [List.map_cons]
    show (intsOf (is.map D.int)).map (i :: ·) = _
    rw [intsOf_map is]
    rfl
def p3K (x y : D) (ds : List (D × D)) (S : Store) : R (List (D × D)) := .ok ((x, y) :: ds) S
theorem p3K_ev {ds : List (D × D)} : p3K x y ds S = .ok ((x, y) :: ds) S := nr rfl
def p2K (r : DPv2) (st : DSt) (x y : D) (S : Store) : R (List (D × D)) := (r st S).bind (p3K x y)
theorem p2K_ev {r : DPv2} {st : DSt} : p2K r st x y S = (r st S).bind (p3K x y) := nr rfl
def p1K (b : DEv) (r : DPv2) (st : DSt) (x : D) (S : Store) : R (List (D × D)) := (b st S).bind (p2K r st x)
theorem p1K_ev {b : DEv} {r : DPv2} {st : DSt} : p1K b r st x S = (b st S).bind (p2K r st x) := nr rfl
theorem dP1_ev {a b : DEv} {r : DPv2} {st : DSt} : dP1 a b r st S = (a st S).bind (p1K b r st) := nr rfl
theorem dP0_ev {st : DSt} : dP0 st S = .ok [] S := nr rfl
theorem dDisp_ev {d : DPv2} {st : DSt} : dDisp d st S = (d st (S ++ [.dK []])).bind (dispC S.length) := nr rfl
theorem dispC_k {ds : List (D × D)} {kvs : List (Key × D)} (h : S[n]? = some (.dK [])) (hk : keyed ds = some kvs) (hl : kvs.length ≤ 15) : dispC n ds S = .ok (.loc n) (S.set n (.dK (putAll kvs))) := by
  unfold dispC
  simp only [h, hk, hl, if_true]
theorem ixV_dk {kvs : List (Key × D)} {q : Key} (h : S[n]? = some (.dK kvs)) (hq : keyOf y = some q) (hx : lookA kvs q = some x) : ixV (.loc n) y S = .ok x S := by
  have e : sqOf S (.loc n) = none := by
    simp only [sqOf, lsOf, h]
  have g : dGetO S (.loc n) y = some (some x) := by
    simp only [dGetO, h, hq, Option.map_some, hx]
  unfold ixV
  cases y with
  | int i => simp only [e, g]
  | str z => simp only [e, g]
  | _ => cases hq
theorem getC_k {kvs : List (Key × D)} {q : Key} (h : S[n]? = some (.dK kvs)) (hq : keyOf y = some q) : getC (.loc n) y x S = .ok ((lookA kvs q).getD x) S := by
  unfold getC
  have g : dGetO S (.loc n) y = some (lookA kvs q) := by
    simp only [dGetO, h, hq, Option.map_some]
  simp only [g] <;> (cases lookA kvs q <;> rfl)
theorem dNewT_ev {st : DSt} : dNewT st S = .ok (.loc S.length) (S ++ [.dT []]) := nr rfl
theorem setO_t {kvs : List (List Key × D)} {q : List Key} (h : S[n]? = some (.dT kvs)) (hq : tkeyOf y = some q) (hl : kvs.length < 1000000) : setO (.loc n) y x S = .ok () (S.set n (.dT (putA kvs q x))) := by
  unfold setO
  simp only [h, hq, hl, if_true]
theorem notInV_dt {kvs : List (List Key × D)} {q : List Key} {ys : List D} (h : S[n]? = some (.dT kvs)) (hq : tkeyOf (.tup ys) = some q) : notInV' (.tup ys) (.loc n) S = .ok (.bl (!(lookA kvs q).isSome)) S := by
  unfold notInV' inC
  simp only [sqOf, lsOf, dGetO, h, hq, Option.map_some]
theorem mulX_t (h : 0 ≤ i ∧ i ≤ 1000 ∧ xs.isEmpty = false ∧ xs.length ≤ 1000) : mulX (.tup xs) (.int i) S = .ok (.tup (List.replicate i.toNat xs).flatten) S := if_pos h
theorem mulX_l (h : 0 ≤ i ∧ i ≤ 1000 ∧ xs.length ≤ 1000) : mulX (.lst xs) (.int i) S = .ok (.lst (List.replicate i.toNat xs).flatten) S := if_pos h
def whP (I : Nat → DSt → Store → Prop) (m : Nat) (Q : Fl → Store → Prop) (fl : Fl) (S : Store) : Prop := match fl with
  | .nx st => ∃ m', m' < m ∧ I m' st S
  | .ct st => ∃ m', m' < m ∧ I m' st S
  | .bk st => Q (.nx st) S
  | .rt d => Q (.rt d) S
theorem whP_nx {I : Nat → DSt → Store → Prop} {m : Nat} {Q : Fl → Store → Prop} {st : DSt} : whP I m Q (.nx st) S = ∃ m', m' < m ∧ I m' st S := nr rfl
theorem whP_ct {I : Nat → DSt → Store → Prop} {m : Nat} {Q : Fl → Store → Prop} {st : DSt} : whP I m Q (.ct st) S = ∃ m', m' < m ∧ I m' st S := nr rfl
theorem whP_bk {I : Nat → DSt → Store → Prop} {m : Nat} {Q : Fl → Store → Prop} {st : DSt} : whP I m Q (.bk st) S = Q (.nx st) S := nr rfl
theorem whP_rt {I : Nat → DSt → Store → Prop} {m : Nat} {Q : Fl → Store → Prop} : whP I m Q (.rt x) S = Q (.rt x) S := nr rfl
theorem wp_while {t : DTv} {b : DSv} {α : Type} {k : Fl → Store → R α} {P : α → Store → Prop} (I : Nat → DSt → Store → Prop)
    (step : ∀ m st S, I m st S → ∃ c, t st S = .ok c S ∧ (c = true → wpE (b st S) (whP I m (kP k P))) ∧ (c = false → wpE (k (.nx st) S) P)) : ∀ (f m : Nat) (st : DSt) (S : Store), m < f → I m st S → wpE ((whileD t b f st S).bind k) P
  | 0, _, _, _, h, _ => absurd h (Nat.not_lt_zero _)
  | f + 1, m, st, S, hf, h0 => by
    obtain ⟨c, e, h1, h2⟩ := step m st S h0
    unfold whileD
    rw [e]
    cases c with
    | false => exact h2 rfl
    | true =>
      obtain ⟨fl, S2, e2, q⟩ := h1 rfl
      show wpE ((if true = true then (match b st S with
        | .ok (.nx st2) S2 => whileD t b f st2 S2
        | .ok (.ct st2) S2 => whileD t b f st2 S2
        | .ok (.bk st2) S2 => R.ok (.nx st2) S2
        | .ok (.rt d) S2 => .ok (.rt d) S2
        | .err x S2 => .err x S2
        | .no => .no) else .ok (.nx st) S).bind k) P
      rw [if_pos rfl, e2]
      cases fl with
      | nx st2 =>
        obtain ⟨m', hm, hI⟩ := q
        exact wp_while I step f m' st2 S2 (by omega) hI
      | ct st2 =>
        obtain ⟨m', hm, hI⟩ := q
        exact wp_while I step f m' st2 S2 (by omega) hI
      | bk st2 => exact q
      | rt d => exact q
end
/-! two fors -/
noncomputable def lm2K (g : DGv) (t : DTv) (i1 : DIv) (g1 : DGv) (t1 : DTv) (e : DEv) (us : List Nat) (st : DSt) (s : Src) (S : Store) : R D := (lm2D s S.length g t i1 g1 t1 e us st s.xs (S ++ [.lst []])).bind (locK S.length)
theorem lm2K_ev {g : DGv} {t : DTv} {i1 : DIv} {g1 : DGv} {t1 : DTv} {e : DEv} {us : List Nat} {st : DSt} {s : Src} {S : Store} : lm2K g t i1 g1 t1 e us st s S = (lm2D s S.length g t i1 g1 t1 e us st s.xs (S ++ [.lst []])).bind (locK S.length) := nr rfl
theorem dLc2_ev {i : DIv} {g : DGv} {t : DTv} {i1 : DIv} {g1 : DGv} {t1 : DTv} {e : DEv} {us vs : List Nat} {st : DSt} {S : Store} : dLc2 i g t i1 g1 t1 e us vs st S = (i st S).bind (lm2K g t i1 g1 t1 e us (wipeD st vs)) := nr rfl
noncomputable def lm2T3K (n : Nat) (g1 : DGv) (t1 : DTv) (e : DEv) (us : List Nat) (st : DSt) (s : Src) (S : Store) : R Unit := lmD s n g1 t1 e (wipeD st us) s.xs S
theorem lm2T3K_ev {n : Nat} {g1 : DGv} {t1 : DTv} {e : DEv} {us : List Nat} {st : DSt} {s : Src} {S : Store} : lm2T3K n g1 t1 e us st s S = lmD s n g1 t1 e (wipeD st us) s.xs S := nr rfl
noncomputable def lm2T2K (n : Nat) (i1 : DIv) (g1 : DGv) (t1 : DTv) (e : DEv) (us : List Nat) (st : DSt) (k : Bool) (S : Store) : R Unit := if k = true then (i1 st S).bind (lm2T3K n g1 t1 e us st) else .ok () S
theorem lm2T2K_ev {n : Nat} {i1 : DIv} {g1 : DGv} {t1 : DTv} {e : DEv} {us : List Nat} {st : DSt} {k : Bool} {S : Store} : lm2T2K n i1 g1 t1 e us st k S = if k = true then (i1 st S).bind (lm2T3K n g1 t1 e us st) else .ok () S := nr rfl
noncomputable def lm2T1K (n : Nat) (t : DTv) (i1 : DIv) (g1 : DGv) (t1 : DTv) (e : DEv) (us : List Nat) (st : DSt) (S : Store) : R Unit := (t st S).bind (lm2T2K n i1 g1 t1 e us st)
theorem lm2T1K_ev {n : Nat} {t : DTv} {i1 : DIv} {g1 : DGv} {t1 : DTv} {e : DEv} {us : List Nat} {st : DSt} {S : Store} : lm2T1K n t i1 g1 t1 e us st S = (t st S).bind (lm2T2K n i1 g1 t1 e us st) := nr rfl
theorem lm2T_ev {n : Nat} {g : DGv} {t : DTv} {i1 : DIv} {g1 : DGv} {t1 : DTv} {e : DEv} {us : List Nat} {st : DSt} {x : D} {S : Store} : lm2T n g t i1 g1 t1 e us st x S = (g x st S).bind (lm2T1K n t i1 g1 t1 e us) := nr rfl
theorem set_same {S : Store} {n : Nat} {o : O} (h : S[n]? = some o) : S.set n o = S := by
  apply List.ext_getElem?
  intro m
  by_cases e : n = m
  · subst e
    rw [List.getElem?_set_self (List.getElem?_eq_some_iff.mp h).1, h]
  · rw [List.getElem?_set_ne e]
def putK (n : Nat) (o : Option D) (S : Store) : R Unit := match o with
  | some y => putL n y S
  | none => .ok () S
theorem lmT_lcT {n : Nat} {g : DGv} {t : DTv} {e : DEv} {st : DSt} {x : D} {S : Store} {o : Option D} (h : lcT g t e st x S = .ok o S) : lmT n g t e st x S = putK n o S := by
  have h : ((g x st S).bind fun st1 S1 => (t st1 S1).bind fun k S2 => if k = true then (e st1 S2).bind fun y S3 => R.ok (some y) S3 else .ok none S2) = .ok o S := h
  unfold lmT
  cases q : g x st S with
  | ok st1 S1 =>
    rw [q, R.bind_ok] at h
    rw [R.bind_ok]
    cases q1 : t st1 S1 with
    | ok k S2 =>
      rw [q1, R.bind_ok] at h
      rw [R.bind_ok]
      cases k with
      | true =>
        rw [if_pos rfl] at h ⊢
        cases q2 : e st1 S2 with
        | ok y S3 =>
          rw [q2, R.bind_ok] at h
          cases h
          rfl
        | err z S3 => rw [q2] at h; cases h
        | no => rw [q2] at h; cases h
      | false =>
        rw [if_neg Bool.false_ne_true] at h ⊢
        cases h
        rfl
    | err z S3 => rw [q1] at h; cases h
    | no => rw [q1] at h; cases h
  | err z S3 => rw [q] at h; cases h
  | no => rw [q] at h; cases h
theorem lmD_pure {s : Src} {n : Nat} {g : DGv} {t : DTv} {e : DEv} {st : DSt} (f : D → Option D) (hs : ∀ S, s.held S) : ∀ (xs acc : List D) (S : Store), S[n]? = some (.lst acc) → acc.length + xs.length ≤ 900000 → (∀ x ∈ xs, ∀ S', lcT g t e st x S' = .ok (f x) S') →
    lmD s n g t e st xs S = .ok () (S.set n (.lst (acc ++ xs.filterMap f)))
  | [], acc, S, h, _, _ => by
    unfold lmD
    rw [if_pos (hs S), List.filterMap_nil, List.append_nil, set_same h]
  | x :: xs, acc, S, h, hl, hx => by
    unfold lmD
    rw [List.length_cons] at hl
    rw [if_pos (hs S), lmT_lcT (hx x List.mem_cons_self S)]
    have tl : ∀ y ∈ xs, ∀ S', lcT g t e st y S' = .ok (f y) S' := fun y hy => hx y (List.mem_cons_of_mem _ hy)
    cases q : f x with
    | none =>
      show lmD s n g t e st xs S = _
      rw [lmD_pure f hs xs acc S h (by omega) tl, List.filterMap_cons, q]
    | some y =>
      show ((putL n y S).mute.bind fun _ S' => lmD s n g t e st xs S') = _
      rw [putL_ok h (by omega)]
      show lmD s n g t e st xs (S.set n (.lst (acc ++ [y]))) = _
      rw [lmD_pure f hs xs (acc ++ [y]) _ (List.getElem?_set_self (List.getElem?_eq_some_iff.mp h).1) (by rw [List.length_append, List.length_singleton]; omega) tl, List.filterMap_cons, q, List.set_set, List.append_assoc]
      rfl
theorem lm2D_pure {s : Src} {n : Nat} {g : DGv} {t : DTv} {i1 : DIv} {g1 : DGv} {t1 : DTv} {e : DEv} {us : List Nat} {st : DSt} (F : D → List D) (hs : ∀ S, s.held S) : ∀ (xs acc : List D) (S : Store), S[n]? = some (.lst acc) → acc.length + 1000 * xs.length ≤ 500000 → (∀ x ∈ xs, (F x).length ≤ 1000) →
    (∀ x ∈ xs, ∀ acc S', S'[n]? = some (.lst acc) → acc.length ≤ 600000 → lm2T n g t i1 g1 t1 e us st x S' = .ok () (S'.set n (.lst (acc ++ F x)))) →
    lm2D s n g t i1 g1 t1 e us st xs S = .ok () (S.set n (.lst (acc ++ xs.flatMap F)))
  | [], acc, S, h, _, _, _ => by
    unfold lm2D
    rw [if_pos (hs S), List.flatMap_nil, List.append_nil, set_same h]
  | x :: xs, acc, S, h, hl, hf, hx => by
    unfold lm2D
    rw [List.length_cons] at hl
    have f1 := hf x List.mem_cons_self
    rw [if_pos (hs S), hx x List.mem_cons_self acc S h (by omega)]
    show lm2D s n g t i1 g1 t1 e us st xs (S.set n (.lst (acc ++ F x))) = _
    rw [lm2D_pure F hs xs (acc ++ F x) _ (List.getElem?_set_self (List.getElem?_eq_some_iff.mp h).1) (by rw [List.length_append]; omega) (fun y hy => hf y (List.mem_cons_of_mem _ hy)) (fun y hy => hx y (List.mem_cons_of_mem _ hy)), List.set_set, List.flatMap_cons, List.append_assoc]
section
variable {κ : Type} [DecidableEq κ] {α : Type}
theorem lookA_any (kvs : List (κ × α)) (j : κ) : (lookA kvs j).isSome = kvs.any fun kv => decide (kv.1 = j) := by
  unfold lookA
  rw [Option.isSome_map]
  induction kvs with
  | nil => rfl
  | cons a l ih =>
    rw [List.find?_cons, List.any_cons]
    cases decide (a.1 = j) with
    | true => rfl
    | false => rw [Bool.false_or]; exact ih
theorem putA_any (kvs : List (κ × α)) (k j : κ) (v : α) : ((putA kvs k v).any fun kv => decide (kv.1 = j)) = (decide (k = j) || kvs.any fun kv => decide (kv.1 = j)) := by
  unfold putA
  by_cases h : (kvs.any fun kv => decide (kv.1 = k)) = true
  · rw [if_pos h, List.any_map]
    have e : ((fun kv : κ × α => decide (kv.1 = j)) ∘ fun kv => if kv.1 = k then (kv.1, v) else kv) = fun kv => decide (kv.1 = j) := by
      funext kv
      show decide ((if kv.1 = k then (kv.1, v) else kv).1 = j) = _
      split <;> rfl
    rw [e]
    by_cases hj : k = j
    · subst hj
      rw [h]
      simp
    · simp [hj]
  · rw [if_neg h, List.any_append]
    simp [Bool.or_comm]
theorem putA_len (kvs : List (κ × α)) (k : κ) (v : α) : (putA kvs k v).length ≤ kvs.length + 1 := by
  unfold putA
  split
  · simp
  · simp
theorem lookA_nil {k : κ} : lookA ([] : List (κ × α)) k = none := rfl
theorem lookA_cons {p : κ × α} {kvs : List (κ × α)} {k : κ} : lookA (p :: kvs) k = if p.1 = k then some p.2 else lookA kvs k := by
  unfold lookA
  rw [List.find?_cons]
  by_cases e : p.1 = k
  · simp [e]
  · simp [e]
theorem lookA_append {kvs kws : List (κ × α)} {k : κ} : lookA (kvs ++ kws) k = (lookA kvs k).or (lookA kws k) := by
  induction kvs with
  | nil => rfl
  | cons p kvs ih =>
    rw [List.cons_append, lookA_cons, lookA_cons, ih]
    split <;> rfl
theorem lookA_putA {kvs : List (κ × α)} {k j : κ} {v : α} : lookA (putA kvs k v) j = if k = j then some v else lookA kvs j := by
  unfold putA
  by_cases h : (kvs.any fun kv => decide (kv.1 = k)) = true
  · rw [if_pos h]
    induction kvs with
    | nil => cases h
    | cons p kvs ih =>
      rw [List.map_cons, lookA_cons, lookA_cons]
      by_cases e : p.1 = k
      · by_cases e2 : k = j
        · simp [e, e2]
        · simp only [e, if_true, e2, if_false]
          by_cases h2 : (kvs.any fun kv => decide (kv.1 = k)) = true
          · rw [ih h2, if_neg e2]
          · have : ∀ q ∈ kvs, (if q.1 = k then (q.1, v) else q) = q := fun q hq => by
              rw [if_neg]
              intro z
              exact h2 (List.any_eq_true.mpr ⟨q, hq, decide_eq_true z⟩)
            rw [List.map_congr_left this, List.map_id']
      · rw [List.any_cons, decide_eq_false e, Bool.false_or] at h
        rw [if_neg e, ih h]
        by_cases e2 : k = j
        · subst e2
          rw [if_pos rfl, if_pos rfl, if_neg e]
        · rw [if_neg e2, if_neg e2]
  · rw [if_neg h, lookA_append, lookA_cons, lookA_nil]
    by_cases e2 : k = j
    · subst e2
      have : lookA kvs k = none := by
        have := lookA_any kvs k
        rw [Bool.not_eq_true] at h
        rw [h] at this
        cases q : lookA kvs k with
        | none => rfl
        | some _ => rw [q] at this; cases this
      rw [this]
      simp
    · simp [e2]
theorem lookA_dropA {kvs : List (κ × α)} {k j : κ} : lookA (dropA kvs k) j = if k = j then none else lookA kvs j := by
  induction kvs with
  | nil => simp [dropA, lookA]
  | cons p kvs ih =>
    have ih : lookA (List.filter (fun kv => decide (kv.1 ≠ k)) kvs) j = if k = j then none else lookA kvs j := ih
    unfold dropA
    rw [List.filter_cons]
    by_cases e : p.1 = k
    · rw [if_neg (by simp [e]), ih, lookA_cons]
      by_cases e2 : k = j
      · simp [e2]
      · rw [if_neg e2, if_neg e2, if_neg (fun z => e2 (e.symm.trans z))]
    · rw [if_pos (by simp [e]), lookA_cons, ih, lookA_cons]
      by_cases e2 : k = j
      · subst e2
        rw [if_neg e, if_pos rfl, if_pos rfl]
      · rw [if_neg e2, if_neg e2]
end
theorem listV_t {xs : List D} {S : Store} : listV [.tup xs] S = .ok (.lst xs) S := nr rfl
theorem scT_lcT {g : DGv} {t : DTv} {e : DEv} {st : DSt} {x : D} {S : Store} : scT g t e st x S = lcT g t e st x S := rfl
theorem scD_map {β : Type} {enc : β → D} {s : Src} {g : DGv} {t : DTv} {e : DEv} {st : DSt} {S : Store} (f : β → Option Int) (hS : s.held S) : ∀ (bs : List β) (acc : List Int), acc.length + bs.length < 1000 → (∀ b ∈ bs, lcT g t e st (enc b) S = .ok ((f b).map D.int) S) → scD s g t e st (bs.map enc) acc S = .ok (acc ++ bs.filterMap f) S
  | [], acc, hl, _ => by
    rw [List.map_nil]
    unfold scD
    rw [if_pos ⟨hS, by rw [List.length_nil] at hl; omega⟩, List.filterMap_nil, List.append_nil]
  | b :: bs, acc, hl, h => by
    have hb := scT_lcT.trans (h b List.mem_cons_self)
    have tl := fun c hc => h c (List.mem_cons_of_mem _ hc)
    rw [List.length_cons] at hl
    rw [List.map_cons]
    unfold scD
    rw [if_pos ⟨hS, by omega⟩, hb]
    cases q : f b with
    | none =>
      show scD s g t e st (bs.map enc) acc S = _
      rw [scD_map f hS bs acc (by omega) tl, List.filterMap_cons, q]
    | some y =>
      show scD s g t e st (bs.map enc) (acc ++ [y]) S = _
      rw [scD_map f hS bs (acc ++ [y]) (by rw [List.length_append, List.length_singleton]; omega) tl, List.filterMap_cons, q, List.append_assoc]
      rfl
noncomputable def lscK (g : DGv) (t : DTv) (e : DEv) (st : DSt) (s : Src) (S : Store) : R D := (scD s g t e st s.xs [] S).bind fun acc S2 => .ok (.int ((ddI acc).length : Nat)) S2
theorem lscK_ok {g : DGv} {t : DTv} {e : DEv} {st : DSt} {s : Src} {S : Store} {is : List Int} (h : scD s g t e st s.xs [] S = .ok is S) : lscK g t e st s S = .ok (.int ((ddI is).length : Nat)) S := by
  unfold lscK
  rw [h]
  rfl
theorem dLenSc_ev {i : DIv} {g : DGv} {t : DTv} {e : DEv} {vs : List Nat} {st : DSt} {S : Store} : dLenSc i g t e vs st S = (i st S).bind (lscK g t e (wipeD st vs)) := nr rfl
section
variable {S : Store} {a b c : D}
theorem dMuteS_ok {d : DSv} {st : DSt} {S S' : Store} {fl : Fl} (h : d st S = .ok fl S') : dMuteS d st S = .ok fl S' := by
  unfold dMuteS
  rw [h]
  rfl
theorem step2V_8 {x0 x1 x2 x3 x4 x5 x6 x7 : D} : step2V (.lst [x0, x1, x2, x3, x4, x5, x6, x7]) S = .ok (.lst [x0, x2, x4, x6]) S := nr rfl
theorem dgStar1_2 {gs : DGsv} {st : DSt} : dgStar 1 gs (.lst [a, b]) st S = gs [a, .lst [b]] st S := nr rfl
theorem dgStar1_3 {gs : DGsv} {st : DSt} : dgStar 1 gs (.lst [a, b, c]) st S = gs [a, .lst [b, c]] st S := nr rfl
theorem dJoinS_ev {ds : List DEv} {st : DSt} : dJoinS ds st S = dJs ds Str.empty st S := nr rfl
theorem fmtV_s {z : Str} : fmtV (.str z) S = .ok (.str z) S := nr rfl
end
section
variable {S S' : Store}
theorem bind_errN {α β : Type} {x : Err} {f : α → Store → R β} : (R.err x S).bind f = .err x S := nr rfl
theorem dRaise0_ev {k : String} {st : DSt} : dRaise0 k st S = .err ⟨k, []⟩ S := nr rfl
theorem dRaiseD_ev {k : String} {f : Str} {st : DSt} : dRaiseD k f st S = .err ⟨k, [(f, .non)]⟩ S := nr rfl
def raiseK (k : String) (f : Str) (ds : List D) (S1 : Store) : R Fl := match ds with
  | [y] => .err ⟨k, [(f, y)]⟩ S1
  | _ => .no
theorem dRaise1_ev {k : String} {f : Str} {r : DAv} {st : DSt} : dRaise1 k f r st S = (r st S).bind (raiseK k f) := nr rfl
theorem raiseK_1 {k : String} {f : Str} {y : D} : raiseK k f [y] S = .err ⟨k, [(f, y)]⟩ S := nr rfl
theorem dTryAs_ok {i : Nat} {tab : List (String × Bool)} {db : DSv} {ds : Err → DSv} {st : DSt} {fl : Fl} (h : db st S = .ok fl S') : dTryAs i tab db ds st S = .ok fl S' := by
  unfold dTryAs
  rw [h]
theorem dTryAs_err {i : Nat} {tab : List (String × Bool)} {db : DSv} {ds : Err → DSv} {st : DSt} {x : Err} (h : db st S = .err x S') (ht : tab.lookup x.cls = some true) (hl : i < st.length) : dTryAs i tab db ds st S = (ds x (st.set i none) S').bind fun fl S2 => .ok (clrF i fl) S2 := by
  unfold dTryAs
  rw [h]
  simp only [ht, hl, if_true]
theorem dSetN_ev {j : Nat} {v : DEv} {r : DSv} {st : DSt} : dSetN j v r st S = (v st S).bind fun y S1 => r (st.set j (some y)) S1 := nr rfl
end
theorem dSortK_ev {q : Str} {iw : Nat} {r : DEv} {st : DSt} {S : Store} : dSortK q iw r st S = (r st S).bind (sortKAt q iw st) := nr rfl
/-- the run, as far as it goes by itself -/
local macro_rules | `(tactic| walk_at "ev") => `(tactic| try simp (disch := first | assumption | omega | (simp only [List.length_cons, List.length_nil, List.length_append, List.cons_append, List.nil_append, Nat.reduceAdd, isLs_m, *] <;> omega) | exact List.getElem?_set_self (by first | assumption | omega) | exact app_at | (split <;> omega) | fail) only [bind_errN, dSortK_ev, dRaise0_ev, dRaiseD_ev, dRaise1_ev, raiseK_1, step2V_8, dgStar1_2, dgStar1_3, dJoinS_ev, fmtV_s, dLenSc_ev, runD_ev, listV_t, lm2K_ev, dLc2_ev, lm2T3K_ev, lm2T2K_ev, lm2T1K_ev, lm2T_ev, eqL_s', eqL_i, dgStar3_3, dgStar3_4, dCnt_ev, p3K_ev, p2K_ev, p1K_ev, dP1_ev, dP0_ev, dDisp_ev, dNewT_ev, whP_nx, whP_ct, whP_bk, whP_rt, st0, List.map_cons, List.map_nil, List.length_cons, List.length_nil, List.cons_append, List.nil_append, pad_eq, Nat.reduceAdd, Nat.reduceSub, pad, addB_i, addB_b, addV_s', addB_s', addB_ll, subB_i, subB_b, mulB_b, mulB_r, negB_i, negB_b, strB_b, neL_i, slV_z, isStr_s, mtK_s, tupV_t, tupV_l, tupV_m, listM_t, listM_l, listM_m, isiV_tup, isiTK_tl, Bool.or_true, Bool.or_false, Bool.true_or, Bool.false_or, dget2K_ev, dget1K_ev, dDget_ev, getK_ev, dpopK_ev, dpop2K_ev, dpop1K_ev, dDpop_ev, isDct_k, lenV_dk, parK_2, dPar_ev, dNewK_ev, diDown_ev, downK_i, dDc_ev, locK_ev, dc1K_ev, dcT3K_ev, dcT2K_ev, dcT1K_ev, dcT_ev, dLm_ev, lm1K_ev, lmT2K_ev, lmT1K_ev, lmT_ev, dYes_ev, diEnum_ev, enumK_l, enumK_m, slV_t, slV_l, slV_m, listV_l, listV_m, notInV_dk, notInV_ints, putL_ok, tyOf_non, tyOf_bl, tyOf_int, tyOf_str, tyOf_tup, tyOf_lst, tyOf_locL, isiV_ty, isiK_s, diZip_ev, diZipS_ev, zipSK_l, zipK_t, zipK_ll, zipK_ml, zipK_lm, addV_ll, addV_tt, isTy_NoneType_bool, isTy_NoneType_int, isTy_NoneType_str, isTy_NoneType_list, isTy_NoneType_tuple, isTy_NoneType_dict, isTy_bool_bool, isTy_bool_int, isTy_bool_str, isTy_bool_list, isTy_bool_tuple, isTy_bool_dict, isTy_int_bool, isTy_int_int, isTy_int_str, isTy_int_list, isTy_int_tuple, isTy_int_dict, isTy_str_bool, isTy_str_int, isTy_str_str, isTy_str_list, isTy_str_tuple, isTy_str_dict, isTy_list_bool, isTy_list_int, isTy_list_str, isTy_list_list, isTy_list_tuple, isTy_list_dict, isTy_tuple_bool, isTy_tuple_int, isTy_tuple_str, isTy_tuple_list, isTy_tuple_tuple, isTy_tuple_dict, isTy_dict_bool, isTy_dict_int, isTy_dict_str, isTy_dict_list, isTy_dict_tuple, isTy_dict_dict, tyNm_bool, tyNm_int, tyNm_str, tyNm_list, tyNm_tuple, tyNm_dict, app_set, dSeq_ev, seqK_nx, seqK_rt, seqK_bk, seqK_ct, finK_nx, finK_rt, dVar_ev, rdS_0, rdS_s, dC_ev, dOp_ev, dUn_ev,
  testK_bl, dTest_ev, chainK_b, dChain_ev, dAnd_ev, dOr_ev, dNot_ev, andK_b, orK_b, notK_b, dAndV_ev, dOrV_ev, dNotV_ev, dIf_ev, dNil_ev, dCons_ev, tupK_0, lstK_0, lstMK_0, tupK_1, lstK_1, lstMK_1, tupK_2, lstK_2, lstMK_2, tupK_3, lstK_3, lstMK_3, tupK_4, lstK_4, lstMK_4, tupK_5, lstK_5, lstMK_5, tupK_6, lstK_6, lstMK_6, tupK_7, lstK_7, lstMK_7, tupK_8, lstK_8, lstMK_8, tupK_9, lstK_9, lstMK_9, tupK_10, lstK_10, lstMK_10, tupK_11, lstK_11, lstMK_11, tupK_12, lstK_12, lstMK_12, tupK_13, tupK_14, tupK_15, tupK_16, tupK_17, tupK_18, tupK_19, tupK_20, tupK_21, tupK_22, tupK_23, tupK_24, lstK_13, lstK_14, lstK_15, lstK_16, lstK_17, lstK_18, lstK_19, lstK_20, lstK_21, lstK_22, lstK_23, lstK_24, dTup_ev, dLst_ev, dLstM_ev, dCall_ev, dCallD_ev, dCallK_ev, dBlt_ev, dMt_ev, dSl_ev, dPNone_ev, partK_i, dPart_ev, dFrz_ev, dNext_ev, dDrop_ev,
  dRet_ev, dRetN_ev, dBreak_ev, dCont_ev, dIfS_ev, dSet_ev, dAsg_ev, dgName_ev, dgNil_ev, dgCons_ev, dgTup_ev, dgSub_ev, dFor_ev, diRng1_ev, diRng2_ev, diAny_ev, anyI_t, anyI_l, anyI_s, anyI_r, dLc_ev, wipeD_nil, wipeD_cons, addV_i, subV_i, negV_i, mulV_l, mulV_r, divV_i, modV_i, powV_i, cmpV_i, cmpV_st, eqV_i, neV_i, eqV_b, neV_b, eqV_s', neV_s', eqV_nn, neV_nn, eqV_ni, neV_ni, eqV_in, neV_in, eqV_ns, neV_ns, eqV_sn, neV_sn, eqV_nb, neV_nb, eqV_bn, neV_bn, isNon_n, isNon_i, isNon_t, isNon_l, isNon_b, isNon_s, isNon_m, isV_n', isNotV_n', bne_self_eq_false,  ixV_t, ixV_l, ixV_r,
  ixK_s, lenV_t, lenV_l, lenV_r, lenV_s', absV_i, maxV_i, minV_i, bind_okN, bind_assoc', cmpK_assoc, cmpK_ev, opK_ev, chain2K_ev, chain1K_ev, andTK_ev, orTK_ev, notTK_ev, ifK_ev, conK_ev, con1K_ev, callK_ev, callDK_ev, callK2_ev, callK1_ev, mtK_l, mtK_ev, sl2K_ev, sl1K_ev, nxK_ev, rtK_ev, ifSK_ev, stK_ev, nx2K_ev, asgK_ev, sub3K_ev, sub2K_ev, sub1K_ev, forK_ev, rng1K_i, rng2K_i, lc2K_ev, lc1K_ev, forP_nx, forP_ct, forP_bk, forP_rt, kP_ev, someK_ev, lcT2K_ev, lcT1K_ev, lcT_ev, lcP_some, lcP_none, wpE_ok, List.set_cons_zero, List.set_cons_succ, ite_true, if_true, ite_false, if_false, Bool.not_true, Bool.not_false, Bool.false_eq_true, decide_true, decide_false, decide_eq_true_eq, ixV_m, lenV_m, appV_m, isLs_m, anyI_m, setO_m, setK_s, ixN_ok, Int.toNat_zero, Int.reduceToNat, Int.reducePow, Int.reduceAdd, Int.reduceSub, Int.reduceMul, Int.reduceNeg, Nat.reduceLT, List.isEmpty_nil, List.isEmpty_cons, castLit, beq_self_eq_true, Int.reduceBEq, Int.reduceLT, Int.reduceLE, Nat.reduceLeDiff, List.getD_cons_zero, List.getD_cons_succ, true_and, and_true, and_self, Int.zero_add, atI_0, atI_1, atI_2, atI_3, atI_4, atI_5, atI_6, atI_7, atI_8, atI_9])

/-! ### the text by places, the scopes of its defs (printed by wip/gen.py) -/
def topS (i : Nat) : Stmt := PySem.Challenge.pw_pagelend_k47_what_is_an_order.main.body.getD i (.Pass ⟨0, 0, 0, 0⟩)
abbrev s_zones : Stmt := topS 1
abbrev N_zones : List Str := ["history", "found", "task", "kind", "value", "begin", "end", "first", "last"]
theorem sc_zones : FnScope N_zones ["history"] (defScope s_zones) := ⟨rfl, rfl, rfl, by decide +kernel, rfl, by decide +kernel, by decide +kernel⟩
abbrev s_goes_ahead : Stmt := topS 2
abbrev N_goes_ahead : List Str := ["zone", "other"]
theorem sc_goes_ahead : FnScope N_goes_ahead ["zone", "other"] (defScope s_goes_ahead) := ⟨rfl, rfl, rfl, by decide +kernel, rfl, by decide +kernel, by decide +kernel⟩
abbrev s_is_open : Stmt := topS 3
abbrev N_is_open : List Str := ["zone"]
theorem sc_is_open : FnScope N_is_open ["zone"] (defScope s_is_open) := ⟨rfl, rfl, rfl, by decide +kernel, rfl, by decide +kernel, by decide +kernel⟩
abbrev s_clash : Stmt := topS 4
abbrev N_clash : List Str := ["zone", "other"]
theorem sc_clash : FnScope N_clash ["zone", "other"] (defScope s_clash) := ⟨rfl, rfl, rfl, by decide +kernel, rfl, by decide +kernel, by decide +kernel⟩
abbrev s_earlies : Stmt := topS 5
abbrev N_earlies : List Str := ["history", "writes", "reads", "row"]
theorem sc_earlies : FnScope N_earlies ["history"] (defScope s_earlies) := ⟨rfl, rfl, rfl, by decide +kernel, rfl, by decide +kernel, by decide +kernel⟩
abbrev s_clashes : Stmt := topS 6
abbrev N_clashes : List Str := ["history", "found", "pairs", "told", "both", "one", "other", "row"]
theorem sc_clashes : FnScope N_clashes ["history"] (defScope s_clashes) := ⟨rfl, rfl, rfl, by decide +kernel, rfl, by decide +kernel, by decide +kernel⟩
abbrev s_next_value : Stmt := topS 7
abbrev N_next_value : List Str := ["found", "left", "value", "other"]
theorem sc_next_value : FnScope N_next_value ["found", "left"] (defScope s_next_value) := ⟨rfl, rfl, rfl, by decide +kernel, rfl, by decide +kernel, by decide +kernel⟩
abbrev s_ordered : Stmt := topS 8
abbrev N_ordered : List Str := ["history", "reasons", "found", "left", "tasks", "value", "rows", "row"]
theorem sc_ordered : FnScope N_ordered ["history"] (defScope s_ordered) := ⟨rfl, rfl, rfl, by decide +kernel, rfl, by decide +kernel, by decide +kernel⟩
abbrev s_is_order : Stmt := topS 9
abbrev N_is_order : List Str := ["history", "tasks", "rows", "last", "ahead", "task", "number", "kind", "value", "begin", "end", "row"]
theorem sc_is_order : FnScope N_is_order ["history", "tasks"] (defScope s_is_order) := ⟨rfl, rfl, rfl, by decide +kernel, rfl, by decide +kernel, by decide +kernel⟩
abbrev s_law_bag : Stmt := topS 11
abbrev N_law_bag : List Str := ["script", "k", "cell"]
theorem sc_law_bag : FnScope N_law_bag ["script", "k"] (defScope s_law_bag) := ⟨rfl, rfl, rfl, by decide +kernel, rfl, by decide +kernel, by decide +kernel⟩
abbrev s_law_take : Stmt := topS 12
abbrev N_law_take : List Str := ["bag", "many", "found"]
theorem sc_law_take : FnScope N_law_take ["bag", "many"] (defScope s_law_take) := ⟨rfl, rfl, rfl, by decide +kernel, rfl, by decide +kernel, by decide +kernel⟩
abbrev s_law_history : Stmt := topS 13
abbrev N_law_history : List Str := ["bag", "most", "many", "loose", "wild", "values", "rows", "numbers", "turn", "time", "start", "end", "number", "value", "left"]
theorem sc_law_history : FnScope N_law_history ["bag", "most"] (defScope s_law_history) := ⟨rfl, rfl, rfl, by decide +kernel, rfl, by decide +kernel, by decide +kernel⟩
abbrev s_law_order_right : Stmt := topS 14
abbrev N_law_order_right : List Str := ["history", "tasks", "rows", "row", "last", "at", "task"]
theorem sc_law_order_right : FnScope N_law_order_right ["history", "tasks"] (defScope s_law_order_right) := ⟨rfl, rfl, rfl, by decide +kernel, rfl, by decide +kernel, by decide +kernel⟩
abbrev s_law : Stmt := topS 15
abbrev N_law : List Str := ["script", "k", "bag", "history", "tasks", "told", "turn", "found", "one", "other", "deed", "way", "row"]
theorem sc_law : FnScope N_law ["script"] (defScope s_law) := ⟨rfl, rfl, rfl, by decide +kernel, rfl, by decide +kernel, by decide +kernel⟩
/-! ### is, is not of truth values (own work) -/
def rNB : R2 := fun x y H Q => ∃ a b : Bool, x = .bl a ∧ y = .bl b ∧ Q (.bl (!decide (a = b))) H
theorem op_nB {X : Cx} : OpR X (compareOp .IsNot) rNB := by
  intro pins s σ H x y v u Q I rx ry h
  obtain ⟨a, b, rfl, rfl, q⟩ := h
  obtain rfl : v = Value.bool a := rx
  obtain rfl : u = Value.bool b := ry
  exact wpAny_isNot_plain rfl ⟨.bl (!decide (a = b)), H, I, by cases a <;> cases b <;> rfl, q⟩
def isNotB (x y : D) (S : Store) : R D := match x, y with
  | .bl a, .bl b => .ok (.bl (!decide (a = b))) S
  | _, _ => .no
theorem isNotB_s {K : PySem.W.Frag} {cm : String → Addr → Prop} : OpS K cm rNB isNotB := fun A c x y v w Q rel rx ry h => by
  unfold isNotB at h
  split at h
  · rename_i a b
    exact ⟨a, b, rx, ry, h.here rel rfl⟩
  · exact h.elim
theorem isNotB_n : NoErr isNotB := fun x y S => by unfold isNotB; split <;> exact True.intro

noncomputable def B_law_bag : DSv :=
  dSeq (dSet 2 (dC (.int 0)))
  (dSeq (dIfS (dTest (dOp ltV (dVar 1) (dBlt lenV (dCons (dVar 0) dNil))))
  (dSet 2 (dBlt absV (dCons (dOp ixV (dVar 0) (dVar 1)) dNil)))
  dNext)
  (dSeq (dIfS (dTest (dOp ltV (dVar 2) (dOp powV (dC (.int 10)) (dC (.int 18)))))
  (dRet (dLstM (dCons (dC (.int 0)) (dCons (dOp addV (dC (.int 1)) (dOp modV (dOp addV (dOp mulV (dVar 2) (dC (.int 7919))) (dOp mulV (dC (.int 104729)) (dVar 1))) (dC (.int 2147483646)))) dNil))))
  dNext)
  (dRet (dLstM (dCons (dVar 2) (dCons (dOp addV (dC (.int 1)) (dOp modV (dOp addV (dVar 2) (dVar 1)) (dC (.int 2147483646)))) dNil))))))
noncomputable def F_law_bag : List D → Store → R D := runD B_law_bag 3
noncomputable def B_law_take : DSv :=
  dSeq (dIfS (dTest (dOp gtV (dOp ixV (dVar 0) (dC (.int 0))) (dC (.int 0))))
  (dSeq (dSet 2 (dOp modV (dOp ixV (dVar 0) (dC (.int 0))) (dVar 1)))
  (dSeq (dAsg (dOp divV (dOp ixV (dVar 0) (dC (.int 0))) (dVar 1)) (dgSub (dVar 0) (dC (.int 0))))
  (dRet (dVar 2))))
  dNext)
  (dSeq (dAsg (dOp modV (dOp mulV (dOp ixV (dVar 0) (dC (.int 1))) (dC (.int 48271))) (dC (.int 2147483647))) (dgSub (dVar 0) (dC (.int 1))))
  (dRet (dOp modV (dOp divV (dOp modV (dOp mulV (dOp ixV (dVar 0) (dC (.int 1))) (dOp ixV (dVar 0) (dC (.int 1)))) (dC (.int 2147483629))) (dC (.int 64))) (dVar 1))))
noncomputable def F_law_take : List D → Store → R D := runD B_law_take 3
noncomputable def B_law_history_b1 : DSv := dSeq (dSet 9 (dOp addV (dOp mulV (dC (.int 10)) (dVar 8)) (dC (.int 1))))
  (dSeq (dSet 10 (dBlt maxV (dCons (dC (.int 0)) (dCons (dOp subV (dVar 9) (dCall F_law_take 2 (dCons (dVar 0) (dCons (dOp mulV (dC (.int 10)) (dVar 3)) dNil)))) dNil))))
  (dSeq (dSet 11 (dOp addV (dOp addV (dVar 9) (dC (.int 1))) (dCall F_law_take 2 (dCons (dVar 0) (dCons (dOp mulV (dC (.int 10)) (dVar 3)) dNil)))))
  (dSeq (dSet 12 (dMt isLs popAtV (dVar 7) (dCons (dCall F_law_take 2 (dCons (dVar 0) (dCons (dBlt lenV (dCons (dVar 7) dNil)) dNil))) dNil)))
  (dIfS (dTest (dOp eqL (dCall F_law_take 2 (dCons (dVar 0) (dCons (dC (.int 2)) dNil))) (dC (.int 0))))
  (dSeq (dDrop (dMt isLs appV (dVar 5) (dCons (dOp addV (dC (.int 1)) (dOp modV (dOp addV (dOp mulV (dVar 8) (dC (.int 100))) (dC (.int 11))) (dC (.int 999)))) dNil)))
  (dDrop (dMt isLs appV (dVar 6) (dCons (dTup (dCons (dVar 12) (dCons (dC (.str "write")) (dCons (dOp ixV (dVar 5) (dUn negV (dC (.int 1)))) (dCons (dVar 10) (dCons (dVar 11) dNil)))))) dNil))))
  (dSeq (dSet 13 (dOp ixV (dVar 5) (dUn negV (dC (.int 1)))))
  (dSeq (dIfS (dAnd (dTest (dOp eqL (dVar 4) (dC (.int 0)))) (dTest (dOp eqL (dCall F_law_take 2 (dCons (dVar 0) (dCons (dC (.int 2)) dNil))) (dC (.int 0)))))
  (dSet 13 (dOp ixV (dVar 5) (dCall F_law_take 2 (dCons (dVar 0) (dCons (dBlt lenV (dCons (dVar 5) dNil)) dNil)))))
  dNext)
  (dDrop (dMt isLs appV (dVar 6) (dCons (dTup (dCons (dVar 12) (dCons (dC (.str "read")) (dCons (dVar 13) (dCons (dVar 10) (dCons (dVar 11) dNil)))))) dNil)))))))))
noncomputable def B_law_history_b2 : DSv := dDrop (dMt isLs appV (dVar 6) (dCons (dMt isLs popAtV (dVar 14) (dCons (dCall F_law_take 2 (dCons (dVar 0) (dCons (dBlt lenV (dCons (dVar 14) dNil)) dNil))) dNil)) dNil))
noncomputable def B_law_history_t3 : DTv := dTest (dOp neL (dVar 14) (dLst dNil))
noncomputable def B_law_history : DSv :=
  dSeq (dSet 2 (dCall F_law_take 2 (dCons (dVar 0) (dCons (dOp addV (dVar 1) (dC (.int 1))) dNil))))
  (dSeq (dSet 3 (dOp ixV (dLst (dCons (dC (.int 1)) (dCons (dC (.int 3)) (dCons (dC (.int 8)) (dCons (dC (.int 40)) dNil))))) (dCall F_law_take 2 (dCons (dVar 0) (dCons (dC (.int 4)) dNil)))))
  (dSeq (dSet 4 (dCall F_law_take 2 (dCons (dVar 0) (dCons (dC (.int 4)) dNil))))
  (dSeq (dSet 5 (dLstM (dCons (dC (.int 0)) dNil)))
  (dSeq (dSet 6 (dLstM dNil))
  (dSeq (dSet 7 (dUn listRg (dC (.int 70))))
  (dSeq (dFor (diRng1 (dCons (dVar 2) dNil)) (dgName 8) B_law_history_b1)
  (dSeq (dSet 14 (dBlt listM (dCons (dVar 6) dNil)))
  (dSeq (dSet 6 (dLstM dNil))
  (dSeq (whileD B_law_history_t3 B_law_history_b2 100000)
  (dRet (dVar 6)))))))))))
noncomputable def F_law_history : List D → Store → R D := runD B_law_history 15
noncomputable def B_earlies_g1 : DGv := dgName 3
noncomputable def B_earlies_t2 : DTv := dTest (dOp eqV (dOp ixV (dVar 3) (dC (.int 1))) (dC (.str "write")))
noncomputable def B_earlies_k3 : DEv := dOp ixV (dVar 3) (dC (.int 2))
noncomputable def B_earlies_e4 : DEv := dVar 3
noncomputable def B_earlies_g5 : DGv := dgName 3
noncomputable def B_earlies_t6 : DTv := dAnd (dTest (dOp eqV (dOp ixV (dVar 3) (dC (.int 1))) (dC (.str "read")))) (dTest (dOp inV' (dOp ixV (dVar 3) (dC (.int 2))) (dVar 1)))
noncomputable def B_earlies_e7 : DEv := dVar 3
noncomputable def B_earlies_g8 : DGv := dgName 3
noncomputable def B_earlies_t9 : DTv := dTest (dOp ltV (dOp ixV (dVar 3) (dC (.int 4))) (dOp ixV (dOp ixV (dVar 1) (dOp ixV (dVar 3) (dC (.int 2)))) (dC (.int 3))))
noncomputable def B_earlies_e10 : DEv := dTup (dCons (dC (.str "early")) (dCons (dOp ixV (dVar 3) (dC (.int 0))) (dCons (dOp ixV (dOp ixV (dVar 1) (dOp ixV (dVar 3) (dC (.int 2)))) (dC (.int 0))) dNil)))
noncomputable def B_earlies : DSv :=
  dSeq (dSet 1 (dDc (diAny (dVar 0)) B_earlies_g1 B_earlies_t2 B_earlies_k3 B_earlies_e4 [3]))
  (dSeq (dSet 2 (dLc (diAny (dVar 0)) B_earlies_g5 B_earlies_t6 B_earlies_e7 [3]))
  (dRet (dLc (diAny (dVar 2)) B_earlies_g8 B_earlies_t9 B_earlies_e10 [3])))
noncomputable def F_earlies : List D → Store → R D := runD B_earlies 4
noncomputable def B_zones_b1 : DSv := dSeq (dAsg (dDget (dVar 1) (dVar 4) (dTup (dCons (dVar 6) (dCons (dVar 5) dNil)))) (dgTup 2 (dgCons (dgName 7) (dgCons (dgName 8) dgNil))))
  (dAsg (dTup (dCons (dBlt minV (dCons (dVar 7) (dCons (dVar 6) dNil))) (dCons (dBlt maxV (dCons (dVar 8) (dCons (dVar 5) dNil))) dNil))) (dgSub (dVar 1) (dVar 4)))
noncomputable def B_zones : DSv :=
  dSeq (dSet 1 (dDisp (dP1 (dC (.int 0)) (dTup (dCons (dUn negV (dC (.int 1))) (dCons (dUn negV (dC (.int 1))) dNil))) dP0)))
  (dSeq (dFor (diAny (dVar 0)) (dgTup 5 (dgCons (dgName 2) (dgCons (dgName 3) (dgCons (dgName 4) (dgCons (dgName 5) (dgCons (dgName 6) dgNil)))))) B_zones_b1)
  (dRet (dFrzD (dVar 1))))
noncomputable def F_zones : List D → Store → R D := runD B_zones 9
noncomputable def B_goes_ahead : DSv :=
  dRet (dOp ltV (dOp ixV (dVar 0) (dC (.int 0))) (dOp ixV (dVar 1) (dC (.int 1))))
noncomputable def F_goes_ahead : List D → Store → R D := runD B_goes_ahead 2
noncomputable def B_is_open : DSv :=
  dRet (dOp ltV (dOp ixV (dVar 0) (dC (.int 0))) (dOp ixV (dVar 0) (dC (.int 1))))
noncomputable def F_is_open : List D → Store → R D := runD B_is_open 1
noncomputable def B_clash : DSv :=
  dSeq (dIfS (dOr (dNot (dTest (dCall F_goes_ahead 2 (dCons (dVar 0) (dCons (dVar 1) dNil))))) (dNot (dTest (dCall F_goes_ahead 2 (dCons (dVar 1) (dCons (dVar 0) dNil))))))
  (dRet (dC .non))
  dNext)
  (dSeq (dIfS (dAnd (dTest (dCall F_is_open 1 (dCons (dVar 0) dNil))) (dTest (dCall F_is_open 1 (dCons (dVar 1) dNil))))
  (dRet (dC (.str "both")))
  dNext)
  (dRet (dIf (dTest (dCall F_is_open 1 (dCons (dVar 0) dNil))) (dC (.str "within")) (dC .non))))
noncomputable def F_clash : List D → Store → R D := runD B_clash 2
noncomputable def B_clashes_g1 : DGv := dgName 5
noncomputable def B_clashes_t2 : DTv := dYes
noncomputable def B_clashes_i3 : DIv := diKeys (dVar 1)
noncomputable def B_clashes_g4 : DGv := dgName 6
noncomputable def B_clashes_t5 : DTv := dTest (dOp neV (dVar 5) (dVar 6))
noncomputable def B_clashes_e6 : DEv := dTup (dCons (dVar 5) (dCons (dVar 6) dNil))
noncomputable def B_clashes_g7 : DGv := dgTup 2 (dgCons (dgName 5) (dgCons (dgName 6) dgNil))
noncomputable def B_clashes_t8 : DTv := dYes
noncomputable def B_clashes_e9 : DEv := dTup (dCons (dCall F_clash 2 (dCons (dOp ixV (dVar 1) (dVar 5)) (dCons (dOp ixV (dVar 1) (dVar 6)) dNil))) (dCons (dVar 5) (dCons (dVar 6) dNil)))
noncomputable def B_clashes_g10 : DGv := dgName 7
noncomputable def B_clashes_t11 : DTv := dAnd (dTest (dOp eqV (dOp ixV (dVar 7) (dC (.int 0))) (dC (.str "both")))) (dTest (dOp ltV (dOp ixV (dVar 7) (dC (.int 1))) (dOp ixV (dVar 7) (dC (.int 2)))))
noncomputable def B_clashes_e12 : DEv := dVar 7
noncomputable def B_clashes_g13 : DGv := dgName 7
noncomputable def B_clashes_t14 : DTv := dTest (dOp eqV (dOp ixV (dVar 7) (dC (.int 0))) (dC (.str "within")))
noncomputable def B_clashes_e15 : DEv := dVar 7
noncomputable def B_clashes : DSv :=
  dSeq (dSet 1 (dCall F_zones 1 (dCons (dVar 0) dNil)))
  (dSeq (dSet 2 (dLc2 (diKeys (dVar 1)) B_clashes_g1 B_clashes_t2 B_clashes_i3 B_clashes_g4 B_clashes_t5 B_clashes_e6 [6] [5, 6]))
  (dSeq (dSet 3 (dLc (diAny (dVar 2)) B_clashes_g7 B_clashes_t8 B_clashes_e9 [5, 6]))
  (dSeq (dSet 4 (dLc (diAny (dVar 3)) B_clashes_g10 B_clashes_t11 B_clashes_e12 [7]))
  (dRet (dOp addV (dVar 4) (dLc (diAny (dVar 3)) B_clashes_g13 B_clashes_t14 B_clashes_e15 [7]))))))
noncomputable def F_clashes : List D → Store → R D := runD B_clashes 8
noncomputable def B_next_value_g1 : DGv := dgName 3
noncomputable def B_next_value_t2 : DTv := dTest (dOp neV (dVar 3) (dVar 2))
noncomputable def B_next_value_e3 : DEv := dCall F_goes_ahead 2 (dCons (dOp ixV (dVar 0) (dVar 3)) (dCons (dOp ixV (dVar 0) (dVar 2)) dNil))
noncomputable def B_next_value_b4 : DSv := dIfS (dNot (dTest (dBlt anyV (dCons (dLc (diAny (dVar 1)) B_next_value_g1 B_next_value_t2 B_next_value_e3 [3]) dNil))))
  (dRet (dVar 2))
  dNext
noncomputable def B_next_value : DSv :=
  dSeq (dFor (diAny (dVar 1)) (dgName 2) B_next_value_b4)
  (dRet (dOp ixV (dVar 1) (dC (.int 0))))
noncomputable def F_next_value : List D → Store → R D := runD B_next_value 4
noncomputable def B_ordered_g1 : DGv := dgName 7
noncomputable def B_ordered_t2 : DTv := dTest (dOp eqL (dOp ixV (dVar 7) (dC (.int 2))) (dVar 5))
noncomputable def B_ordered_e3 : DEv := dTup (dCons (dOp eqL (dOp ixV (dVar 7) (dC (.int 1))) (dC (.str "read"))) (dCons (dOp ixV (dVar 7) (dC (.int 3))) (dCons (dOp ixV (dVar 7) (dC (.int 0))) dNil)))
noncomputable def B_ordered_g4 : DGv := dgName 7
noncomputable def B_ordered_t5 : DTv := dYes
noncomputable def B_ordered_e6 : DEv := dOp ixV (dVar 7) (dC (.int 2))
noncomputable def B_ordered_b7 : DSv := dSeq (dSet 5 (dCall F_next_value 2 (dCons (dVar 2) (dCons (dVar 3) dNil))))
  (dSeq (dDrop (dMt isLs remV (dVar 3) (dCons (dVar 5) dNil)))
  (dSeq (dSet 6 (dBlt sortedW (dCons (dLc (diAny (dVar 0)) B_ordered_g1 B_ordered_t2 B_ordered_e3 [7]) dNil)))
  (dSet 4 (dOp addV (dVar 4) (dLc (diAny (dVar 6)) B_ordered_g4 B_ordered_t5 B_ordered_e6 [7])))))
noncomputable def B_ordered_t8 : DTv := dTest (dOp neL (dVar 3) (dLst dNil))
noncomputable def B_ordered : DSv :=
  dSeq (dSet 1 (dOp addV (dCall F_earlies 1 (dCons (dVar 0) dNil)) (dCall F_clashes 1 (dCons (dVar 0) dNil))))
  (dSeq (dIfS (dTest (dOp neL (dVar 1) (dLst dNil)))
  (dRet (dOp ixV (dVar 1) (dC (.int 0))))
  dNext)
  (dSeq (dSet 2 (dCall F_zones 1 (dCons (dVar 0) dNil)))
  (dSeq (dSet 3 (dBlt listKM (dCons (dVar 2) dNil)))
  (dSeq (dSet 4 (dLst dNil))
  (dSeq (whileD B_ordered_t8 B_ordered_b7 100000)
  (dRet (dTup (dCons (dC (.str "order")) (dCons (dVar 4) dNil)))))))))
noncomputable def F_ordered : List D → Store → R D := runD B_ordered 8
noncomputable def B_is_order_g1 : DGv := dgName 11
noncomputable def B_is_order_t2 : DTv := dYes
noncomputable def B_is_order_k3 : DEv := dOp ixV (dVar 11) (dC (.int 0))
noncomputable def B_is_order_e4 : DEv := dVar 11
noncomputable def B_is_order_b5 : DSv := dSeq (dAsg (dOp ixV (dVar 2) (dVar 5)) (dgTup 5 (dgCons (dgName 6) (dgCons (dgName 7) (dgCons (dgName 8) (dgCons (dgName 9) (dgCons (dgName 10) dgNil)))))))
  (dSeq (dIfS (dOr (dTest (dOp ltV (dVar 10) (dVar 4))) (dAnd (dTest (dOp eqV (dVar 7) (dC (.str "read")))) (dTest (dOp neV (dVar 8) (dVar 3)))))
  (dRet (dC (.bl false)))
  dNext)
  (dSeq (dSet 4 (dBlt maxV (dCons (dVar 4) (dCons (dVar 9) dNil))))
  (dSet 3 (dVar 8))))
noncomputable def B_is_order : DSv :=
  dSeq (dSet 2 (dDc (diAny (dVar 0)) B_is_order_g1 B_is_order_t2 B_is_order_k3 B_is_order_e4 [11]))
  (dSeq (dIfS (dTest (dOp neV (dBlt sortDI (dCons (dVar 2) dNil)) (dBlt sortedW (dCons (dVar 1) dNil))))
  (dRet (dC (.bl false)))
  dNext)
  (dSeq (dSet 3 (dC (.int 0)))
  (dSeq (dSet 4 (dUn negV (dC (.int 1))))
  (dSeq (dFor (diAny (dVar 1)) (dgName 5) B_is_order_b5)
  (dRet (dC (.bl true)))))))
noncomputable def F_is_order : List D → Store → R D := runD B_is_order 12
noncomputable def B_law_order_right_b1 : DSv := dAsg (dVar 3) (dgSub (dVar 2) (dOp ixV (dVar 3) (dC (.int 0))))
noncomputable def B_law_order_right_g2 : DGv := dgName 6
noncomputable def B_law_order_right_t3 : DTv := dTest (dOp ltV (dOp ixV (dOp ixV (dVar 2) (dVar 6)) (dC (.int 4))) (dOp ixV (dVar 3) (dC (.int 3))))
noncomputable def B_law_order_right_e4 : DEv := dVar 6
noncomputable def B_law_order_right_b5 : DSv := dSeq (dSet 3 (dOp ixV (dVar 2) (dOp ixV (dVar 1) (dVar 5))))
  (dSeq (dIfS (dTest (dOp neV (dLc (diAny (dSl (dVar 1) (dPart (dOp addV (dVar 5) (dC (.int 1)))) dPNone)) B_law_order_right_g2 B_law_order_right_t3 B_law_order_right_e4 [6]) (dLst dNil)))
  (dRet (dC (.bl false)))
  dNext)
  (dSeq (dIfS (dAnd (dTest (dOp eqV (dOp ixV (dVar 3) (dC (.int 1))) (dC (.str "read")))) (dTest (dOp neV (dOp ixV (dVar 3) (dC (.int 2))) (dVar 4))))
  (dRet (dC (.bl false)))
  dNext)
  (dSet 4 (dOp ixV (dVar 3) (dC (.int 2))))))
noncomputable def B_law_order_right : DSv :=
  dSeq (dSet 2 dNewK)
  (dSeq (dFor (diAny (dVar 0)) (dgName 3) B_law_order_right_b1)
  (dSeq (dIfS (dOr (dNot (dTest (dBlt isiV (dCons (dVar 1) (dCons (dC (.ty "list")) dNil))))) (dTest (dOp neV (dBlt sortDI (dCons (dVar 2) dNil)) (dBlt sortedW (dCons (dVar 1) dNil)))))
  (dRet (dC (.bl false)))
  dNext)
  (dSeq (dSet 4 (dC (.int 0)))
  (dSeq (dFor (diRng1 (dCons (dBlt lenV (dCons (dVar 1) dNil)) dNil)) (dgName 5) B_law_order_right_b5)
  (dRet (dC (.bl true)))))))
noncomputable def F_law_order_right : List D → Store → R D := runD B_law_order_right 7
noncomputable def B_law_g1 : DGv := dgName 12
noncomputable def B_law_t2 : DTv := dYes
noncomputable def B_law_e3 : DEv := dOp ixV (dVar 12) (dC (.int 0))
noncomputable def B_law_b4 : DSv := dSeq (dSet 7 (dCall F_is_order 2 (dCons (dVar 3) (dCons (dBlt listV (dCons (dVar 4) dNil)) dNil))))
  (dSeq (dIfS (dOr (dNot (dTest (dBlt isiV (dCons (dVar 7) (dCons (dC (.ty "bool")) dNil))))) (dTest (dOp neL (dVar 7) (dCall F_law_order_right 2 (dCons (dVar 3) (dCons (dVar 4) dNil))))))
  (dRet (dC (.bl false)))
  dNext)
  (dIfS (dTest (dOp neL (dVar 4) (dLst dNil)))
  (dSeq (dSet 8 (dCall F_law_take 2 (dCons (dVar 2) (dCons (dBlt lenV (dCons (dVar 4) dNil)) dNil))))
  (dSeq (dSet 9 (dCall F_law_take 2 (dCons (dVar 2) (dCons (dBlt lenV (dCons (dVar 4) dNil)) dNil))))
  (dSeq (dSet 10 (dCall F_law_take 2 (dCons (dVar 2) (dCons (dC (.int 7)) dNil))))
  (dIfS (dTest (dOp ltV (dVar 10) (dC (.int 4))))
  (dAsg (dTup (dCons (dOp ixV (dVar 4) (dVar 9)) (dCons (dOp ixV (dVar 4) (dVar 8)) dNil))) (dgTup 2 (dgCons (dgSub (dVar 4) (dVar 8)) (dgCons (dgSub (dVar 4) (dVar 9)) dgNil))))
  (dIfS (dTest (dOp eqL (dVar 10) (dC (.int 4))))
  (dDrop (dMt isLs popAtV (dVar 4) (dCons (dVar 8) dNil)))
  (dIfS (dTest (dOp eqL (dVar 10) (dC (.int 5))))
  (dDrop (dMt isLs insV (dVar 4) (dCons (dVar 8) (dCons (dOp ixV (dVar 4) (dVar 9)) dNil))))
  (dAsg (dC (.int 99)) (dgSub (dVar 4) (dVar 8)))))))))
  dNext))
noncomputable def B_law_b5 : DSv := dSeq (dSet 2 (dCall F_law_bag 2 (dCons (dVar 0) (dCons (dVar 1) dNil))))
  (dSeq (dSet 3 (dCall F_law_history 2 (dCons (dVar 2) (dCons (dC (.int 8)) dNil))))
  (dSeq (dSet 11 (dCall F_law_take 2 (dCons (dVar 2) (dCons (dC (.int 3)) dNil))))
  (dSeq (dSet 4 (dLm (diAny (dSortK (("law" : Str) ++ ".<locals>." ++ "<lambda>") 11 (dVar 3))) B_law_g1 B_law_t2 B_law_e3 [12]))
  (dSeq (dSet 5 (dCall F_ordered 1 (dCons (dVar 3) dNil)))
  (dSeq (dIfS (dAnd (dTest (dOp eqL (dOp ixV (dVar 5) (dC (.int 0))) (dC (.str "order")))) (dTest (dOp eqL (dVar 11) (dC (.int 2)))))
  (dSet 4 (dBlt listM (dCons (dOp ixV (dVar 5) (dC (.int 1))) dNil)))
  dNext)
  (dSeq (dFor (diRng1 (dCons (dC (.int 7)) dNil)) (dgName 6) B_law_b4)
  (dIfS (dOr (dTest (dOp isNotB (dCall F_is_order 2 (dCons (dLst dNil) (dCons (dLst dNil) dNil))) (dC (.bl true)))) (dTest (dOp isNotB (dCall F_is_order 2 (dCons (dLst dNil) (dCons (dLst (dCons (dC (.int 7)) dNil)) dNil))) (dC (.bl false)))))
  (dRet (dC (.bl false)))
  dNext)))))))
noncomputable def B_law : DSv :=
  dSeq (dFor (diRng1 (dCons (dOp addV (dC (.int 1)) (dBlt minV (dCons (dBlt lenV (dCons (dVar 0) dNil)) (dCons (dC (.int 12)) dNil)))) dNil)) (dgName 1) B_law_b5)
  (dRet (dC (.bl true)))
noncomputable def F_law : List D → Store → R D := runD B_law 13


/-! ### what the top has left (printed by wip/gen.py) -/
structure Txt (K : PySem.W.Frag) (mg : Str → Option Value) where
  f_zones : Addr
  d_zones : FuncData
  F_zones : FunD K "zones" "zones" (defArgs s_zones) (defBody s_zones) (defScope s_zones) [] [] f_zones d_zones
  g_zones : mg "zones" = some (.ref f_zones)
  b_zones : Binds K d_zones ["history"] []
  f_goes_ahead : Addr
  d_goes_ahead : FuncData
  F_goes_ahead : FunD K "goes_ahead" "goes_ahead" (defArgs s_goes_ahead) (defBody s_goes_ahead) (defScope s_goes_ahead) [] [] f_goes_ahead d_goes_ahead
  g_goes_ahead : mg "goes_ahead" = some (.ref f_goes_ahead)
  b_goes_ahead : Binds K d_goes_ahead ["zone", "other"] []
  f_is_open : Addr
  d_is_open : FuncData
  F_is_open : FunD K "is_open" "is_open" (defArgs s_is_open) (defBody s_is_open) (defScope s_is_open) [] [] f_is_open d_is_open
  g_is_open : mg "is_open" = some (.ref f_is_open)
  b_is_open : Binds K d_is_open ["zone"] []
  f_clash : Addr
  d_clash : FuncData
  F_clash : FunD K "clash" "clash" (defArgs s_clash) (defBody s_clash) (defScope s_clash) [] [] f_clash d_clash
  g_clash : mg "clash" = some (.ref f_clash)
  b_clash : Binds K d_clash ["zone", "other"] []
  f_earlies : Addr
  d_earlies : FuncData
  F_earlies : FunD K "earlies" "earlies" (defArgs s_earlies) (defBody s_earlies) (defScope s_earlies) [] [] f_earlies d_earlies
  g_earlies : mg "earlies" = some (.ref f_earlies)
  b_earlies : Binds K d_earlies ["history"] []
  f_clashes : Addr
  d_clashes : FuncData
  F_clashes : FunD K "clashes" "clashes" (defArgs s_clashes) (defBody s_clashes) (defScope s_clashes) [] [] f_clashes d_clashes
  g_clashes : mg "clashes" = some (.ref f_clashes)
  b_clashes : Binds K d_clashes ["history"] []
  f_next_value : Addr
  d_next_value : FuncData
  F_next_value : FunD K "next_value" "next_value" (defArgs s_next_value) (defBody s_next_value) (defScope s_next_value) [] [] f_next_value d_next_value
  g_next_value : mg "next_value" = some (.ref f_next_value)
  b_next_value : Binds K d_next_value ["found", "left"] []
  f_ordered : Addr
  d_ordered : FuncData
  F_ordered : FunD K "ordered" "ordered" (defArgs s_ordered) (defBody s_ordered) (defScope s_ordered) [] [] f_ordered d_ordered
  g_ordered : mg "ordered" = some (.ref f_ordered)
  b_ordered : Binds K d_ordered ["history"] []
  f_is_order : Addr
  d_is_order : FuncData
  F_is_order : FunD K "is_order" "is_order" (defArgs s_is_order) (defBody s_is_order) (defScope s_is_order) [] [] f_is_order d_is_order
  g_is_order : mg "is_order" = some (.ref f_is_order)
  b_is_order : Binds K d_is_order ["history", "tasks"] []
  f_law_bag : Addr
  d_law_bag : FuncData
  F_law_bag : FunD K "_law_bag" "_law_bag" (defArgs s_law_bag) (defBody s_law_bag) (defScope s_law_bag) [] [] f_law_bag d_law_bag
  g__law_bag : mg "_law_bag" = some (.ref f_law_bag)
  b_law_bag : Binds K d_law_bag ["script", "k"] []
  f_law_take : Addr
  d_law_take : FuncData
  F_law_take : FunD K "_law_take" "_law_take" (defArgs s_law_take) (defBody s_law_take) (defScope s_law_take) [] [] f_law_take d_law_take
  g__law_take : mg "_law_take" = some (.ref f_law_take)
  b_law_take : Binds K d_law_take ["bag", "many"] []
  f_law_history : Addr
  d_law_history : FuncData
  F_law_history : FunD K "_law_history" "_law_history" (defArgs s_law_history) (defBody s_law_history) (defScope s_law_history) [] [] f_law_history d_law_history
  g__law_history : mg "_law_history" = some (.ref f_law_history)
  b_law_history : Binds K d_law_history ["bag", "most"] []
  f_law_order_right : Addr
  d_law_order_right : FuncData
  F_law_order_right : FunD K "_law_order_right" "_law_order_right" (defArgs s_law_order_right) (defBody s_law_order_right) (defScope s_law_order_right) [] [] f_law_order_right d_law_order_right
  g__law_order_right : mg "_law_order_right" = some (.ref f_law_order_right)
  b_law_order_right : Binds K d_law_order_right ["history", "tasks"] []
  f_law : Addr
  d_law : FuncData
  F_law : FunD K "law" "law" (defArgs s_law) (defBody s_law) (defScope s_law) [] [] f_law d_law
  g_law : mg "law" = some (.ref f_law)
  b_law : Binds K d_law ["script"] []
  z_len : mg "len" = none
  z_abs : mg "abs" = none
  z_list : mg "list" = none
  z_range : mg "range" = none
  z_max : mg "max" = none
  z_min : mg "min" = none
  z_any : mg "any" = none
  z_sorted : mg "sorted" = none
  z_isinstance : mg "isinstance" = none
  z_bool : mg "bool" = none
section
variable {P : Program} {w : World} {K : PySem.W.Frag} {mg : Str → Option Value} {base : Heap} {cm : String → Addr → Prop}
theorem ok_law_bag (T : Txt K mg) : FnOk P w K mg base (CX P w) 1 T.f_law_bag T.d_law_bag ["script", "k"] (spD K cm 2 F_law_bag) :=
  okD (N := N_law_bag) (d := B_law_bag) T.F_law_bag sc_law_bag fun cdv A outer s H E G =>
    dss_cons (ds_set (i := 2) G de_int)
    (dss_cons (ds_if (dt_cmp op_ltU cmpV_s cmpV_n (dv 1) (de_blt call_lenU lenV_s lenV_n T.z_len (da_cons (dv 0) da_nil)) (nomark _))
    (dss_one (ds_set (i := 2) G (de_blt call_abs absV_s absV_n T.z_abs (da_cons (de_ix G (dv 0) (dv 1)) da_nil))))
    dss_nil)
    (dss_cons (ds_if (dt_cmp op_ltU cmpV_s cmpV_n (dv 2) (de_pow de_int de_int) (nomark _))
    (dss_one (ds_ret (de_lstM (da_cons de_int (da_cons (de_add de_int (de_mod (de_add (de_mul (dv 2) de_int) (de_mul de_int (dv 1))) de_int)) da_nil)))))
    dss_nil)
    (dss_one (ds_ret (de_lstM (da_cons (dv 2) (da_cons (de_add de_int (de_mod (de_add (dv 2) (dv 1)) de_int)) da_nil)))))))
theorem ok_law_take (T : Txt K mg) : FnOk P w K mg base (CX P w) 1 T.f_law_take T.d_law_take ["bag", "many"] (spD K cm 2 F_law_take) :=
  okD (N := N_law_take) (d := B_law_take) T.F_law_take sc_law_take fun cdv A outer s H E G =>
    dss_cons (ds_if (dt_cmp op_gtU cmpV_s cmpV_n (de_ix G (dv 0) de_int) de_int (nomark _))
    (dss_cons (ds_set (i := 2) G (de_mod (de_ix G (dv 0) de_int) (dv 1)))
    (dss_cons (ds_asg (de_div (de_ix G (dv 0) de_int) (dv 1)) (dg_sub G (dv 0) de_int))
    (dss_one (ds_ret (dv 2)))))
    dss_nil)
    (dss_cons (ds_asg (de_mod (de_mul (de_ix G (dv 0) de_int) de_int) de_int) (dg_sub G (dv 0) de_int))
    (dss_one (ds_ret (de_mod (de_div (de_mod (de_mul (de_ix G (dv 0) de_int) (de_ix G (dv 0) de_int)) de_int) de_int) (dv 1)))))
theorem ok_law_history (T : Txt K mg) : FnOk P w K mg base (CX P w) 2 T.f_law_history T.d_law_history ["bag", "most"] (spD K cm 2 F_law_history) :=
  okD (N := N_law_history) (d := B_law_history) T.F_law_history sc_law_history fun cdv A outer s H E G =>
    dss_cons (ds_set (i := 2) G (de_call G (ok_law_take T) (G.room.mono (by decide)) T.g__law_take T.F_law_take.kp T.b_law_take (da_cons (dv 0) (da_cons (de_add (dv 1) de_int) da_nil))))
    (dss_cons (ds_set (i := 3) G (de_ix G (de_lst (da_cons de_int (da_cons de_int (da_cons de_int (da_cons de_int da_nil))))) (de_call G (ok_law_take T) (G.room.mono (by decide)) T.g__law_take T.F_law_take.kp T.b_law_take (da_cons (dv 0) (da_cons de_int da_nil)))))
    (dss_cons (ds_set (i := 4) G (de_call G (ok_law_take T) (G.room.mono (by decide)) T.g__law_take T.F_law_take.kp T.b_law_take (da_cons (dv 0) (da_cons de_int da_nil))))
    (dss_cons (ds_set (i := 5) G (de_lstM (da_cons de_int da_nil)))
    (dss_cons (ds_set (i := 6) G (de_lstM da_nil))
    (dss_cons (ds_set (i := 7) G (de_listRg G (by rfl) T.z_list (by rfl) T.z_range de_int))
    (dss_cons (ds_for (db := B_law_history_b1) G (di_rng1 (by rfl) T.z_range (da_cons (dv 2) da_nil)) (dg_name (i := 8) G)
    (dss_cons (ds_set (i := 9) G (de_add (de_mul de_int (dv 8)) de_int))
    (dss_cons (ds_set (i := 10) G (de_blt (call_max2 G.calm) maxV_s maxV_n T.z_max (da_cons de_int (da_cons (de_sub (dv 9) (de_call G (ok_law_take T) (G.room.mono (by decide)) T.g__law_take T.F_law_take.kp T.b_law_take (da_cons (dv 0) (da_cons (de_mul de_int (dv 3)) da_nil)))) da_nil))))
    (dss_cons (ds_set (i := 11) G (de_add (de_add (dv 9) de_int) (de_call G (ok_law_take T) (G.room.mono (by decide)) T.g__law_take T.F_law_take.kp T.b_law_take (da_cons (dv 0) (da_cons (de_mul de_int (dv 3)) da_nil)))))
    (dss_cons (ds_set (i := 12) G (de_lm PySem.F.slot_list_pop PySem.F.type_list_pop mt_popAt popAtV_s popAtV_n (dv 7) (da_cons (de_call G (ok_law_take T) (G.room.mono (by decide)) T.g__law_take T.F_law_take.kp T.b_law_take (da_cons (dv 0) (da_cons (de_blt call_lenU lenV_s lenV_n T.z_len (da_cons (dv 7) da_nil)) da_nil))) da_nil)))
    (dss_one (ds_if (dt_cmp (op_eqL G.room.units) eqL_s eqL_n (de_call G (ok_law_take T) (G.room.mono (by decide)) T.g__law_take T.F_law_take.kp T.b_law_take (da_cons (dv 0) (da_cons de_int da_nil))) de_int (nomark _))
    (dss_cons (ds_expr (de_lm PySem.F.slot_list_append PySem.F.type_list_append mt_append appV_s appV_n (dv 5) (da_cons (de_add de_int (de_mod (de_add (de_mul (dv 8) de_int) de_int) de_int)) da_nil)))
    (dss_one (ds_expr (de_lm PySem.F.slot_list_append PySem.F.type_list_append mt_append appV_s appV_n (dv 6) (da_cons (de_tup (da_cons (dv 12) (da_cons de_str (da_cons (de_ix G (dv 5) (de_neg de_int)) (da_cons (dv 10) (da_cons (dv 11) da_nil)))))) da_nil)))))
    (dss_cons (ds_set (i := 13) G (de_ix G (dv 5) (de_neg de_int)))
    (dss_cons (ds_if (DW.dt (dw_and (dt_cmp (op_eqL G.room.units) eqL_s eqL_n (dv 4) de_int (nomark _)) (dw_and1 (dt_cmp (op_eqL G.room.units) eqL_s eqL_n (de_call G (ok_law_take T) (G.room.mono (by decide)) T.g__law_take T.F_law_take.kp T.b_law_take (da_cons (dv 0) (da_cons de_int da_nil))) de_int (nomark _)))))
    (dss_one (ds_set (i := 13) G (de_ix G (dv 5) (de_call G (ok_law_take T) (G.room.mono (by decide)) T.g__law_take T.F_law_take.kp T.b_law_take (da_cons (dv 0) (da_cons (de_blt call_lenU lenV_s lenV_n T.z_len (da_cons (dv 5) da_nil)) da_nil))))))
    dss_nil)
    (dss_one (ds_expr (de_lm PySem.F.slot_list_append PySem.F.type_list_append mt_append appV_s appV_n (dv 6) (da_cons (de_tup (da_cons (dv 12) (da_cons de_str (da_cons (dv 13) (da_cons (dv 10) (da_cons (dv 11) da_nil)))))) da_nil)))))))))))))
    (dss_cons (ds_set (i := 14) G (de_bty call_list_of listM_s listM_n T.z_list (da_cons (dv 6) da_nil)))
    (dss_cons (ds_set (i := 6) G (de_lstM da_nil))
    (dss_cons (ds_while (dt := B_law_history_t3) (db := B_law_history_b2) 100000 G (dt_cmp (op_neL G.room.units) neL_s neL_n (dv 14) (de_lst da_nil) (nomark _))
    (dss_one (ds_expr (de_lm PySem.F.slot_list_append PySem.F.type_list_append mt_append appV_s appV_n (dv 6) (da_cons (de_lm PySem.F.slot_list_pop PySem.F.type_list_pop mt_popAt popAtV_s popAtV_n (dv 14) (da_cons (de_call G (ok_law_take T) (G.room.mono (by decide)) T.g__law_take T.F_law_take.kp T.b_law_take (da_cons (dv 0) (da_cons (de_blt call_lenU lenV_s lenV_n T.z_len (da_cons (dv 14) da_nil)) da_nil))) da_nil)) da_nil)))))
    (dss_one (ds_ret (dv 6))))))))))))
theorem ok_earlies (T : Txt K mg) : FnOk P w K mg base (CX P w) 1 T.f_earlies T.d_earlies ["history"] (spD K cm 1 F_earlies) :=
  okD (N := N_earlies) (d := B_earlies) T.F_earlies sc_earlies fun cdv A outer s H E G =>
    dss_cons (ds_set (i := 1) G (de_dc (own := [("row", 3)]) (g := gName 3) (dg := B_earlies_g1) (dt := B_earlies_t2) (dk := B_earlies_k3) (de := B_earlies_e4) G (di_any (dv 0)) (blkOk_by (N := N_earlies) (sc := defScope s_earlies) (by decide +kernel)) (fun _ _ _ _ _ G => dgo_name (i := 3) G) (fun _ _ _ _ _ G => dts_one (dt_cmp (op_eqM G.room.units) eqV_s eqV_n (de_ix G (dv 3) de_int) de_str (nomark _))) (fun _ _ _ _ _ G => de_ix G (dv 3) de_int) (fun _ _ _ _ _ G => dv 3)))
    (dss_cons (ds_setLc (i := 2) (own := [("row", 3)]) (g := gName 3) (dg := B_earlies_g5) (dt := B_earlies_t6) (de := B_earlies_e7) G (sw_true rfl rfl rfl (by decide +kernel)) (di_any (dv 0)) (blkOk_by (N := N_earlies) (sc := defScope s_earlies) (by decide +kernel)) (fun _ _ _ _ _ G => dgo_name (i := 3) G) (fun _ _ _ _ _ G => dts_one (DW.dt (dw_and (dt_cmp (op_eqM G.room.units) eqV_s eqV_n (de_ix G (dv 3) de_int) de_str (nomark _)) (dw_and1 (dt_cmp (op_inU (hu_of G.room)) inV_s inV_n (de_ix G (dv 3) de_int) (dv 1) (by rfl)))))) (fun _ _ _ _ _ G => dv 3))
    (dss_one (ds_ret (de_lc (own := [("row", 3)]) (g := gName 3) (dg := B_earlies_g8) (dt := B_earlies_t9) (de := B_earlies_e10) G (di_any (dv 2)) (blkOk_by (N := N_earlies) (sc := defScope s_earlies) (by decide +kernel)) (fun _ _ _ _ _ G => dgo_name (i := 3) G) (fun _ _ _ _ _ G => dts_one (dt_cmp op_ltU cmpV_s cmpV_n (de_ix G (dv 3) de_int) (de_ix G (de_ix G (dv 1) (de_ix G (dv 3) de_int)) de_int) (nomark _))) (fun _ _ _ _ _ G => de_tup (da_cons de_str (da_cons (de_ix G (dv 3) de_int) (da_cons (de_ix G (de_ix G (dv 1) (de_ix G (dv 3) de_int)) de_int) da_nil))))))))
theorem ok_zones (T : Txt K mg) : FnOk P w K mg base (CX P w) 1 T.f_zones T.d_zones ["history"] (spD K cm 1 F_zones) :=
  okD (N := N_zones) (d := B_zones) T.F_zones sc_zones fun cdv A outer s H E G =>
    dss_cons (ds_set (i := 1) G (de_disp (dps_cons de_int (de_tup (da_cons (de_neg de_int) (da_cons (de_neg de_int) da_nil))) dps_nil)))
    (dss_cons (ds_for (db := B_zones_b1) G (di_any (dv 0)) (dg_tup (n := 5) G (dgs_cons (dg_name (i := 2) G) (dgs_cons (dg_name (i := 3) G) (dgs_cons (dg_name (i := 4) G) (dgs_cons (dg_name (i := 5) G) (dgs_cons (dg_name (i := 6) G) dgs_nil))))))
    (dss_cons (ds_asg (de_dget G (hu_of G.room) (dv 1) (dv 4) (de_tup (da_cons (dv 6) (da_cons (dv 5) da_nil)))) (dg_tup (n := 2) G (dgs_cons (dg_name (i := 7) G) (dgs_cons (dg_name (i := 8) G) dgs_nil))))
    (dss_one (ds_asg (de_tup (da_cons (de_blt (call_min2 G.calm) minV_s minV_n T.z_min (da_cons (dv 7) (da_cons (dv 6) da_nil))) (da_cons (de_blt (call_max2 G.calm) maxV_s maxV_n T.z_max (da_cons (dv 8) (da_cons (dv 5) da_nil))) da_nil))) (dg_sub G (dv 1) (dv 4))))))
    (dss_one (ds_ret (de_frzD (dv 1)))))
theorem ok_goes_ahead (T : Txt K mg) : FnOk P w K mg base (CX P w) 1 T.f_goes_ahead T.d_goes_ahead ["zone", "other"] (spD K cm 2 F_goes_ahead) :=
  okD (N := N_goes_ahead) (d := B_goes_ahead) T.F_goes_ahead sc_goes_ahead fun cdv A outer s H E G =>
    dss_one (ds_ret (de_cmp op_ltU cmpV_s cmpV_n (de_ix G (dv 0) de_int) (de_ix G (dv 1) de_int) (nomark _)))
theorem ok_is_open (T : Txt K mg) : FnOk P w K mg base (CX P w) 1 T.f_is_open T.d_is_open ["zone"] (spD K cm 1 F_is_open) :=
  okD (N := N_is_open) (d := B_is_open) T.F_is_open sc_is_open fun cdv A outer s H E G =>
    dss_one (ds_ret (de_cmp op_ltU cmpV_s cmpV_n (de_ix G (dv 0) de_int) (de_ix G (dv 0) de_int) (nomark _)))
theorem ok_clash (T : Txt K mg) : FnOk P w K mg base (CX P w) 2 T.f_clash T.d_clash ["zone", "other"] (spD K cm 2 F_clash) :=
  okD (N := N_clash) (d := B_clash) T.F_clash sc_clash fun cdv A outer s H E G =>
    dss_cons (ds_if (DW.dt (dw_or (dt_not (dt_val (de_call G (ok_goes_ahead T) (G.room.mono (by decide)) T.g_goes_ahead T.F_goes_ahead.kp T.b_goes_ahead (da_cons (dv 0) (da_cons (dv 1) da_nil))))) (dw_or1 (dt_not (dt_val (de_call G (ok_goes_ahead T) (G.room.mono (by decide)) T.g_goes_ahead T.F_goes_ahead.kp T.b_goes_ahead (da_cons (dv 1) (da_cons (dv 0) da_nil))))))))
    (dss_one (ds_ret de_non))
    dss_nil)
    (dss_cons (ds_if (DW.dt (dw_and (dt_val (de_call G (ok_is_open T) (G.room.mono (by decide)) T.g_is_open T.F_is_open.kp T.b_is_open (da_cons (dv 0) da_nil))) (dw_and1 (dt_val (de_call G (ok_is_open T) (G.room.mono (by decide)) T.g_is_open T.F_is_open.kp T.b_is_open (da_cons (dv 1) da_nil))))))
    (dss_one (ds_ret de_str))
    dss_nil)
    (dss_one (ds_ret (de_if (dt_val (de_call G (ok_is_open T) (G.room.mono (by decide)) T.g_is_open T.F_is_open.kp T.b_is_open (da_cons (dv 0) da_nil))) de_str de_non))))
theorem ok_clashes (T : Txt K mg) : FnOk P w K mg base (CX P w) 3 T.f_clashes T.d_clashes ["history"] (spD K cm 1 F_clashes) :=
  okD (N := N_clashes) (d := B_clashes) T.F_clashes sc_clashes fun cdv A outer s H E G =>
    dss_cons (ds_set (i := 1) G (de_call G (ok_zones T) (G.room.mono (by decide)) T.g_zones T.F_zones.kp T.b_zones (da_cons (dv 0) da_nil)))
    (dss_cons (ds_setLc2 (i := 2) (own := [("one", 5), ("other", 6)]) (us := [6]) (g := gName 5) (g1 := gName 6) (dg := B_clashes_g1) (dt := B_clashes_t2) (di1 := B_clashes_i3) (dg1 := B_clashes_g4) (dt1 := B_clashes_t5) (de := B_clashes_e6) G (sw_true rfl rfl rfl (by decide +kernel)) (di_keys (dv 1)) (blkOk_by (N := N_clashes) (sc := defScope s_clashes) (by decide +kernel)) (by decide) (fun _ _ _ _ _ G => dgo_name (i := 5) G) (fun _ _ _ _ _ G => dts_nil) (fun _ _ _ _ _ G => di_keys (dv 1)) (fun _ _ _ _ _ G => dgo_name (i := 6) G) (fun _ _ _ _ _ G => dts_one (dt_cmp (op_neM G.room.units) neV_s neV_n (dv 5) (dv 6) (nomark _))) (fun _ _ _ _ _ G => de_tup (da_cons (dv 5) (da_cons (dv 6) da_nil))))
    (dss_cons (ds_setLc (i := 3) (own := [("one", 5), ("other", 6)]) (g := gTup K 2 (gCons (gName 5) (gCons (gName 6) gNil))) (dg := B_clashes_g7) (dt := B_clashes_t8) (de := B_clashes_e9) G (sw_true rfl rfl rfl (by decide +kernel)) (di_any (dv 2)) (blkOk_by (N := N_clashes) (sc := defScope s_clashes) (by decide +kernel)) (fun _ _ _ _ _ G => dgo_tup (n := 2) G (dgos_cons (dgo_name (i := 5) G) (dgos_cons (dgo_name (i := 6) G) dgos_nil))) (fun _ _ _ _ _ G => dts_nil) (fun _ _ _ _ _ G => de_tup (da_cons (de_call G (ok_clash T) (G.room.mono (by decide)) T.g_clash T.F_clash.kp T.b_clash (da_cons (de_ix G (dv 1) (dv 5)) (da_cons (de_ix G (dv 1) (dv 6)) da_nil))) (da_cons (dv 5) (da_cons (dv 6) da_nil)))))
    (dss_cons (ds_setLc (i := 4) (own := [("row", 7)]) (g := gName 7) (dg := B_clashes_g10) (dt := B_clashes_t11) (de := B_clashes_e12) G (sw_true rfl rfl rfl (by decide +kernel)) (di_any (dv 3)) (blkOk_by (N := N_clashes) (sc := defScope s_clashes) (by decide +kernel)) (fun _ _ _ _ _ G => dgo_name (i := 7) G) (fun _ _ _ _ _ G => dts_one (DW.dt (dw_and (dt_cmp (op_eqM G.room.units) eqV_s eqV_n (de_ix G (dv 7) de_int) de_str (nomark _)) (dw_and1 (dt_cmp op_ltU cmpV_s cmpV_n (de_ix G (dv 7) de_int) (de_ix G (dv 7) de_int) (nomark _)))))) (fun _ _ _ _ _ G => dv 7))
    (dss_one (ds_ret (de_add (dv 4) (de_lc (own := [("row", 7)]) (g := gName 7) (dg := B_clashes_g13) (dt := B_clashes_t14) (de := B_clashes_e15) G (di_any (dv 3)) (blkOk_by (N := N_clashes) (sc := defScope s_clashes) (by decide +kernel)) (fun _ _ _ _ _ G => dgo_name (i := 7) G) (fun _ _ _ _ _ G => dts_one (dt_cmp (op_eqM G.room.units) eqV_s eqV_n (de_ix G (dv 7) de_int) de_str (nomark _))) (fun _ _ _ _ _ G => dv 7))))))))
theorem ok_next_value (T : Txt K mg) : FnOk P w K mg base (CX P w) 2 T.f_next_value T.d_next_value ["found", "left"] (spD K cm 2 F_next_value) :=
  okD (N := N_next_value) (d := B_next_value) T.F_next_value sc_next_value fun cdv A outer s H E G =>
    dss_cons (ds_for (db := B_next_value_b4) G (di_any (dv 1)) (dg_name (i := 2) G)
    (dss_one (ds_if (dt_not (dt_val (de_blt (cr_any G.calm) anyV_s anyV_n T.z_any (da_cons (de_lc (own := [("other", 3)]) (g := gName 3) (dg := B_next_value_g1) (dt := B_next_value_t2) (de := B_next_value_e3) G (di_any (dv 1)) (blkOk_by (N := N_next_value) (sc := defScope s_next_value) (by decide +kernel)) (fun _ _ _ _ _ G => dgo_name (i := 3) G) (fun _ _ _ _ _ G => dts_one (dt_cmp (op_neM G.room.units) neV_s neV_n (dv 3) (dv 2) (nomark _))) (fun _ _ _ _ _ G => de_call G (ok_goes_ahead T) (G.room.mono (by decide)) T.g_goes_ahead T.F_goes_ahead.kp T.b_goes_ahead (da_cons (de_ix G (dv 0) (dv 3)) (da_cons (de_ix G (dv 0) (dv 2)) da_nil)))) da_nil))))
    (dss_one (ds_ret (dv 2)))
    dss_nil)))
    (dss_one (ds_ret (de_ix G (dv 1) de_int)))
theorem ok_ordered (T : Txt K mg) : FnOk P w K mg base (CX P w) 4 T.f_ordered T.d_ordered ["history"] (spD K cm 1 F_ordered) :=
  okD (N := N_ordered) (d := B_ordered) T.F_ordered sc_ordered fun cdv A outer s H E G =>
    dss_cons (ds_set (i := 1) G (de_add (de_call G (ok_earlies T) (G.room.mono (by decide)) T.g_earlies T.F_earlies.kp T.b_earlies (da_cons (dv 0) da_nil)) (de_call G (ok_clashes T) (G.room.mono (by decide)) T.g_clashes T.F_clashes.kp T.b_clashes (da_cons (dv 0) da_nil))))
    (dss_cons (ds_if (dt_cmp (op_neL G.room.units) neL_s neL_n (dv 1) (de_lst da_nil) (nomark _))
    (dss_one (ds_ret (de_ix G (dv 1) de_int)))
    dss_nil)
    (dss_cons (ds_set (i := 2) G (de_call G (ok_zones T) (G.room.mono (by decide)) T.g_zones T.F_zones.kp T.b_zones (da_cons (dv 0) da_nil)))
    (dss_cons (ds_set (i := 3) G (de_bty (call_listD G.calm) listKM_s listKM_n T.z_list (da_cons (dv 2) da_nil)))
    (dss_cons (ds_set (i := 4) G (de_lst da_nil))
    (dss_cons (ds_while (dt := B_ordered_t8) (db := B_ordered_b7) 100000 G (dt_cmp (op_neL G.room.units) neL_s neL_n (dv 3) (de_lst da_nil) (nomark _))
    (dss_cons (ds_set (i := 5) G (de_call G (ok_next_value T) (G.room.mono (by decide)) T.g_next_value T.F_next_value.kp T.b_next_value (da_cons (dv 2) (da_cons (dv 3) da_nil))))
    (dss_cons (ds_expr (de_lm PySem.F.slot_list_remove PySem.F.type_list_remove mt_remove remV_s remV_n (dv 3) (da_cons (dv 5) da_nil)))
    (dss_cons (ds_set (i := 6) G (de_blt (call_sortedW G.calm G.room.units) sortedW_s sortedW_n T.z_sorted (da_cons (de_lc (own := [("row", 7)]) (g := gName 7) (dg := B_ordered_g1) (dt := B_ordered_t2) (de := B_ordered_e3) G (di_any (dv 0)) (blkOk_by (N := N_ordered) (sc := defScope s_ordered) (by decide +kernel)) (fun _ _ _ _ _ G => dgo_name (i := 7) G) (fun _ _ _ _ _ G => dts_one (dt_cmp (op_eqL G.room.units) eqL_s eqL_n (de_ix G (dv 7) de_int) (dv 5) (nomark _))) (fun _ _ _ _ _ G => de_tup (da_cons (de_cmp (op_eqL G.room.units) eqL_s eqL_n (de_ix G (dv 7) de_int) de_str (nomark _)) (da_cons (de_ix G (dv 7) de_int) (da_cons (de_ix G (dv 7) de_int) da_nil))))) da_nil)))
    (dss_one (ds_set (i := 4) G (de_add (dv 4) (de_lc (own := [("row", 7)]) (g := gName 7) (dg := B_ordered_g4) (dt := B_ordered_t5) (de := B_ordered_e6) G (di_any (dv 6)) (blkOk_by (N := N_ordered) (sc := defScope s_ordered) (by decide +kernel)) (fun _ _ _ _ _ G => dgo_name (i := 7) G) (fun _ _ _ _ _ G => dts_nil) (fun _ _ _ _ _ G => de_ix G (dv 7) de_int)))))))))
    (dss_one (ds_ret (de_tup (da_cons de_str (da_cons (dv 4) da_nil))))))))))
theorem ok_is_order (T : Txt K mg) : FnOk P w K mg base (CX P w) 1 T.f_is_order T.d_is_order ["history", "tasks"] (spD K cm 2 F_is_order) :=
  okD (N := N_is_order) (d := B_is_order) T.F_is_order sc_is_order fun cdv A outer s H E G =>
    dss_cons (ds_setDc (i := 2) (own := [("row", 11)]) (g := gName 11) (dg := B_is_order_g1) (dt := B_is_order_t2) (dk := B_is_order_k3) (de := B_is_order_e4) G (sw_dc rfl rfl rfl (by decide +kernel)) (di_any (dv 0)) (blkOk_by (N := N_is_order) (sc := defScope s_is_order) (by decide +kernel)) (fun _ _ _ _ _ G => dgo_name (i := 11) G) (fun _ _ _ _ _ G => dts_nil) (fun _ _ _ _ _ G => de_ix G (dv 11) de_int) (fun _ _ _ _ _ G => dv 11))
    (dss_cons (ds_if (dt_cmp (op_neM G.room.units) neV_s neV_n (de_blt (call_sortedDI G.calm) sortDI_s sortDI_n T.z_sorted (da_cons (dv 2) da_nil)) (de_blt (call_sortedW G.calm G.room.units) sortedW_s sortedW_n T.z_sorted (da_cons (dv 1) da_nil)) (nomark _))
    (dss_one (ds_ret de_bl))
    dss_nil)
    (dss_cons (ds_set (i := 3) G de_int)
    (dss_cons (ds_set (i := 4) G (de_neg de_int))
    (dss_cons (ds_for (db := B_is_order_b5) G (di_any (dv 1)) (dg_name (i := 5) G)
    (dss_cons (ds_asg (de_ix G (dv 2) (dv 5)) (dg_tup (n := 5) G (dgs_cons (dg_name (i := 6) G) (dgs_cons (dg_name (i := 7) G) (dgs_cons (dg_name (i := 8) G) (dgs_cons (dg_name (i := 9) G) (dgs_cons (dg_name (i := 10) G) dgs_nil)))))))
    (dss_cons (ds_if (DW.dt (dw_or (dt_cmp op_ltU cmpV_s cmpV_n (dv 10) (dv 4) (nomark _)) (dw_or1 (DW.dt (dw_and (dt_cmp (op_eqM G.room.units) eqV_s eqV_n (dv 7) de_str (nomark _)) (dw_and1 (dt_cmp (op_neM G.room.units) neV_s neV_n (dv 8) (dv 3) (nomark _))))))))
    (dss_one (ds_ret de_bl))
    dss_nil)
    (dss_cons (ds_set (i := 4) G (de_blt (call_max2 G.calm) maxV_s maxV_n T.z_max (da_cons (dv 4) (da_cons (dv 9) da_nil))))
    (dss_one (ds_set (i := 3) G (dv 8)))))))
    (dss_one (ds_ret de_bl))))))
theorem ok_law_order_right (T : Txt K mg) : FnOk P w K mg base (CX P w) 1 T.f_law_order_right T.d_law_order_right ["history", "tasks"] (spD K cm 2 F_law_order_right) :=
  okD (N := N_law_order_right) (d := B_law_order_right) T.F_law_order_right sc_law_order_right fun cdv A outer s H E G =>
    dss_cons (ds_set (i := 2) G de_dnewK)
    (dss_cons (ds_for (db := B_law_order_right_b1) G (di_any (dv 0)) (dg_name (i := 3) G)
    (dss_one (ds_asg (dv 3) (dg_sub G (dv 2) (de_ix G (dv 3) de_int)))))
    (dss_cons (ds_if (DW.dt (dw_or (dt_not (dt_val (de_blt call_isiU isiV_s isiV_n T.z_isinstance (da_cons (dv 1) (da_cons (de_ty (n := "list") (by rfl) T.z_list (by decide +kernel)) da_nil))))) (dw_or1 (dt_cmp (op_neM G.room.units) neV_s neV_n (de_blt (call_sortedDI G.calm) sortDI_s sortDI_n T.z_sorted (da_cons (dv 2) da_nil)) (de_blt (call_sortedW G.calm G.room.units) sortedW_s sortedW_n T.z_sorted (da_cons (dv 1) da_nil)) (nomark _)))))
    (dss_one (ds_ret de_bl))
    dss_nil)
    (dss_cons (ds_set (i := 4) G de_int)
    (dss_cons (ds_for (db := B_law_order_right_b5) G (di_rng1 (by rfl) T.z_range (da_cons (de_blt call_lenU lenV_s lenV_n T.z_len (da_cons (dv 1) da_nil)) da_nil)) (dg_name (i := 5) G)
    (dss_cons (ds_set (i := 3) G (de_ix G (dv 2) (de_ix G (dv 1) (dv 5))))
    (dss_cons (ds_if (dt_cmp (op_neM G.room.units) neV_s neV_n (de_lc (own := [("task", 6)]) (g := gName 6) (dg := B_law_order_right_g2) (dt := B_law_order_right_t3) (de := B_law_order_right_e4) G (di_any (de_sl (dv 1) (dp_some (de_add (dv 5) de_int)) dp_none)) (blkOk_by (N := N_law_order_right) (sc := defScope s_law_order_right) (by decide +kernel)) (fun _ _ _ _ _ G => dgo_name (i := 6) G) (fun _ _ _ _ _ G => dts_one (dt_cmp op_ltU cmpV_s cmpV_n (de_ix G (de_ix G (dv 2) (dv 6)) de_int) (de_ix G (dv 3) de_int) (nomark _))) (fun _ _ _ _ _ G => dv 6)) (de_lst da_nil) (nomark _))
    (dss_one (ds_ret de_bl))
    dss_nil)
    (dss_cons (ds_if (DW.dt (dw_and (dt_cmp (op_eqM G.room.units) eqV_s eqV_n (de_ix G (dv 3) de_int) de_str (nomark _)) (dw_and1 (dt_cmp (op_neM G.room.units) neV_s neV_n (de_ix G (dv 3) de_int) (dv 4) (nomark _)))))
    (dss_one (ds_ret de_bl))
    dss_nil)
    (dss_one (ds_set (i := 4) G (de_ix G (dv 3) de_int)))))))
    (dss_one (ds_ret de_bl))))))
theorem ok_law (T : Txt K mg) {cc P0 : Addr} (TB : LamX.TabB base mg cc P0) (hfd : T.d_law.code = .ref cc) : FnOk P w K mg base (CX P w) 5 T.f_law T.d_law ["script"] (spD K (cmT P0) 1 F_law) :=
  okDC (N := N_law) (d := B_law) T.F_law hfd sc_law fun A outer s H E G =>
    dss_cons (ds_for (db := B_law_b5) G (di_rng1 (by rfl) T.z_range (da_cons (de_add de_int (de_blt (call_min2 G.calm) minV_s minV_n T.z_min (da_cons (de_blt call_lenU lenV_s lenV_n T.z_len (da_cons (dv 0) da_nil)) (da_cons de_int da_nil)))) da_nil)) (dg_name (i := 1) G)
    (dss_cons (ds_set (i := 2) G (de_call G (ok_law_bag T) (G.room.mono (by decide)) T.g__law_bag T.F_law_bag.kp T.b_law_bag (da_cons (dv 0) (da_cons (dv 1) da_nil))))
    (dss_cons (ds_set (i := 3) G (de_call G (ok_law_history T) (G.room.mono (by decide)) T.g__law_history T.F_law_history.kp T.b_law_history (da_cons (dv 2) (da_cons de_int da_nil))))
    (dss_cons (ds_set (i := 11) G (de_call G (ok_law_take T) (G.room.mono (by decide)) T.g__law_take T.F_law_take.kp T.b_law_take (da_cons (dv 2) (da_cons de_int da_nil))))
    (dss_cons (ds_setLm (i := 4) (own := [("row", 12)]) (g := gName 12) (dg := B_law_g1) (dt := B_law_t2) (de := B_law_e3) G (sw_true rfl rfl rfl (by decide +kernel)) (di_any (de_sortK (q := (("law" : Str) ++ ".<locals>." ++ "<lambda>")) (iw := 11) G (dv 3) TB rfl rfl ⟨rfl, rfl, rfl, rfl, rfl, by decide +kernel⟩ (by rfl) T.z_sorted rfl rfl (by exact (show ∀ y ∈ ([(("row" : Str), NameKind.local), (("way" : Str), NameKind.free)] : List (Str × NameKind)), y.2 = .free → (defScope s_law).names.lookup y.1 = some .cell from by decide +kernel)))) (blkOk_by (N := N_law) (sc := defScope s_law) (by decide +kernel)) (fun _ _ _ _ _ G => dgo_name (i := 12) G) (fun _ _ _ _ _ G => dts_nil) (fun _ _ _ _ _ G => de_ix G (dv 12) de_int))
    (dss_cons (ds_set (i := 5) G (de_call G (ok_ordered T) (G.room.mono (by decide)) T.g_ordered T.F_ordered.kp T.b_ordered (da_cons (dv 3) da_nil)))
    (dss_cons (ds_if (DW.dt (dw_and (dt_cmp (op_eqL G.room.units) eqL_s eqL_n (de_ix G (dv 5) de_int) de_str (nomark _)) (dw_and1 (dt_cmp (op_eqL G.room.units) eqL_s eqL_n (dv 11) de_int (nomark _)))))
    (dss_one (ds_set (i := 4) G (de_bty call_list_of listM_s listM_n T.z_list (da_cons (de_ix G (dv 5) de_int) da_nil))))
    dss_nil)
    (dss_cons (ds_for (db := B_law_b4) G (di_rng1 (by rfl) T.z_range (da_cons de_int da_nil)) (dg_name (i := 6) G)
    (dss_cons (ds_set (i := 7) G (de_call G (ok_is_order T) (G.room.mono (by decide)) T.g_is_order T.F_is_order.kp T.b_is_order (da_cons (dv 3) (da_cons (de_bty call_list_of listV_s listV_n T.z_list (da_cons (dv 4) da_nil)) da_nil))))
    (dss_cons (ds_if (DW.dt (dw_or (dt_not (dt_val (de_blt call_isiU isiV_s isiV_n T.z_isinstance (da_cons (dv 7) (da_cons (de_ty (n := "bool") (by rfl) T.z_bool (by decide +kernel)) da_nil))))) (dw_or1 (dt_cmp (op_neL G.room.units) neL_s neL_n (dv 7) (de_call G (ok_law_order_right T) (G.room.mono (by decide)) T.g__law_order_right T.F_law_order_right.kp T.b_law_order_right (da_cons (dv 3) (da_cons (dv 4) da_nil))) (nomark _)))))
    (dss_one (ds_ret de_bl))
    dss_nil)
    (dss_one (ds_if (dt_cmp (op_neL G.room.units) neL_s neL_n (dv 4) (de_lst da_nil) (nomark _))
    (dss_cons (ds_set (i := 8) G (de_call G (ok_law_take T) (G.room.mono (by decide)) T.g__law_take T.F_law_take.kp T.b_law_take (da_cons (dv 2) (da_cons (de_blt call_lenU lenV_s lenV_n T.z_len (da_cons (dv 4) da_nil)) da_nil))))
    (dss_cons (ds_set (i := 9) G (de_call G (ok_law_take T) (G.room.mono (by decide)) T.g__law_take T.F_law_take.kp T.b_law_take (da_cons (dv 2) (da_cons (de_blt call_lenU lenV_s lenV_n T.z_len (da_cons (dv 4) da_nil)) da_nil))))
    (dss_cons (ds_set (i := 10) G (de_call G (ok_law_take T) (G.room.mono (by decide)) T.g__law_take T.F_law_take.kp T.b_law_take (da_cons (dv 2) (da_cons de_int da_nil))))
    (dss_one (ds_if (dt_cmp op_ltU cmpV_s cmpV_n (dv 10) de_int (nomark _))
    (dss_one (ds_asg (de_tup (da_cons (de_ix G (dv 4) (dv 9)) (da_cons (de_ix G (dv 4) (dv 8)) da_nil))) (dg_tup (n := 2) G (dgs_cons (dg_sub G (dv 4) (dv 8)) (dgs_cons (dg_sub G (dv 4) (dv 9)) dgs_nil)))))
    (dss_one (ds_if (dt_cmp (op_eqL G.room.units) eqL_s eqL_n (dv 10) de_int (nomark _))
    (dss_one (ds_expr (de_lm PySem.F.slot_list_pop PySem.F.type_list_pop mt_popAt popAtV_s popAtV_n (dv 4) (da_cons (dv 8) da_nil))))
    (dss_one (ds_if (dt_cmp (op_eqL G.room.units) eqL_s eqL_n (dv 10) de_int (nomark _))
    (dss_one (ds_expr (de_lm PySem.F.slot_list_insert PySem.F.type_list_insert mt_insert insV_s insV_n (dv 4) (da_cons (dv 8) (da_cons (de_ix G (dv 4) (dv 9)) da_nil)))))
    (dss_one (ds_asg de_int (dg_sub G (dv 4) (dv 8)))))))))))))
    dss_nil)))))
    (dss_one (ds_if (DW.dt (dw_or (dt_cmp op_nB isNotB_s isNotB_n (de_call G (ok_is_order T) (G.room.mono (by decide)) T.g_is_order T.F_is_order.kp T.b_is_order (da_cons (de_lst da_nil) (da_cons (de_lst da_nil) da_nil))) de_bl (nomark _)) (dw_or1 (dt_cmp op_nB isNotB_s isNotB_n (de_call G (ok_is_order T) (G.room.mono (by decide)) T.g_is_order T.F_is_order.kp T.b_is_order (da_cons (de_lst da_nil) (da_cons (de_lst (da_cons de_int da_nil)) da_nil))) de_bl (nomark _)))))
    (dss_one (ds_ret de_bl))
    dss_nil))))))))))
    (dss_one (ds_ret de_bl))
end
/-! ### draws -/
theorem wp_bag {ns : List Int} {k : Nat} {S : Store} {α : Type} {kk : D → Store → R α} {P : α → Store → Prop} (q : ∀ b S', b = S.length → BagAt S' b → (∀ (n : Nat) (o : O), S[n]? = some o → S'[n]? = some o) → S.length ≤ S'.length → wpE (kk (.loc b) S') P) : wpE ((F_law_bag [.scr (ns.map D.int), .int k] S).bind kk) P := by
  have fin : ∀ x y : Int, wpE (kk (.loc S.length) (S ++ [.lst [.int x, .int y]])) P := fun x y =>
    q _ _ rfl ⟨x, y, app_at⟩ (fun n o e => by rw [List.getElem?_append_left (List.getElem?_eq_some_iff.mp e).1]; exact e) (by simp)
  unfold F_law_bag B_law_bag
  walk_at "ev"
  rw [List.length_map]
  by_cases hk : (k : Int) < ns.length
  · have e : atI (ns.map D.int) (k : Int) = some (.int (ns.getD k 0)) := by
      rw [atI_nat', List.getElem?_map, List.getElem?_eq_getElem (by omega)]
      simp [List.getD_eq_getElem?_getD, List.getElem?_eq_getElem (show k < ns.length by omega)]
    simp only [hk, decide_true, if_true, e]
    walk_at "ev"
    refine wp_iteB (fun _ => ?_) (fun _ => ?_) <;> (walk_at "ev"; exact fin _ _)
  · simp only [hk, decide_false, Bool.false_eq_true, if_false]
    walk_at "ev"
    exact fin _ _
theorem wp_take {S : Store} {b : Nat} {m : Int} {α : Type} {k : D → Store → R α} {P : α → Store → Prop} (h : BagAt S b) (hm : 0 < m) (hm2 : m < 10 ^ 60) (q : ∀ r S', 0 ≤ r → r < m → Fr b S S' → wpE (k (.int r) S') P) : wpE ((F_law_take [.loc b, .int m] S).bind k) P := by
  have hl := h.lt
  obtain ⟨b0, b1, h⟩ := h
  unfold F_law_take B_law_take
  walk_at "ev"
  by_cases h0 : 0 < b0
  · simp only [h0, decide_true, if_true]
    walk_at "ev"
    exact q _ _ (Int.emod_nonneg _ (by omega)) (Int.emod_lt_of_pos _ hm) (.set hl)
  · simp only [h0, decide_false, Bool.false_eq_true, if_false]
    walk_at "ev"
    exact q _ _ (Int.emod_nonneg _ (by omega)) (Int.emod_lt_of_pos _ hm) (.set hl)
/-! ### histories: the mathematics -/
structure HRow where
  task : Int
  wr : Bool
  val : Int
  beg : Int
  fin : Int
deriving DecidableEq
/-- done one by one, as a store without copies does, from what was written last -/
def HSeq : List HRow → Int → Prop
  | [], _ => True
  | r :: l, last => (r.wr = true ∨ r.val = last) ∧ (∀ o ∈ l, ¬ o.fin < r.beg) ∧ HSeq l r.val
structure HOk (h : List HRow) : Prop where
  few : h.length ≤ 60
  tasks : (h.map (·.task)).Nodup
  times : ∀ r ∈ h, 0 ≤ r.beg ∧ r.beg < r.fin
  writes : ∀ r ∈ h, r.wr = true → 1 ≤ r.val
  uniq : ∀ r ∈ h, ∀ o ∈ h, r.wr = true → o.wr = true → r.val = o.val → r = o
  reads : ∀ r ∈ h, r.wr = false → 0 ≤ r.val ∧ (r.val = 0 ∨ ∃ w ∈ h, w.wr = true ∧ w.val = r.val)
theorem HOk.nodup {h : List HRow} (x : HOk h) : h.Nodup := (List.pairwise_map.mp x.tasks).imp fun e z => e (by rw [z])
/-- what was left does not come back -/
theorem seq_gone {u : Int} : ∀ {l : List HRow} {last : Int}, HSeq l last → (∀ r ∈ l, r.wr = true → r.val ≠ u) → u ≠ last → ∀ r ∈ l, r.val ≠ u
  | [], _, _, _, _, _, h => by cases h
  | r :: l, last, ⟨h1, _, h3⟩, hw, ne, x, hx => by
    have hr : r.val ≠ u := by
      rcases h1 with h1 | h1
      · exact hw r List.mem_cons_self h1
      · rw [h1]; exact Ne.symm ne
    rcases List.mem_cons.mp hx with rfl | hx
    · exact hr
    · exact seq_gone h3 (fun r hr => hw r (List.mem_cons_of_mem _ hr)) (Ne.symm hr) x hx
theorem seq_after {a b : Int} (ne : a ≠ b) : ∀ {l : List HRow}, HSeq l a → (∀ r ∈ l, r.wr = true → r.val ≠ a) → ∀ x ∈ l, ∀ y ∈ l, x.val = a → y.val = b → ¬ y.fin < x.beg
  | [], _, _, _, h, _, _, _, _ => by cases h
  | r :: l, ⟨_, h2, h3⟩, hw, x, hx, y, hy, ex, ey => by
    have hw' : ∀ r ∈ l, r.wr = true → r.val ≠ a := fun r hr => hw r (List.mem_cons_of_mem _ hr)
    by_cases e : r.val = a
    · rcases List.mem_cons.mp hy with rfl | hy2
      · exact absurd (e.symm.trans ey) ne
      · rcases List.mem_cons.mp hx with rfl | hx2
        · exact h2 y hy2
        · exact seq_after ne (e ▸ h3) hw' x hx2 y hy2 ex ey
    · rcases List.mem_cons.mp hx with rfl | hx
      · exact absurd ex e
      · exact absurd ex (seq_gone h3 hw' (Ne.symm e) x hx)
/-- two values: the tasks of the one all stand ahead of those of the other one -/
theorem seq_apart {a b : Int} (ne : a ≠ b) : ∀ {l : List HRow} {last : Int}, HSeq l last → (∀ r ∈ l, r.wr = true → r.val ≠ last) → l.Pairwise (fun r o => r.wr = true → o.wr = true → r.val ≠ o.val) →
    (∀ x ∈ l, ∀ y ∈ l, x.val = a → y.val = b → ¬ y.fin < x.beg) ∨ (∀ x ∈ l, ∀ y ∈ l, x.val = a → y.val = b → ¬ x.fin < y.beg)
  | [], _, _, _, _ => .inl fun x h => by cases h
  | r :: l, last, ⟨h1, h2, h3⟩, hw, hu => by
    rw [List.pairwise_cons] at hu
    have hr : ∀ o ∈ l, o.wr = true → o.val ≠ r.val := fun o ho e => by
      rcases h1 with h1 | h1
      · exact Ne.symm (hu.1 o ho h1 e)
      · rw [h1]; exact hw o (List.mem_cons_of_mem _ ho) e
    by_cases ea : r.val = a
    · refine .inl fun x hx y hy ex ey => ?_
      rcases List.mem_cons.mp hy with rfl | hy2
      · exact absurd (ea.symm.trans ey) ne
      · rcases List.mem_cons.mp hx with rfl | hx2
        · exact h2 y hy2
        · exact seq_after ne (ea ▸ h3) (ea ▸ hr) x hx2 y hy2 ex ey
    · by_cases eb : r.val = b
      · refine .inr fun x hx y hy ex ey => ?_
        rcases List.mem_cons.mp hx with rfl | hx2
        · exact absurd ex ea
        · rcases List.mem_cons.mp hy with rfl | hy2
          · exact h2 x hx2
          · exact seq_after (Ne.symm ne) (eb ▸ h3) (eb ▸ hr) y hy2 x hx2 ey ex
      · have drop : ∀ {x : HRow} {c : Int}, x ∈ r :: l → x.val = c → r.val ≠ c → x ∈ l := fun {x c} hx ex nc => by
          rcases List.mem_cons.mp hx with rfl | hx
          · exact absurd ex nc
          · exact hx
        rcases seq_apart ne h3 hr hu.2 with h | h
        · exact .inl fun x hx y hy ex ey => h x (drop hx ex ea) y (drop hy ey eb) ex ey
        · exact .inr fun x hx y hy ex ey => h x (drop hx ex ea) y (drop hy ey eb) ex ey
/-- a write stands ahead of its reads -/
theorem seq_write {w r : HRow} (hw : w.wr = true) (e : r.val = w.val) : ∀ {l : List HRow} {last : Int}, HSeq l last → w.val ≠ last → l.Pairwise (fun r o => r.wr = true → o.wr = true → r.val ≠ o.val) → w ∈ l → r ∈ l → r = w ∨ ¬ r.fin < w.beg
  | [], _, _, _, _, h, _ => by cases h
  | x :: l, last, ⟨h1, h2, h3⟩, ne, hu, mw, mr => by
    rw [List.pairwise_cons] at hu
    rcases List.mem_cons.mp mw with rfl | mw
    · rcases List.mem_cons.mp mr with rfl | mr
      · exact .inl rfl
      · exact .inr (h2 r mr)
    · have nx : x.val ≠ w.val := by
        rcases h1 with h1 | h1
        · exact hu.1 w mw h1 hw
        · rw [h1]; exact Ne.symm ne
      rcases List.mem_cons.mp mr with rfl | mr
      · exact absurd e nx
      · exact seq_write hw e h3 (Ne.symm nx) hu.2 mw mr
/-! zones -/
abbrev Zone := Int × Int
def goesB (p q : Zone) : Bool := decide (p.1 < q.2)
def openB (p : Zone) : Bool := decide (p.1 < p.2)
/-- what a value's zone is -/
structure IsZone (h : List HRow) (v : Int) (p : Zone) : Prop where
  le : ∀ r ∈ h, r.val = v → p.1 ≤ r.fin ∧ r.beg ≤ p.2
  nought : v = 0 → p.1 ≤ -1 ∧ -1 ≤ p.2
  at1 : (v = 0 ∧ p.1 = -1) ∨ ∃ r ∈ h, r.val = v ∧ r.fin = p.1
  at2 : (v = 0 ∧ p.2 = -1) ∨ ∃ r ∈ h, r.val = v ∧ r.beg = p.2
def noughtR : HRow := ⟨-1, true, 0, -1, -1⟩
theorem pw_perm {h p : List HRow} (ok : HOk h) (hp : p.Perm h) : p.Pairwise fun r o => r.wr = true → o.wr = true → r.val ≠ o.val := by
  have nd : p.Nodup := hp.nodup_iff.mpr ok.nodup
  have key : ∀ l : List HRow, l.Nodup → (∀ r ∈ l, r ∈ h) → l.Pairwise fun r o => r.wr = true → o.wr = true → r.val ≠ o.val := by
    intro l
    induction l with
    | nil => intro _ _; exact .nil
    | cons r l ih =>
      intro n m
      rw [List.nodup_cons] at n
      refine List.pairwise_cons.mpr ⟨fun o ho a b e => ?_, ih n.2 fun r hr => m r (List.mem_cons_of_mem _ hr)⟩
      exact n.1 ((ok.uniq r (m r List.mem_cons_self) o (m o (List.mem_cons_of_mem _ ho)) a b e) ▸ ho)
  exact key p nd fun r hr => hp.mem_iff.mp hr
/-- two values that must go ahead of one another: there is no order -/
theorem no_both {h : List HRow} (ok : HOk h) {a b : Int} {p q : Zone} (ne : a ≠ b) (za : IsZone h a p) (zb : IsZone h b q) (h1 : p.1 < q.2) (h2 : q.1 < p.2) : ¬ ∃ l, l.Perm h ∧ HSeq l 0 := by
  rintro ⟨l, hl, hs⟩
  have mem : ∀ r, r ∈ l ↔ r ∈ h := fun r => hl.mem_iff
  have s2 : HSeq (noughtR :: l) (-5) := ⟨.inl rfl, fun o ho z => by have := ok.times o ((mem o).mp ho); have z : o.fin < -1 := z; omega, hs⟩
  have w2 : ∀ r ∈ noughtR :: l, r.wr = true → r.val ≠ -5 := fun r hr e => by
    rcases List.mem_cons.mp hr with rfl | hr
    · decide
    · have := ok.writes r ((mem r).mp hr) e
      omega
  have u2 : (noughtR :: l).Pairwise fun r o => r.wr = true → o.wr = true → r.val ≠ o.val := List.pairwise_cons.mpr ⟨fun o ho _ b e => by
    have := ok.writes o ((mem o).mp ho) b
    have e : (0 : Int) = o.val := e
    omega, pw_perm ok hl⟩
  have fin : ∀ {v : Int} {p : Zone}, IsZone h v p → ∃ x ∈ noughtR :: l, x.val = v ∧ x.fin = p.1 := fun {v p} z => by
    rcases z.at1 with ⟨e1, e2⟩ | ⟨r, hr, e1, e2⟩
    · exact ⟨noughtR, List.mem_cons_self, e1.symm, e2.symm⟩
    · exact ⟨r, List.mem_cons_of_mem _ ((mem r).mpr hr), e1, e2⟩
  have beg : ∀ {v : Int} {p : Zone}, IsZone h v p → ∃ x ∈ noughtR :: l, x.val = v ∧ x.beg = p.2 := fun {v p} z => by
    rcases z.at2 with ⟨e1, e2⟩ | ⟨r, hr, e1, e2⟩
    · exact ⟨noughtR, List.mem_cons_self, e1.symm, e2.symm⟩
    · exact ⟨r, List.mem_cons_of_mem _ ((mem r).mpr hr), e1, e2⟩
  obtain ⟨x1, m1, v1, f1⟩ := fin za
  obtain ⟨x2, m2, v2, f2⟩ := beg za
  obtain ⟨y1, n1, w1, g1⟩ := fin zb
  obtain ⟨y2, n2, w3, g2⟩ := beg zb
  rcases seq_apart ne s2 w2 u2 with z | z
  · have := z x2 m2 y1 n1 v2 w1
    omega
  · have := z x1 m1 y2 n2 v1 w3
    omega
theorem no_early {h : List HRow} (ok : HOk h) {r w : HRow} (hr : r ∈ h) (hw : w ∈ h) (a : r.wr = false) (b : w.wr = true) (e : r.val = w.val) (lt : r.fin < w.beg) : ¬ ∃ l, l.Perm h ∧ HSeq l 0 := by
  rintro ⟨l, hl, hs⟩
  have := ok.writes w hw b
  rcases seq_write b e hs (by omega) (pw_perm ok hl) (hl.mem_iff.mpr hw) (hl.mem_iff.mpr hr) with z | z
  · rw [z, b] at a
    cases a
  · exact z lt
/-! orders made -/
theorem seq_block {v : Int} : ∀ {l1 l2 : List HRow} {last : Int}, (∀ r ∈ l1, r.val = v) → (last = v ∨ ∃ w t, l1 = w :: t ∧ w.wr = true) → l1.Pairwise (fun x y => ¬ y.fin < x.beg) → (∀ x ∈ l1, ∀ y ∈ l2, ¬ y.fin < x.beg) → (l1 = [] → last = v) → HSeq l2 v → HSeq (l1 ++ l2) last
  | [], l2, last, _, _, _, _, hn, h2 => by
    rw [hn rfl]
    exact h2
  | r :: l1, l2, last, hv, hw, hp, hc, _, h2 => by
    rw [List.pairwise_cons] at hp
    have ev := hv r List.mem_cons_self
    refine ⟨?_, fun o ho => ?_, ?_⟩
    · rcases hw with hw | ⟨w, t, e, hw⟩
      · exact .inr (by rw [ev, hw])
      · cases e
        exact .inl hw
    · rcases List.mem_append.mp ho with ho | ho
      · exact hp.1 o ho
      · exact hc r List.mem_cons_self o ho
    · rw [ev]
      exact seq_block (fun x hx => hv x (List.mem_cons_of_mem _ hx)) (.inl rfl) hp.2 (fun x hx => hc x (List.mem_cons_of_mem _ hx)) (fun _ => rfl) h2
theorem min_by {α : Type} (f : α → Int) : ∀ {l : List α}, l ≠ [] → ∃ a ∈ l, ∀ b ∈ l, f a ≤ f b
  | [], h => absurd rfl h
  | [a], _ => ⟨a, by simp, fun b hb => by rw [List.mem_singleton.mp hb]; exact Int.le_refl _⟩
  | a :: c :: l, _ => by
    obtain ⟨m, hm, h⟩ := min_by f (l := c :: l) (by simp)
    by_cases e : f a ≤ f m
    · refine ⟨a, List.mem_cons_self, fun b hb => ?_⟩
      rcases List.mem_cons.mp hb with rfl | hb
      · exact Int.le_refl _
      · exact Int.le_trans e (h b hb)
    · refine ⟨m, List.mem_cons_of_mem _ hm, fun b hb => ?_⟩
      rcases List.mem_cons.mp hb with rfl | hb
      · omega
      · exact h b hb
/-- where no two values must go ahead of one another, one has no other ahead of it -/
theorem first_value {z : Int → Zone} {left : List Int} (hl : left ≠ []) (free : ∀ a ∈ left, ∀ b ∈ left, a ≠ b → ¬ ((z a).1 < (z b).2 ∧ (z b).1 < (z a).2)) : ∃ v ∈ left, ∀ u ∈ left, u ≠ v → ¬ (z u).1 < (z v).2 := by
  by_cases ho : (left.filter fun v => decide ((z v).1 < (z v).2)) = []
  · obtain ⟨c, hc, mc⟩ := min_by (fun v => (z v).1) hl
    refine ⟨c, hc, fun u hu ne lt => ?_⟩
    have cl : ∀ v ∈ left, ¬ (z v).1 < (z v).2 := fun v hv lt => by
      have : v ∈ left.filter fun v => decide ((z v).1 < (z v).2) := List.mem_filter.mpr ⟨hv, decide_eq_true lt⟩
      rw [ho] at this
      cases this
    have h1 := cl c hc
    have h2 := cl u hu
    have h3 := mc u hu
    omega
  · obtain ⟨u, hu, mu⟩ := min_by (fun v => (z v).2) ho
    obtain ⟨hu, ou⟩ := List.mem_filter.mp hu
    have ou := of_decide_eq_true ou
    by_cases hcl : (left.filter fun v => decide (¬ (z v).1 < (z v).2)) = []
    · refine ⟨u, hu, fun w hw ne lt => ?_⟩
      have ow : (z w).1 < (z w).2 := Decidable.byContradiction fun n => by
        have : w ∈ left.filter fun v => decide (¬ (z v).1 < (z v).2) := List.mem_filter.mpr ⟨hw, decide_eq_true n⟩
        rw [hcl] at this
        cases this
      have h1 := mu w (List.mem_filter.mpr ⟨hw, decide_eq_true ow⟩)
      have h2 := free w hw u hu ne
      omega
    · obtain ⟨c, hc, mc⟩ := min_by (fun v => (z v).1) hcl
      obtain ⟨hc, cc⟩ := List.mem_filter.mp hc
      have cc := of_decide_eq_true cc
      by_cases pc : ∃ x ∈ left, x ≠ c ∧ (z x).1 < (z c).2
      · refine ⟨u, hu, fun w hw ne lt => ?_⟩
        obtain ⟨x, hx, nx, lx⟩ := pc
        have fx := free x hx c hc nx
        have fw := free w hw u hu ne
        by_cases ow : (z w).1 < (z w).2
        · have := mu w (List.mem_filter.mpr ⟨hw, decide_eq_true ow⟩)
          omega
        · have h3 := mc w (List.mem_filter.mpr ⟨hw, decide_eq_true ow⟩)
          by_cases ox : (z x).1 < (z x).2
          · have := mu x (List.mem_filter.mpr ⟨hx, decide_eq_true ox⟩)
            omega
          · have := mc x (List.mem_filter.mpr ⟨hx, decide_eq_true ox⟩)
            omega
      · exact ⟨c, hc, fun w hw ne lt => pc ⟨w, hw, ne, lt⟩⟩

/-! ### the order made -/
theorem filter_split {α : Type} (p : α → Bool) (l : List α) : (l.filter p ++ l.filter fun x => !p x).Perm l := by
  induction l with
  | nil => exact .nil
  | cons a l ih =>
    rw [List.filter_cons, List.filter_cons]
    cases p a with
    | true => exact List.Perm.cons a ih
    | false => exact (List.perm_middle).trans (List.Perm.cons a ih)
/-- no value's write comes too late for its reads -/
def NoEarly (h : List HRow) : Prop := ∀ r ∈ h, ∀ w ∈ h, r.wr = false → w.wr = true → r.val = w.val → ¬ r.fin < w.beg
def NoMutual (vs : List Int) (z : Int → Zone) : Prop := ∀ a ∈ vs, ∀ b ∈ vs, a ≠ b → ¬ ((z a).1 < (z b).2 ∧ (z b).1 < (z a).2)
def rowLe (r o : HRow) : Bool := (r.wr || !o.wr) && (r.wr != o.wr || decide (r.beg ≤ o.beg))
theorem block_of {h : List HRow} (ok : HOk h) (ne : NoEarly h) (v : Int) : ∃ l, l.Perm (h.filter fun r => r.val == v) ∧ l.Pairwise (fun x y => ¬ y.fin < x.beg) ∧ (v = 0 ∨ (h.filter fun r => r.val == v) = [] ∨ ∃ w t, l = w :: t ∧ w.wr = true) := by
  have rs : ((h.filter fun r => r.val == v).filter fun r => r.wr).length ≤ 1 := by
    have hm : ∀ x ∈ (h.filter fun r => r.val == v).filter fun r => r.wr, x ∈ h ∧ x.val = v ∧ x.wr = true := fun x hx => by
      obtain ⟨h1, h2⟩ := List.mem_filter.mp hx
      obtain ⟨h1, h3⟩ := List.mem_filter.mp h1
      exact ⟨h1, by simpa using h3, h2⟩
    have nd : ((h.filter fun r => r.val == v).filter fun r => r.wr).Nodup := (ok.nodup.filter _).filter _
    match e : (h.filter fun r => r.val == v).filter fun r => r.wr with
    | [] => rw [e]; exact Nat.zero_le _
    | [_] => rw [e]; exact Nat.le_refl _
    | a :: b :: l =>
      rw [e] at hm nd
      obtain ⟨a1, a2, a3⟩ := hm a (by simp)
      obtain ⟨b1, b2, b3⟩ := hm b (by simp)
      have := ok.uniq a a1 b b1 a3 b3 (a2.trans b2.symm)
      rw [this] at nd
      simp at nd
  let rd := ((h.filter fun r => r.val == v).filter fun r => !r.wr).mergeSort fun x y => decide (x.beg ≤ y.beg)
  have prd : rd.Perm ((h.filter fun r => r.val == v).filter fun r => !r.wr) := List.mergeSort_perm _ _
  have srd : rd.Pairwise fun x y => decide (x.beg ≤ y.beg) = true := List.pairwise_mergeSort (fun a b c x y => by
    have x := of_decide_eq_true x
    have y := of_decide_eq_true y
    exact decide_eq_true (by omega)) (fun a b => by
    rcases Int.le_total a.beg b.beg with h | h <;> simp [h]) _
  have hm : ∀ x ∈ rd, x ∈ h ∧ x.val = v ∧ x.wr = false := fun x hx => by
    obtain ⟨h1, h2⟩ := List.mem_filter.mp (prd.mem_iff.mp hx)
    obtain ⟨h1, h3⟩ := List.mem_filter.mp h1
    exact ⟨h1, by simpa using h3, by simpa using h2⟩
  have srd2 : rd.Pairwise fun x y => ¬ y.fin < x.beg := by
    refine List.Pairwise.imp_of_mem (fun {x y} mx my e => ?_) srd
    have e := of_decide_eq_true e
    have := ok.times y (hm y my).1
    omega
  refine ⟨((h.filter fun r => r.val == v).filter fun r => r.wr) ++ rd, (List.Perm.append_left _ prd).trans (filter_split _ _), ?_, ?_⟩
  · refine List.pairwise_append.mpr ⟨?_, srd2, ?_⟩
    · match e : (h.filter fun r => r.val == v).filter fun r => r.wr with
      | [] => rw [e]; exact .nil
      | [_] => rw [e]; exact List.pairwise_singleton _ _
      | a :: b :: l =>
        rw [e] at rs
        simp at rs
    · intro w hw r hr
      obtain ⟨h1, h2⟩ := List.mem_filter.mp hw
      obtain ⟨h1, h3⟩ := List.mem_filter.mp h1
      obtain ⟨r1, r2, r3⟩ := hm r hr
      have h3 : w.val = v := by simpa using h3
      exact ne r r1 w h1 r3 h2 (r2.trans h3.symm)
  · by_cases hv : v = 0
    · exact .inl hv
    · by_cases hb : (h.filter fun r => r.val == v) = []
      · exact .inr (.inl hb)
      · refine .inr (.inr ?_)
        have : ∃ w ∈ h, w.wr = true ∧ w.val = v := by
          obtain ⟨x, hx⟩ := List.exists_mem_of_ne_nil _ hb
          obtain ⟨h1, h3⟩ := List.mem_filter.mp hx
          have h3 : x.val = v := by simpa using h3
          cases ew : x.wr with
          | true => exact ⟨x, h1, ew, h3⟩
          | false =>
            rcases (ok.reads x h1 ew).2 with z | ⟨w, w1, w2, w3⟩
            · exact absurd (h3.symm.trans z) hv
            · exact ⟨w, w1, w2, w3.trans h3⟩
        obtain ⟨w, w1, w2, w3⟩ := this
        have hw : w ∈ (h.filter fun r => r.val == v).filter fun r => r.wr := List.mem_filter.mpr ⟨List.mem_filter.mpr ⟨w1, by simpa using w3⟩, w2⟩
        match e : (h.filter fun r => r.val == v).filter fun r => r.wr with
        | [] => rw [e] at hw; cases hw
        | a :: l =>
          have ha : a ∈ (h.filter fun r => r.val == v).filter fun r => r.wr := by rw [e]; exact List.mem_cons_self
          exact ⟨a, l ++ rd, by rw [e]; rfl, (List.mem_filter.mp ha).2⟩
theorem order_of {h : List HRow} (ok : HOk h) (ne : NoEarly h) {z : Int → Zone} {vs : List Int} (hz : ∀ v ∈ vs, IsZone h v (z v)) (hn : NoMutual vs z) : ∀ (n : Nat) (left : List Int) (last : Int), left.length = n → left.Nodup → (∀ v ∈ left, v ∈ vs) → (0 ∈ left → last = 0) →
    (∀ v ∈ left, v ≠ 0 → (h.filter fun r => r.val == v) ≠ []) → ∃ p, p.Perm (h.filter fun r => decide (r.val ∈ left)) ∧ HSeq p last
  | 0, left, last, hl, _, _, _, _ => by
    rw [List.eq_nil_of_length_eq_zero hl]
    exact ⟨[], by simp, True.intro⟩
  | n + 1, left, last, hl, nd, sub, h0, hb => by
    obtain ⟨v, hv, fv⟩ := first_value (z := z) (left := left) (fun e => by rw [e] at hl; simp at hl) fun a ha b hb => hn a (sub a ha) b (sub b hb)
    have v0 : 0 ∈ left → v = 0 := fun m => Decidable.byContradiction fun nv => by
      have z0 := hz 0 (sub 0 m)
      have zv := hz v (sub v hv)
      have lt := fv 0 m (Ne.symm nv)
      have le0 := (z0.nought rfl).1
      rcases zv.at2 with ⟨e, _⟩ | ⟨r, hr, _, e2⟩
      · exact nv e
      · have := ok.times r hr
        omega
    have mem' : ∀ u ∈ left.erase v, u ≠ v ∧ u ∈ left := fun u hu => (nd.mem_erase_iff).mp hu
    obtain ⟨l, pl, wl, sl⟩ := block_of ok ne v
    have ml : ∀ x ∈ l, x ∈ h ∧ x.val = v := fun x hx => by
      obtain ⟨h1, h3⟩ := List.mem_filter.mp (pl.mem_iff.mp hx)
      exact ⟨h1, by simpa using h3⟩
    obtain ⟨p, pp, hp⟩ := order_of ok ne hz hn n (left.erase v) v (by rw [List.length_erase_of_mem hv]; omega) (nd.erase v) (fun u hu => sub u (mem' u hu).2) (fun m => v0 (mem' 0 m).2) (fun u hu => hb u (mem' u hu).2)
    refine ⟨l ++ p, ?_, ?_⟩
    · have e1 : (h.filter fun r => r.val == v) = (h.filter fun r => decide (r.val ∈ left)).filter fun r => r.val == v := by
        rw [List.filter_filter]
        refine List.filter_congr fun r _ => ?_
        by_cases e : r.val = v
        · simp [e, hv]
        · simp [e]
      have e2 : (h.filter fun r => decide (r.val ∈ left.erase v)) = (h.filter fun r => decide (r.val ∈ left)).filter fun r => !(r.val == v) := by
        rw [List.filter_filter]
        refine List.filter_congr fun r _ => ?_
        rw [show decide (r.val ∈ left.erase v) = decide (r.val ≠ v ∧ r.val ∈ left) from decide_eq_decide.mpr nd.mem_erase_iff]
        by_cases e : r.val = v <;> simp [e]
      rw [e1] at pl
      rw [e2] at pp
      exact (List.Perm.append pl pp).trans (filter_split _ _)
    · refine seq_block (fun r hr => (ml r hr).2) ?_ wl (fun x hx y hy => ?_) (fun e => ?_) hp
      · rcases sl with sl | sl | sl
        · by_cases e : 0 ∈ left
          · exact .inl ((h0 e).trans sl.symm)
          · exact absurd (sl ▸ hv) e
        · by_cases nv : v = 0
          · exact .inl ((h0 (nv ▸ hv)).trans nv.symm)
          · exact absurd sl (hb v hv nv)
        · exact .inr sl
      · obtain ⟨x1, x2⟩ := ml x hx
        obtain ⟨y1, y2⟩ := List.mem_filter.mp (pp.mem_iff.mp hy)
        obtain ⟨y3, y4⟩ := mem' _ (of_decide_eq_true y2)
        have a1 := (hz v (sub v hv)).le x x1 x2
        have a2 := (hz _ (sub _ y4)).le y y1 rfl
        have a3 := fv _ y4 y3
        omega
      · by_cases nv : v = 0
        · exact (h0 (nv ▸ hv)).trans nv.symm
        · rw [e] at pl
          exact absurd (List.nil_perm.mp pl) (hb v hv nv)
/-- what is found, and nothing else, stops an order -/
theorem order_iff {h : List HRow} (ok : HOk h) {z : Int → Zone} {vs : List Int} (nd : vs.Nodup) (mv : ∀ v, v ∈ vs ↔ v = 0 ∨ ∃ r ∈ h, r.val = v) (hz : ∀ v ∈ vs, IsZone h v (z v)) : (∃ p, p.Perm h ∧ HSeq p 0) ↔ NoEarly h ∧ NoMutual vs z := by
  constructor
  · intro x
    refine ⟨fun r hr w hw a b e lt => no_early ok hr hw a b e lt x, fun a ha b hb ne h12 => no_both ok ne (hz a ha) (hz b hb) h12.1 h12.2 x⟩
  · rintro ⟨ne, hn⟩
    obtain ⟨p, pp, hp⟩ := order_of ok ne hz hn _ vs 0 rfl nd (fun _ h => h) (fun _ => rfl) (fun v hv nv => by
      rcases (mv v).mp hv with e | ⟨r, hr, e⟩
      · exact absurd e nv
      · exact List.ne_nil_of_mem (List.mem_filter.mpr ⟨hr, by simpa using e⟩))
    refine ⟨p, ?_, hp⟩
    rwa [List.filter_eq_self.mpr fun r hr => decide_eq_true ((mv _).mpr (.inr ⟨r, hr, rfl⟩))] at pp
theorem HOk.perm {h p : List HRow} (x : HOk h) (e : p.Perm h) : HOk p := by
  have m : ∀ r, r ∈ p ↔ r ∈ h := fun r => e.mem_iff
  refine ⟨by rw [e.length_eq]; exact x.few, (e.map _).nodup_iff.mpr x.tasks, fun r hr => x.times r ((m r).mp hr), fun r hr => x.writes r ((m r).mp hr), fun r hr o ho => x.uniq r ((m r).mp hr) o ((m o).mp ho), fun r hr w => ?_⟩
  obtain ⟨h1, h2⟩ := x.reads r ((m r).mp hr) w
  refine ⟨h1, h2.imp_right fun ⟨o, ho, z⟩ => ⟨o, (m o).mpr ho, z⟩⟩
/-! ### histories: the walk -/
structure Keep (S S' : Store) : Prop where
  len : S.length ≤ S'.length
  keep : ∀ (n : Nat) (o : O), S[n]? = some o → S'[n]? = some o
theorem Keep.refl {S : Store} : Keep S S := ⟨Nat.le_refl _, fun _ _ h => h⟩
theorem Keep.trans {S S1 S2 : Store} (x : Keep S S1) (y : Keep S1 S2) : Keep S S2 := ⟨Nat.le_trans x.len y.len, fun n o h => y.keep n o (x.keep n o h)⟩
theorem Keep.app {S : Store} {o : O} : Keep S (S ++ [o]) := ⟨by simp, fun n o e => by rw [List.getElem?_append_left (List.getElem?_eq_some_iff.mp e).1]; exact e⟩
theorem Keep.put {S S' : Store} {n : Nat} {o : O} (x : Keep S S') (h : S.length ≤ n) : Keep S (S'.set n o) :=
  ⟨by simp [x.len], fun m u e => by
    have := (List.getElem?_eq_some_iff.mp e).1
    rw [List.getElem?_set_ne (by omega)]
    exact x.keep m u e⟩
theorem Keep.bag {S S' : Store} {b : Nat} (x : Keep S S') (h : BagAt S b) : BagAt S' b := by
  obtain ⟨i, j, h⟩ := h
  exact ⟨i, j, x.keep _ _ h⟩
theorem Keep.fr {S S' : Store} {b : Nat} (x : Keep S S') (h : BagAt S b) : Fr b S S' := ⟨x.bag h, x.len, fun n o _ e => x.keep n o e⟩
def wS (b : Bool) : Str := if b = true then "write" else "read"
theorem wS_w {b : Bool} : (wS b == ("write" : Str)) = b := by cases b <;> decide +kernel
theorem wS_r {b : Bool} : (wS b == ("read" : Str)) = !b := by cases b <;> decide +kernel
def HRow.d (r : HRow) : D := .tup [.int r.task, .str (wS r.wr), .int r.val, .int r.beg, .int r.fin]
def IsH (S : Store) (x : D) (h : List HRow) : Prop := x = .lst (h.map HRow.d) ∨ ∃ n, x = .loc n ∧ S[n]? = some (.lst (h.map HRow.d))
theorem IsH.keep {S S' : Store} {x : D} {h : List HRow} (i : IsH S x h) (k : Keep S S') : IsH S' x h := by
  rcases i with i | ⟨n, e, i⟩
  · exact .inl i
  · exact .inr ⟨n, e, k.keep _ _ i⟩
theorem IsH.any {S : Store} {x : D} {h : List HRow} (i : IsH S x h) : ∃ at_, anyI x S = .ok ⟨h.map HRow.d, at_⟩ S ∧ ∀ S', Keep S S' → Src.held ⟨h.map HRow.d, at_⟩ S' := by
  rcases i with i | ⟨n, e, i⟩
  · subst i
    exact ⟨[], anyI_l, fun _ _ => held_nil⟩
  · subst e
    exact ⟨_, anyI_m i, fun S' k => held_one.mpr (.inl (k.keep _ _ i))⟩
theorem IsH.any2 {S : Store} {x : D} {h : List HRow} (i : IsH S x h) : ∃ at_, ∀ S', Keep S S' → anyI x S' = .ok ⟨h.map HRow.d, at_⟩ S' ∧ Src.held ⟨h.map HRow.d, at_⟩ S' := by
  rcases i with i | ⟨n, e, i⟩
  · subst i
    exact ⟨[], fun _ _ => ⟨anyI_l, held_nil⟩⟩
  · subst e
    exact ⟨[(n, h.map HRow.d)], fun S' k => ⟨anyI_m (k.keep _ _ i), held_one.mpr (.inl (k.keep _ _ i))⟩⟩
theorem hrow_get {h : List HRow} {i : Nat} {y : D} (e : (h.map HRow.d)[i]? = some y) : ∃ r, h[i]? = some r ∧ y = r.d := by
  rw [List.getElem?_map] at e
  obtain ⟨r, e, h⟩ := Option.map_eq_some_iff.mp e
  exact ⟨r, e, h.symm⟩
theorem take_more {α : Type} {rs : List α} {i : Nat} {r : α} (h : rs[i]? = some r) : rs.take (i + 1) = rs.take i ++ [r] := by
  rw [List.take_add_one, h]
  rfl
theorem inV_dk {n : Nat} {i : Int} {kvs : List (Key × D)} {S : Store} (h : S[n]? = some (.dK kvs)) : inV' (.int i) (.loc n) S = .ok (.bl (lookA kvs (.inl i)).isSome) S := by
  unfold inV' inC
  simp only [sqOf, lsOf, dGetO, h, keyOf, Option.map_some]
theorem lcD_map {β : Type} {enc : β → D} {s : Src} {g : DGv} {t : DTv} {e : DEv} {st : DSt} {S : Store} (f : β → Option D) (hS : s.held S) : ∀ (bs : List β) (acc : List D), acc.length + bs.length ≤ 1000000 → (∀ b ∈ bs, lcT g t e st (enc b) S = .ok (f b) S) → lcD s g t e st (bs.map enc) acc S = .ok (acc ++ bs.filterMap f) S
  | [], acc, _, _ => by
    rw [List.map_nil, lcD_pure (fun _ => none) hS [] acc (by assumption) (by simp)]
    rfl
  | b :: bs, acc, hl, h => by
    have hb : ((g (enc b) st S).bind fun st1 S1 => (t st1 S1).bind fun k S2 => if k = true then (e st1 S2).bind fun y S3 => R.ok (some y) S3 else .ok none S2) = .ok (f b) S := h b List.mem_cons_self
    rw [List.length_cons] at hl
    rw [List.map_cons]
    unfold lcD
    rw [if_pos ⟨hS, by omega⟩, hb]
    have tl : ∀ c ∈ bs, lcT g t e st (enc c) S = .ok (f c) S := fun c hc => h c (List.mem_cons_of_mem _ hc)
    cases q : f b with
    | none =>
      simp only [R.mute, R.bind_ok]
      rw [lcD_map f hS bs acc (by omega) tl, List.filterMap_cons, q]
    | some y =>
      simp only [R.mute, R.bind_ok]
      rw [lcD_map f hS bs (acc ++ [y]) (by rw [List.length_append, List.length_singleton]; omega) tl, List.filterMap_cons, q]
      simp
theorem fm_all {α β : Type} (h : α → β) (l : List α) : l.filterMap (fun a => some (h a)) = l.map h := by
  induction l with
  | nil => rfl
  | cons a l ih => rw [List.filterMap_cons, List.map_cons, ih]
theorem fm_if {α β : Type} {p : α → Bool} {f : α → β} (l : List α) : (l.filterMap fun a => if p a = true then some (f a) else none) = (l.filter p).map f := by
  induction l with
  | nil => rfl
  | cons a l ih =>
    rw [List.filterMap_cons, List.filter_cons]
    cases p a with
    | true => simp only [if_true, List.map_cons, ih]
    | false => simp only [Bool.false_eq_true, if_false, ih]
theorem neL_m0 {n : Nat} {xs : List D} {S : Store} (h : S[n]? = some (.lst xs)) : neL (.loc n) (.lst []) S = .ok (.bl (!xs.isEmpty)) S := by
  unfold neL
  simp only [lsOf, h]
  cases xs with
  | nil =>
    rw [if_pos rfl]
    unfold neV
    simp only [toPyS, h]
    rfl
  | cons x xs => rfl
theorem neL_b {a b : Bool} {S : Store} : neL (.bl a) (.bl b) S = .ok (.bl (!(a == b))) S := neV_b
theorem eqL_m0 {n : Nat} {xs : List D} {S : Store} (h : S[n]? = some (.lst xs)) : eqL (.loc n) (.lst []) S = .ok (.bl xs.isEmpty) S := by
  unfold eqL
  simp only [lsOf, h]
  cases xs with
  | nil =>
    rw [if_pos rfl]
    unfold eqV
    simp only [toPyS, h]
    rfl
  | cons x xs => rfl
theorem neV_row {r o : HRow} {S : Store} : neV r.d o.d S = .ok (.bl (!decide (r = o))) S := by
  have d : ∀ r : HRow, (PyData.tuple [.int r.task, .str (wS r.wr), .int r.val, .int r.beg, .int r.fin]).depth ≤ 64 := fun r => Nat.le_of_ble_eq_true rfl
  show (if min (PyData.tuple [.int r.task, .str (wS r.wr), .int r.val, .int r.beg, .int r.fin]).depth (PyData.tuple [.int o.task, .str (wS o.wr), .int o.val, .int o.beg, .int o.fin]).depth ≤ 64 then R.ok (D.bl (!PyData.eqv (.tuple [.int r.task, .str (wS r.wr), .int r.val, .int r.beg, .int r.fin]) (.tuple [.int o.task, .str (wS o.wr), .int o.val, .int o.beg, .int o.fin]))) S else .no) = _
  rw [if_pos (Nat.le_trans (Nat.min_le_left _ _) (d r))]
  congr 3
  have ws : ∀ a b : Bool, (wS a == wS b) = decide (a = b) := by
    intro a b
    cases a <;> cases b <;> decide +kernel
  obtain ⟨a1, a2, a3, a4, a5⟩ := r
  obtain ⟨b1, b2, b3, b4, b5⟩ := o
  simp only [PyData.eqv, PyData.eqvAll, Bool.and_true, HRow.mk.injEq, ws]
  by_cases c1 : a1 = b1 <;> by_cases c2 : a2 = b2 <;> by_cases c3 : a3 = b3 <;> by_cases c4 : a4 = b4 <;> by_cases c5 : a5 = b5 <;> simp [c1, c2, c3, c4, c5]
theorem neL_row {r o : HRow} {S : Store} : neL r.d o.d S = .ok (.bl (!decide (r = o))) S := neV_row
theorem intsOf_all (l : List Int) : intsOf (l.map D.int) = some l := by
  induction l with
  | nil => rfl
  | cons a l ih =>
    rw [List.map_cons]
    unfold intsOf
    rw [ih]
    rfl
/-! zones -/
abbrev zD (p : Zone) : D := .tup [.int p.1, .int p.2]
structure ZS (h : List HRow) (kvs : List (Key × D)) : Prop where
  nd : (kvs.map (·.1)).Nodup
  enc : ∀ kv ∈ kvs, ∃ (v : Int) (p : Zone), kv = (.inl v, zD p) ∧ IsZone h v p
  has : ∀ v : Int, (lookA kvs (.inl v)).isSome = true ↔ v = 0 ∨ ∃ r ∈ h, r.val = v
theorem lookA_of {kvs : List (Key × D)} {k : Key} {d : D} (e : lookA kvs k = some d) : (k, d) ∈ kvs := by
  induction kvs with
  | nil => cases e
  | cons p kvs ih =>
    rw [lookA_cons] at e
    by_cases c : p.1 = k
    · rw [if_pos c] at e
      cases e
      rw [← c]
      exact List.mem_cons_self
    · rw [if_neg c] at e
      exact List.mem_cons_of_mem _ (ih e)
theorem lookA_in {kvs : List (Key × D)} (nd : (kvs.map (·.1)).Nodup) {k : Key} {d : D} (m : (k, d) ∈ kvs) : lookA kvs k = some d := by
  induction kvs with
  | nil => cases m
  | cons p kvs ih =>
    rw [List.map_cons, List.nodup_cons] at nd
    rw [lookA_cons]
    rcases List.mem_cons.mp m with e | m
    · subst e
      rw [if_pos rfl]
    · rw [if_neg, ih nd.2 m]
      intro z
      exact nd.1 (List.mem_map.mpr ⟨_, m, z.symm⟩)
theorem putA_nd {kvs : List (Key × D)} {k : Key} {d : D} (nd : (kvs.map (·.1)).Nodup) : ((putA kvs k d).map (·.1)).Nodup := by
  unfold putA
  by_cases c : (kvs.any fun kv => decide (kv.1 = k)) = true
  · rw [if_pos c, List.map_map, show ((fun kv : Key × D => kv.1) ∘ fun kv => if kv.1 = k then (kv.1, d) else kv) = fun kv => kv.1 from by
      funext kv
      show (if kv.1 = k then (kv.1, d) else kv).1 = kv.1
      split <;> rfl]
    exact nd
  · rw [if_neg c, List.map_append, List.nodup_append]
    refine ⟨nd, by simp, fun a ha b hb e => ?_⟩
    rw [List.map_singleton, List.mem_singleton] at hb
    obtain ⟨kv, hk, z⟩ := List.mem_map.mp ha
    exact c (List.any_eq_true.mpr ⟨kv, hk, decide_eq_true (by rw [z, e, hb])⟩)
theorem putA_mem {kvs : List (Key × D)} {k : Key} {d : D} {kv : Key × D} (m : kv ∈ putA kvs k d) : kv = (k, d) ∨ (kv ∈ kvs ∧ kv.1 ≠ k) := by
  unfold putA at m
  by_cases c : (kvs.any fun kv => decide (kv.1 = k)) = true
  · rw [if_pos c] at m
    obtain ⟨kv', h1, h2⟩ := List.mem_map.mp m
    by_cases e : kv'.1 = k
    · rw [if_pos e, e] at h2
      exact .inl h2.symm
    · rw [if_neg e] at h2
      exact .inr (h2 ▸ ⟨h1, e⟩)
  · rw [if_neg c] at m
    rcases List.mem_append.mp m with m | m
    · refine .inr ⟨m, fun e => c (List.any_eq_true.mpr ⟨kv, m, decide_eq_true e⟩)⟩
    · exact .inl (List.mem_singleton.mp m)
theorem IsZone.more {h : List HRow} {v : Int} {p : Zone} {r : HRow} (z : IsZone h v p) (ne : r.val ≠ v) : IsZone (h ++ [r]) v p := by
  refine ⟨fun o ho e => ?_, z.nought, ?_, ?_⟩
  · rcases List.mem_append.mp ho with ho | ho
    · exact z.le o ho e
    · rw [List.mem_singleton.mp ho] at e
      exact absurd e ne
  · rcases z.at1 with h | ⟨o, ho, e⟩
    · exact .inl h
    · exact .inr ⟨o, List.mem_append_left _ ho, e⟩
  · rcases z.at2 with h | ⟨o, ho, e⟩
    · exact .inl h
    · exact .inr ⟨o, List.mem_append_left _ ho, e⟩
def stepZ (o : Option Zone) (r : HRow) : Zone := (if r.fin < (o.getD (r.fin, r.beg)).1 then r.fin else (o.getD (r.fin, r.beg)).1, if r.beg > (o.getD (r.fin, r.beg)).2 then r.beg else (o.getD (r.fin, r.beg)).2)
theorem IsZone.step {h : List HRow} {r : HRow} {p : Zone} (z : IsZone h r.val p) : IsZone (h ++ [r]) r.val (stepZ (some p) r) := by
  unfold stepZ
  simp only [Option.getD_some]
  refine ⟨fun o ho e => ?_, fun e => ?_, ?_, ?_⟩
  · rcases List.mem_append.mp ho with ho | ho
    · have := z.le o ho e
      constructor <;> (split <;> omega)
    · rw [List.mem_singleton.mp ho]
      constructor <;> (split <;> omega)
  · have := z.nought e
    constructor <;> (split <;> omega)
  · dsimp only
    split
    · exact .inr ⟨r, by simp, rfl, rfl⟩
    · rcases z.at1 with h | ⟨o, ho, e⟩
      · exact .inl h
      · exact .inr ⟨o, List.mem_append_left _ ho, e⟩
  · dsimp only
    split
    · exact .inr ⟨r, by simp, rfl, rfl⟩
    · rcases z.at2 with h | ⟨o, ho, e⟩
      · exact .inl h
      · exact .inr ⟨o, List.mem_append_left _ ho, e⟩
theorem IsZone.first {h : List HRow} {r : HRow} (n0 : r.val ≠ 0) (no : ∀ o ∈ h, o.val ≠ r.val) : IsZone (h ++ [r]) r.val (stepZ none r) := by
  have e : stepZ none r = (r.fin, r.beg) := by simp [stepZ]
  rw [e]
  refine ⟨fun o ho e => ?_, fun e => absurd e n0, .inr ⟨r, by simp, rfl, rfl⟩, .inr ⟨r, by simp, rfl, rfl⟩⟩
  rcases List.mem_append.mp ho with ho | ho
  · exact absurd e (no o ho)
  · rw [List.mem_singleton.mp ho]
    exact ⟨Int.le_refl _, Int.le_refl _⟩
def zoneO (kvs : List (Key × D)) (v : Int) : Option Zone := match lookA kvs (.inl v) with
  | some (.tup [.int a, .int b]) => some (a, b)
  | _ => none
theorem ZS.look {h : List HRow} {kvs : List (Key × D)} (z : ZS h kvs) (v : Int) : (∃ p, lookA kvs (.inl v) = some (zD p) ∧ zoneO kvs v = some p ∧ IsZone h v p) ∨ (lookA kvs (.inl v) = none ∧ zoneO kvs v = none ∧ v ≠ 0 ∧ ∀ o ∈ h, o.val ≠ v) := by
  unfold zoneO
  cases e : lookA kvs (.inl v) with
  | none =>
    refine .inr ⟨rfl, rfl, fun z0 => ?_, fun o ho z0 => ?_⟩
    · have := (z.has v).mpr (.inl z0)
      rw [e] at this
      cases this
    · have := (z.has v).mpr (.inr ⟨o, ho, z0⟩)
      rw [e] at this
      cases this
  | some d =>
    obtain ⟨u, p, e2, hz⟩ := z.enc _ (lookA_of e)
    cases e2
    exact .inl ⟨p, rfl, rfl, hz⟩
theorem ZS.step {h : List HRow} {kvs : List (Key × D)} {r : HRow} (z : ZS h kvs) : ZS (h ++ [r]) (putA kvs (.inl r.val) (zD (stepZ (zoneO kvs r.val) r))) := by
  refine ⟨putA_nd z.nd, fun kv hk => ?_, fun v => ?_⟩
  · rcases putA_mem hk with rfl | ⟨m, ne⟩
    · refine ⟨r.val, _, rfl, ?_⟩
      rcases z.look r.val with ⟨p, _, e, hz⟩ | ⟨_, e, n0, no⟩
      · rw [e]
        exact hz.step
      · rw [e]
        exact IsZone.first n0 no
    · obtain ⟨v, p, rfl, hz⟩ := z.enc kv m
      exact ⟨v, p, rfl, hz.more fun e => ne (by rw [e])⟩
  · rw [lookA_putA]
    by_cases e : r.val = v
    · rw [if_pos (by rw [e])]
      simp [e]
    · rw [if_neg (fun x => e (Sum.inl.inj x)), z.has v]
      simp [e]
structure ZX (h : List HRow) (x : D) (vs : List Int) (z : Int → Zone) : Prop where
  nd : vs.Nodup
  few : vs.length ≤ 61
  mv : ∀ v, v ∈ vs ↔ v = 0 ∨ ∃ r ∈ h, r.val = v
  hz : ∀ v ∈ vs, IsZone h v (z v)
  ix : ∀ v ∈ vs, ∀ S, ixV x (.int v) S = .ok (zD (z v)) S
  keys : ∀ S, keysI x S = .ok ⟨vs.map D.int, []⟩ S
  lst : ∀ S, listKM [x] S = .ok (.loc S.length) (S ++ [.lst (vs.map D.int)])
  nin : ∀ v S, notInV' (.int v) x S = .ok (.bl (!decide (v ∈ vs))) S
theorem ixV_dct {ks : List Key} {ds : List D} {v : Int} {d : D} {S : Store} (e : lookA (ks.zip ds) (.inl v) = some d) : ixV (.dct ks ds) (.int v) S = .ok d S := by
  unfold ixV
  simp only [sqOf, lsOf, dGetO, keyOf, Option.map_some, e]
theorem keyInts_map (vs : List Int) : keyInts (vs.map Sum.inl) = some vs := by
  induction vs with
  | nil => rfl
  | cons v vs ih =>
    rw [List.map_cons]
    unfold keyInts
    rw [ih]
    rfl
theorem ZS.zx {h : List HRow} {kvs : List (Key × D)} (z : ZS h kvs) (hl : kvs.length ≤ 61) : ∃ vs zf, ZX h (.dct (kvs.map (·.1)) (kvs.map (·.2))) vs zf := by
  have ez : (kvs.map (·.1)).zip (kvs.map (·.2)) = kvs := by
    clear z hl
    induction kvs with
    | nil => rfl
    | cons a l ih => rw [List.map_cons, List.map_cons, List.zip_cons_cons, ih]
  let vs : List Int := kvs.filterMap fun kv => match kv.1 with
    | .inl v => some v
    | .inr _ => none
  have ek : kvs.map (·.1) = vs.map Sum.inl := by
    have : ∀ l : List (Key × D), (∀ kv ∈ l, ∃ (v : Int) (p : Zone), kv = (.inl v, zD p) ∧ IsZone h v p) → l.map (·.1) = (l.filterMap fun kv => match kv.1 with
      | .inl v => some v
      | .inr _ => none).map Sum.inl := fun l => by
      induction l with
      | nil => intro _; rfl
      | cons a l ih =>
        intro hh
        obtain ⟨v, p, rfl, _⟩ := hh a List.mem_cons_self
        rw [List.map_cons, List.filterMap_cons, ih fun kv hk => hh kv (List.mem_cons_of_mem _ hk)]
        rfl
    exact this kvs z.enc
  have mem : ∀ v, v ∈ vs ↔ (lookA kvs (.inl v)).isSome = true := fun v => by
    rw [lookA_any, List.any_eq_true]
    have : v ∈ vs ↔ (Sum.inl v : Key) ∈ kvs.map (·.1) := by
      rw [ek, List.mem_map]
      exact ⟨fun m => ⟨v, m, rfl⟩, fun ⟨u, m, e⟩ => Sum.inl.inj e ▸ m⟩
    rw [this, List.mem_map]
    exact ⟨fun ⟨kv, m, e⟩ => ⟨kv, m, decide_eq_true e⟩, fun ⟨kv, m, e⟩ => ⟨kv, m, of_decide_eq_true e⟩⟩
  have lk : ∀ v ∈ vs, ∃ p, lookA kvs (.inl v) = some (zD p) ∧ (zoneO kvs v).getD (0, 0) = p ∧ IsZone h v p := fun v hv => by
    rcases z.look v with ⟨p, h1, h2, h3⟩ | ⟨h1, _⟩
    · exact ⟨p, h1, by rw [h2]; rfl, h3⟩
    · have := (mem v).mp hv
      rw [h1] at this
      cases this
  refine ⟨vs, fun v => (zoneO kvs v).getD (0, 0), ⟨?_, ?_, fun v => (mem v).trans (z.has v), fun v hv => ?_, fun v hv S => ?_, fun S => ?_, fun S => ?_, fun v S => ?_⟩⟩
  · have := z.nd
    rw [ek] at this
    exact (List.pairwise_map.mp this).imp fun e x => e (by rw [x])
  · exact Nat.le_trans (List.length_filterMap_le _ _) hl
  · obtain ⟨p, _, h2, h3⟩ := lk v hv
    show IsZone h v ((zoneO kvs v).getD (0, 0))
    rw [h2]
    exact h3
  · obtain ⟨p, h1, h2, h3⟩ := lk v hv
    show _ = R.ok (zD ((zoneO kvs v).getD (0, 0))) S
    rw [h2]
    exact ixV_dct (by rw [ez]; exact h1)
  · unfold keysI
    simp only [ek, keyInts_map]
  · unfold listKM
    simp only [keysOfD, ek, keyInts_map]
  · unfold notInV' inC
    simp only [sqOf, lsOf, dGetO, keyOf, Option.map_some, ez]
    rw [show (lookA kvs (.inl v)).isSome = decide (v ∈ vs) from Bool.eq_iff_iff.mpr ((mem v).symm.trans decide_eq_true_iff.symm)]
theorem frz_k {n : Nat} {kvs : List (Key × D)} {S : Store} (h : S[n]? = some (.dK kvs)) : frzD (.loc n) S = .ok (.dct (kvs.map (·.1)) (kvs.map (·.2))) (S.set n .gone) := by
  unfold frzD
  simp only [h]
theorem wp_zones {S : Store} {x : D} {h : List HRow} {α : Type} {k : D → Store → R α} {P : α → Store → Prop} (hx : IsH S x h) (ok : HOk h) (q : ∀ (y : D) vs z S', Keep S S' → ZX h y vs z → wpE (k y S') P) : wpE ((F_zones [x] S).bind k) P := by
  have few := ok.few
  unfold F_zones B_zones
  walk_at "ev"
  refine wp_eq (dispC_k (kvs := [(.inl 0, zD (-1, -1))]) app_at rfl (by decide)) ?_
  have h0 : ((S ++ [O.dK []]).set S.length (.dK (putAll [(.inl 0, zD (-1, -1))])))[S.length]? = some (.dK [(.inl 0, zD (-1, -1))]) := List.getElem?_set_self (by simp)
  have k0 : Keep S ((S ++ [O.dK []]).set S.length (.dK (putAll [(.inl 0, zD (-1, -1))]))) := Keep.app.put (Nat.le_refl _)
  generalize (S ++ [O.dK []]).set S.length (.dK (putAll [(.inl 0, zD (-1, -1))])) = S0 at h0 k0 ⊢
  walk_at "ev"
  obtain ⟨at_, hh⟩ := hx.any2
  rw [(hh _ k0).1]
  walk_at "ev"
  refine wp_for (s := ⟨h.map HRow.d, at_⟩) (fun i st S' => (∃ y2 y3 y4 y5 y6 y7 y8, st = [some x, some (.loc S.length), y2, y3, y4, y5, y6, y7, y8]) ∧ ∃ kvs : List (Key × D), S'[S.length]? = some (.dK kvs) ∧ kvs.length ≤ i + 1 ∧ ZS (h.take i) kvs ∧ Keep S S') ⟨⟨_, _, _, _, _, _, _, rfl⟩, _, h0, Nat.le_refl _, ?_, k0⟩ ?_ ?_
  · refine ⟨by simp, fun kv hk => ?_, fun v => ?_⟩
    · rw [List.mem_singleton.mp hk]
      exact ⟨0, (-1, -1), rfl, fun r hr => by simp at hr, fun _ => ⟨Int.le_refl _, Int.le_refl _⟩, .inl ⟨rfl, rfl⟩, .inl ⟨rfl, rfl⟩⟩
    · rw [lookA_cons, lookA_nil]
      by_cases e : v = 0
      · simp [e]
      · rw [if_neg (fun z => e (Sum.inl.inj z).symm)]
        simp [e]
  · rintro i y st S' hy ⟨⟨y2, y3, y4, y5, y6, y7, y8, rfl⟩, kvs, h1, h2, h3, h4⟩
    obtain ⟨r, hr, rfl⟩ := hrow_get hy
    have il : i < h.length := (List.getElem?_eq_some_iff.mp hr).1
    refine ⟨(hh _ h4).2, ?_⟩
    have zs := h3.step (r := r)
    rw [← take_more hr] at zs
    have eo : (lookA kvs (.inl r.val)).getD (.tup [.int r.fin, .int r.beg]) = zD ((zoneO kvs r.val).getD (r.fin, r.beg)) := by
      rcases h3.look r.val with ⟨p, e1, e2, _⟩ | ⟨e1, e2, _⟩
      · rw [e1, e2]; rfl
      · rw [e1, e2]; rfl
    unfold HRow.d B_zones_b1
    walk_at "ev"
    rw [dget1K_ev (isDct_k h1)]
    walk_at "ev"
    rw [getC_k h1 rfl, eo]
    walk_at "ev"
    refine wp_eq (setO_k h1 rfl (by omega)) ?_
    walk_at "ev"
    exact ⟨⟨_, _, _, _, _, _, _, rfl⟩, _, List.getElem?_set_self (List.getElem?_eq_some_iff.mp h1).1, Nat.le_trans (putA_len _ _ _) (by omega), zs, h4.put (Nat.le_refl _)⟩
  · rintro st S1 ⟨⟨y2, y3, y4, y5, y6, y7, y8, rfl⟩, kvs, h1, h2, h3, h4⟩
    rw [show (Src.mk (h.map HRow.d) at_).xs.length = h.length from List.length_map _] at h2 h3
    rw [List.take_length] at h3
    refine ⟨(hh _ h4).2, ?_⟩
    walk_at "ev"
    refine wp_eq (frz_k h1) ?_
    walk_at "ev"
    obtain ⟨vs, zf, zx⟩ := h3.zx (by omega)
    exact q _ vs zf _ (h4.put (Nat.le_refl _)) zx
/-! clashes -/
theorem goes_eq {p q : Zone} {S : Store} : F_goes_ahead [zD p, zD q] S = .ok (.bl (goesB p q)) S := by
  unfold F_goes_ahead B_goes_ahead goesB
  walk_at "ev"
theorem open_eq {p : Zone} {S : Store} : F_is_open [zD p] S = .ok (.bl (openB p)) S := by
  unfold F_is_open B_is_open openB
  walk_at "ev"
def clK (p q : Zone) : Option Str := if (goesB p q && goesB q p) = true then (if openB p = true then (if openB q = true then some ("both" : Str) else some ("within" : Str)) else none) else none
def oD : Option Str → D
  | none => .non
  | some z => .str z
theorem clash_eq {p q : Zone} {S : Store} : F_clash [zD p, zD q] S = .ok (oD (clK p q)) S := by
  unfold F_clash B_clash clK
  walk_at "ev"
  rw [goes_eq]
  walk_at "ev"
  cases goesB p q with
  | false => walk_at "ev"; rfl
  | true =>
    walk_at "ev"
    rw [goes_eq]
    walk_at "ev"
    cases goesB q p with
    | false => walk_at "ev"; rfl
    | true =>
      walk_at "ev"
      rw [open_eq]
      walk_at "ev"
      cases ho : openB p with
      | false =>
        walk_at "ev"
        rw [open_eq]
        walk_at "ev"
        rw [ho]
        rfl
      | true =>
        walk_at "ev"
        rw [open_eq]
        walk_at "ev"
        cases hq : openB q with
        | true => walk_at "ev"; rfl
        | false =>
          walk_at "ev"
          rw [open_eq]
          walk_at "ev"
          rw [ho]
          rfl
theorem clK_some {p q : Zone} {s : Str} (h : clK p q = some s) : p.1 < q.2 ∧ q.1 < p.2 := by
  unfold clK at h
  by_cases c : (goesB p q && goesB q p) = true
  · rw [Bool.and_eq_true] at c
    exact ⟨of_decide_eq_true c.1, of_decide_eq_true c.2⟩
  · rw [if_neg c] at h
    cases h
theorem clK_kind {p q : Zone} : clK p q = none ∨ clK p q = some ("both" : Str) ∨ clK p q = some ("within" : Str) := by
  unfold clK
  split
  · split
    · split
      · exact .inr (.inl rfl)
      · exact .inr (.inr rfl)
    · exact .inl rfl
  · exact .inl rfl
theorem clK_mutual {p q : Zone} (h1 : p.1 < q.2) (h2 : q.1 < p.2) : (clK p q = some ("both" : Str) ∧ clK q p = some ("both" : Str)) ∨ clK p q = some ("within" : Str) ∨ clK q p = some ("within" : Str) := by
  have c1 : (goesB p q && goesB q p) = true := by rw [Bool.and_eq_true]; exact ⟨decide_eq_true h1, decide_eq_true h2⟩
  have c2 : (goesB q p && goesB p q) = true := by rw [Bool.and_eq_true]; exact ⟨decide_eq_true h2, decide_eq_true h1⟩
  unfold clK
  rw [if_pos c1, if_pos c2]
  by_cases a : openB p = true
  · by_cases b : openB q = true
    · exact .inl ⟨by rw [if_pos a, if_pos b], by rw [if_pos b, if_pos a]⟩
    · exact .inr (.inl (by rw [if_pos a, if_neg b]))
  · by_cases b : openB q = true
    · exact .inr (.inr (by rw [if_pos b, if_neg a]))
    · refine absurd ?_ a
      have b : ¬ q.1 < q.2 := fun z => b (decide_eq_true z)
      have a : ¬ p.1 < p.2 := fun z => a (decide_eq_true z)
      omega
theorem eqV_oD {o : Option Str} {z : Str} {S : Store} : eqV (oD o) (.str z) S = .ok (.bl (o == some z)) S := by
  cases o with
  | none => exact eqV_ns
  | some y => exact eqV_s'
def EarlyP (h : List HRow) (a b : Int) : Prop := ∃ r ∈ h, ∃ w ∈ h, r.task = a ∧ w.task = b ∧ r.wr = false ∧ w.wr = true ∧ r.val = w.val ∧ r.fin < w.beg
def InV (h : List HRow) (v : Int) : Prop := v = 0 ∨ ∃ r ∈ h, r.val = v
def Shows (h : List HRow) (z : Str) (a b : Int) : Prop := (z = "early" ∧ EarlyP h a b) ∨ ((z = "both" ∨ z = "within") ∧ a ≠ b ∧ InV h a ∧ InV h b ∧ ∃ p q, IsZone h a p ∧ IsZone h b q ∧ clK p q = some z ∧ (z = "within" ∨ a < b))
/-! reasons found, orders made -/
def earlyF (kvs : List (Key × D)) (r : HRow) : Option D := match lookA kvs (.inl r.val) with
  | some (.tup [wt, _, _, .int wb, _]) => if r.fin < wb then some (.tup [.str "early", .int r.task, wt]) else none
  | _ => none
theorem wp_earlies {S : Store} {x : D} {h : List HRow} {α : Type} {k : D → Store → R α} {P : α → Store → Prop} (hx : IsH S x h) (ok : HOk h) (q : ∀ (es : List D) S', Keep S S' → es.length ≤ 60 → (es = [] ↔ NoEarly h) → (∀ e ∈ es, ∃ a b : Int, e = .tup [.str "early", .int a, .int b] ∧ EarlyP h a b) → wpE (k (.lst es) S') P) : wpE ((F_earlies [x] S).bind k) P := by
  obtain ⟨at_, ha, hh⟩ := hx.any
  have few := ok.few
  unfold F_earlies B_earlies
  walk_at "ev"
  rw [ha]
  walk_at "ev"
  refine wp_dc (s := ⟨h.map HRow.d, at_⟩) (fun i S' => ∃ kvs : List (Key × D), S'[S.length]? = some (.dK kvs) ∧ kvs.length ≤ i ∧ (∀ (m : Int) (d : D), lookA kvs (.inl m) = some d ↔ ∃ w ∈ h.take i, w.wr = true ∧ w.val = m ∧ d = w.d) ∧ Keep S S') ⟨[], app_at, Nat.le_refl _, fun m d => by simp [lookA_nil], Keep.app⟩ ?_ ?_
  · rintro i y S' hy ⟨kvs, h1, h2, h3, h4⟩
    obtain ⟨r, hr, rfl⟩ := hrow_get hy
    have mr := List.mem_of_getElem? hr
    have il : i < h.length := (List.getElem?_eq_some_iff.mp hr).1
    refine ⟨hh _ h4, ?_⟩
    unfold HRow.d B_earlies_g1 B_earlies_t2 B_earlies_k3 B_earlies_e4
    walk_at "ev"
    simp only [wS_w]
    refine wp_ite (fun e => ?_) fun e => ?_
    · rw [putC_ok (q := .inl r.val) rfl h1 (by omega)]
      refine wpE_ok_i ⟨putA kvs (.inl r.val) r.d, List.getElem?_set_self (List.getElem?_eq_some_iff.mp h1).1, Nat.le_trans (putA_len _ _ _) (by omega), fun m d => ?_, h4.put (Nat.le_refl _)⟩
      rw [lookA_putA, take_more hr]
      by_cases em : r.val = m
      · rw [if_pos (by rw [em])]
        constructor
        · intro z
          cases z
          exact ⟨r, by simp, e, em, rfl⟩
        · rintro ⟨w, hw, w1, w2, rfl⟩
          have mw : w ∈ h := by
            rcases List.mem_append.mp hw with hw | hw
            · exact List.mem_of_mem_take hw
            · rw [List.mem_singleton.mp hw]; exact mr
          rw [ok.uniq w mw r mr w1 e (w2.trans em.symm)]
          rfl
      · rw [if_neg (fun z => em (Sum.inl.inj z)), h3 m d]
        constructor
        · rintro ⟨w, hw, z⟩
          exact ⟨w, List.mem_append_left _ hw, z⟩
        · rintro ⟨w, hw, w1, w2, z⟩
          rcases List.mem_append.mp hw with hw | hw
          · exact ⟨w, hw, w1, w2, z⟩
          · rw [List.mem_singleton.mp hw] at w2
            exact absurd w2 em
    · refine wpE_ok_i ⟨kvs, h1, by omega, fun m d => ?_, h4⟩
      rw [h3 m d, take_more hr]
      constructor
      · rintro ⟨w, hw, z⟩
        exact ⟨w, List.mem_append_left _ hw, z⟩
      · rintro ⟨w, hw, w1, w2, z⟩
        rcases List.mem_append.mp hw with hw | hw
        · exact ⟨w, hw, w1, w2, z⟩
        · rw [List.mem_singleton.mp hw] at w1
          exact absurd w1 e
  · rintro S1 ⟨kvs, h1, h2, h3, h4⟩
    rw [show (Src.mk (h.map HRow.d) at_).xs.length = h.length from List.length_map _, List.take_length] at h3
    refine ⟨hh _ h4, ?_⟩
    walk_at "ev"
    obtain ⟨at2, ha2, hh2⟩ := (hx.keep h4).any
    rw [ha2]
    walk_at "ev"
    refine wp_eq (lcD_map (fun r : HRow => if (!r.wr && (lookA kvs (.inl r.val)).isSome) = true then some r.d else none) (hh2 _ .refl) h [] (by rw [List.length_nil]; omega) (fun r hr => by
      unfold HRow.d B_earlies_g5 B_earlies_t6 B_earlies_e7
      walk_at "ev"
      simp only [wS_r]
      cases r.wr with
      | true => walk_at "ev"; rfl
      | false =>
        walk_at "ev"
        rw [inV_dk h1]
        walk_at "ev"
        cases (lookA kvs (.inl r.val)).isSome <;> rfl)) ?_
    rw [List.nil_append, fm_if]
    walk_at "ev"
    have lf : (h.filter fun r => !r.wr && (lookA kvs (.inl r.val)).isSome).length ≤ 60 := Nat.le_trans (List.length_filter_le _ _) few
    have mf : ∀ r ∈ h.filter fun r => !r.wr && (lookA kvs (.inl r.val)).isSome, r ∈ h ∧ r.wr = false ∧ ∃ w ∈ h, w.wr = true ∧ w.val = r.val ∧ lookA kvs (.inl r.val) = some w.d := fun r hr => by
      obtain ⟨m, e⟩ := List.mem_filter.mp hr
      rw [Bool.and_eq_true] at e
      obtain ⟨d, hd⟩ := Option.isSome_iff_exists.mp e.2
      obtain ⟨w, w1, w2, w3, rfl⟩ := (h3 r.val d).mp hd
      exact ⟨m, by simpa using e.1, w, w1, w2, w3, hd⟩
    refine wp_eq (lcD_map (earlyF kvs) held_nil _ [] (by rw [List.length_nil]; omega) (fun r hr => by
      obtain ⟨m, e, w, w1, w2, w3, hw⟩ := mf r hr
      have ix : ixV (.loc S.length) (.int r.val) S1 = .ok w.d S1 := ixV_dk h1 rfl hw
      unfold earlyF
      rw [hw]
      unfold HRow.d at ix ⊢
      unfold B_earlies_g8 B_earlies_t9 B_earlies_e10
      walk_at "ev"
      rw [ix]
      walk_at "ev"
      by_cases c : r.fin < w.beg
      · simp only [c, decide_true]
        walk_at "ev"
        rw [ix]
        walk_at "ev"
      · simp only [c, decide_false]
        walk_at "ev")) ?_
    rw [List.nil_append]
    walk_at "ev"
    refine q _ _ h4 (Nat.le_trans (List.length_filterMap_le _ _) lf) ?_ fun e he => ?_
    · rw [List.filterMap_eq_nil_iff]
      constructor
      · intro z r hr w hw a b e lt
        have lw : lookA kvs (.inl r.val) = some w.d := (h3 _ _).mpr ⟨w, hw, b, e.symm, rfl⟩
        have := z r (List.mem_filter.mpr ⟨hr, by rw [a, lw]; rfl⟩)
        unfold earlyF at this
        rw [lw] at this
        unfold HRow.d at this
        simp [lt] at this
      · intro z r hr
        obtain ⟨m, e, w, w1, w2, w3, hw⟩ := mf r hr
        unfold earlyF
        rw [hw]
        unfold HRow.d
        simp [z r m w w1 e w2 w3.symm]
    · obtain ⟨r, hr, he⟩ := List.mem_filterMap.mp he
      obtain ⟨m, e, w, w1, w2, w3, hw⟩ := mf r hr
      unfold earlyF at he
      rw [hw] at he
      unfold HRow.d at he
      simp only at he
      split at he
      · rename_i lt
        cases he
        exact ⟨r.task, w.task, rfl, r, m, w, w1, rfl, rfl, e, w2, w3.symm, lt⟩
      · cases he

def pairs (vs : List Int) : List (Int × Int) := vs.flatMap fun v => (vs.filter fun u => !(v == u)).map fun u => (v, u)
def pD (p : Int × Int) : D := .tup [.int p.1, .int p.2]
def fD (z : Int → Zone) (p : Int × Int) : D := .tup [oD (clK (z p.1) (z p.2)), .int p.1, .int p.2]
def pairsF (vs : List Int) : D → List D
  | .int v => (vs.filter fun u => !(v == u)).map fun u => pD (v, u)
  | _ => []
theorem pairs_mem {vs : List Int} {a b : Int} : (a, b) ∈ pairs vs ↔ a ∈ vs ∧ b ∈ vs ∧ a ≠ b := by
  unfold pairs
  rw [List.mem_flatMap]
  constructor
  · rintro ⟨v, hv, h⟩
    obtain ⟨u, hu, e⟩ := List.mem_map.mp h
    cases e
    obtain ⟨h1, h2⟩ := List.mem_filter.mp hu
    exact ⟨hv, h1, by simpa using h2⟩
  · rintro ⟨ha, hb, ne⟩
    exact ⟨a, ha, List.mem_map.mpr ⟨b, List.mem_filter.mpr ⟨hb, by simpa using ne⟩, rfl⟩⟩
theorem pairs_len {vs : List Int} (h : vs.length ≤ 61) : (pairs vs).length ≤ 3721 := by
  have : ∀ l : List Int, (l.flatMap fun v => (vs.filter fun u => !(v == u)).map fun u => (v, u)).length ≤ 61 * l.length := fun l => by
    induction l with
    | nil => simp
    | cons v l ih =>
      rw [List.flatMap_cons, List.length_append, List.length_map, List.length_cons]
      have := List.length_filter_le (fun u => !(v == u)) vs
      omega
  have := this vs
  unfold pairs
  omega
theorem pairs_D (vs : List Int) : (vs.map D.int).flatMap (pairsF vs) = (pairs vs).map pD := by
  unfold pairs
  rw [List.map_flatMap, List.flatMap_map]
  congr 1
  funext v
  unfold pairsF
  rw [List.map_map]
  rfl
theorem wp_clashes {S : Store} {x : D} {h : List HRow} {α : Type} {k : D → Store → R α} {P : α → Store → Prop} (hx : IsH S x h) (ok : HOk h) (q : ∀ (cs : List D) vs z S', Keep S S' → cs.length ≤ 8000 → vs.Nodup → (∀ v, v ∈ vs ↔ v = 0 ∨ ∃ r ∈ h, r.val = v) → (∀ v ∈ vs, IsZone h v (z v)) → (cs = [] ↔ NoMutual vs z) → (∃ bs ws, cs = bs ++ ws ∧ (∀ e ∈ bs, ∃ a b : Int, e = .tup [.str "both", .int a, .int b] ∧ a ∈ vs ∧ b ∈ vs ∧ a ≠ b ∧ clK (z a) (z b) = some ("both" : Str) ∧ a < b) ∧ (∀ e ∈ ws, ∃ a b : Int, e = .tup [.str "within", .int a, .int b] ∧ a ∈ vs ∧ b ∈ vs ∧ a ≠ b ∧ clK (z a) (z b) = some ("within" : Str)) ∧ (bs = [] → ∀ a ∈ vs, ∀ b ∈ vs, a < b → clK (z a) (z b) ≠ some ("both" : Str))) → wpE (k (.lst cs) S') P) : wpE ((F_clashes [x] S).bind k) P := by
  unfold F_clashes B_clashes
  walk_at "ev"
  refine wp_zones hx ok fun y vs z S1 k1 zx => ?_
  have few := zx.few
  walk_at "ev"
  unfold B_clashes_i3 diKeys
  simp only [dVar_ev, rdS_0, rdS_s, bind_okN, zx.keys]
  walk_at "ev"
  refine wp_eq (lm2D_pure (pairsF vs) (fun _ => held_nil) (vs.map D.int) [] _ app_at (by rw [List.length_map, List.length_nil]; omega) (fun x hx => by
    obtain ⟨v, _, rfl⟩ := List.mem_map.mp hx
    unfold pairsF
    rw [List.length_map]
    have := List.length_filter_le (fun u => !(v == u)) vs
    omega) (fun x hx acc S' hS hl => by
    obtain ⟨v, _, rfl⟩ := List.mem_map.mp hx
    unfold B_clashes_g1 B_clashes_t2
    walk_at "ev"
    simp only [bind_okN, zx.keys]
    walk_at "ev"
    refine (lmD_pure (fun u => match u with
      | .int u => if (!(v == u)) = true then some (pD (v, u)) else none
      | _ => none) (fun _ => held_nil) (vs.map D.int) acc S' hS (by rw [List.length_map]; omega) (fun u hu S2 => by
      obtain ⟨u, _, rfl⟩ := List.mem_map.mp hu
      unfold B_clashes_g4 B_clashes_t5 B_clashes_e6
      walk_at "ev"
      cases v == u <;> rfl)).trans ?_
    rw [List.filterMap_map]
    congr 3
    show acc ++ _ = acc ++ (vs.filter fun u => !(v == u)).map fun u => pD (v, u)
    rw [← fm_if]
    rfl)) ?_
  rw [List.nil_append, pairs_D]
  have h2 : ((S1 ++ [O.lst []]).set S1.length (.lst ((pairs vs).map pD)))[S1.length]? = some (.lst ((pairs vs).map pD)) := List.getElem?_set_self (by simp)
  have k2 : Keep S ((S1 ++ [O.lst []]).set S1.length (.lst ((pairs vs).map pD))) := k1.trans (Keep.app.put (Nat.le_refl _))
  generalize (S1 ++ [O.lst []]).set S1.length (.lst ((pairs vs).map pD)) = S2 at h2 k2 ⊢
  have lp := pairs_len few
  walk_at "ev"
  refine wp_eq (lcD_map (fun p => some (fD z p)) (held_one.mpr (.inl h2)) (pairs vs) [] (by rw [List.length_nil]; omega) (fun p hp => by
    obtain ⟨a, b⟩ := p
    obtain ⟨ha, hb, _⟩ := pairs_mem.mp hp
    unfold pD B_clashes_g7 B_clashes_t8 B_clashes_e9
    walk_at "ev"
    rw [zx.ix a ha]
    walk_at "ev"
    rw [zx.ix b hb]
    walk_at "ev"
    rw [clash_eq]
    walk_at "ev"
    rfl)) ?_
  rw [List.nil_append, fm_all]
  walk_at "ev"
  refine wp_eq (lcD_map (fun p : Int × Int => if (clK (z p.1) (z p.2) == some ("both" : Str) && decide (p.1 < p.2)) = true then some (fD z p) else none) held_nil (pairs vs) [] (by rw [List.length_nil]; omega) (fun p hp => by
    unfold fD B_clashes_g10 B_clashes_t11 B_clashes_e12
    walk_at "ev"
    rw [eqV_oD]
    walk_at "ev"
    cases clK (z p.1) (z p.2) == some ("both" : Str) with
    | false => walk_at "ev"; rfl
    | true =>
      walk_at "ev"
      by_cases c : p.1 < p.2 <;> simp [c, fD])) ?_
  rw [List.nil_append, fm_if]
  walk_at "ev"
  refine wp_eq (lcD_map (fun p : Int × Int => if (clK (z p.1) (z p.2) == some ("within" : Str)) = true then some (fD z p) else none) held_nil (pairs vs) [] (by rw [List.length_nil]; omega) (fun p hp => by
    unfold fD B_clashes_g13 B_clashes_t14 B_clashes_e15
    walk_at "ev"
    rw [eqV_oD]
    walk_at "ev"
    cases clK (z p.1) (z p.2) == some ("within" : Str) <;> rfl)) ?_
  rw [List.nil_append, fm_if]
  have l1 := List.length_filter_le (fun p : Int × Int => clK (z p.1) (z p.2) == some ("both" : Str) && decide (p.1 < p.2)) (pairs vs)
  have l2 := List.length_filter_le (fun p : Int × Int => clK (z p.1) (z p.2) == some ("within" : Str)) (pairs vs)
  walk_at "ev"
  rw [addV_ll (by rw [List.length_map, List.length_map]; omega)]
  walk_at "ev"
  refine q _ vs z _ k2 (by rw [List.length_append, List.length_map, List.length_map]; omega) zx.nd zx.mv zx.hz ?_ ⟨_, _, rfl, fun e he => ?_, fun e he => ?_, fun e a ha b hb lt c => ?_⟩
  · rw [List.append_eq_nil_iff, List.map_eq_nil_iff, List.map_eq_nil_iff, List.filter_eq_nil_iff, List.filter_eq_nil_iff]
    constructor
    · rintro ⟨n1, n2⟩ a ha b hb ne ⟨h1, h2⟩
      have m1 : (a, b) ∈ pairs vs := pairs_mem.mpr ⟨ha, hb, ne⟩
      have m2 : (b, a) ∈ pairs vs := pairs_mem.mpr ⟨hb, ha, Ne.symm ne⟩
      rcases clK_mutual h1 h2 with ⟨c1, c2⟩ | c | c
      · rcases Int.lt_or_gt_of_ne ne with lt | lt
        · exact n1 _ m1 (by simp [c1, lt])
        · exact n1 _ m2 (by simp [c2, lt])
      · exact n2 _ m1 (by simp [c])
      · exact n2 _ m2 (by simp [c])
    · intro n
      refine ⟨fun p hp c => ?_, fun p hp c => ?_⟩
      · obtain ⟨a, b⟩ := p
        obtain ⟨ha, hb, ne⟩ := pairs_mem.mp hp
        rw [Bool.and_eq_true] at c
        exact n a ha b hb ne (clK_some (s := "both") (by simpa using c.1))
      · obtain ⟨a, b⟩ := p
        obtain ⟨ha, hb, ne⟩ := pairs_mem.mp hp
        exact n a ha b hb ne (clK_some (s := "within") (by simpa using c))
  · obtain ⟨p, hp, rfl⟩ := List.mem_map.mp he
    obtain ⟨m, c⟩ := List.mem_filter.mp hp
    obtain ⟨a, b⟩ := p
    obtain ⟨ha, hb, ne⟩ := pairs_mem.mp m
    rw [Bool.and_eq_true] at c
    have c1 : clK (z a) (z b) = some ("both" : Str) := by simpa using c.1
    unfold fD
    exact ⟨a, b, by rw [c1]; rfl, ha, hb, ne, c1, of_decide_eq_true c.2⟩
  · obtain ⟨p, hp, rfl⟩ := List.mem_map.mp he
    obtain ⟨m, c⟩ := List.mem_filter.mp hp
    obtain ⟨a, b⟩ := p
    obtain ⟨ha, hb, ne⟩ := pairs_mem.mp m
    have c1 : clK (z a) (z b) = some ("within" : Str) := by simpa using c
    unfold fD
    exact ⟨a, b, by rw [c1]; rfl, ha, hb, ne, c1⟩
  · rw [List.map_eq_nil_iff, List.filter_eq_nil_iff] at e
    exact e (a, b) (pairs_mem.mpr ⟨ha, hb, by omega⟩) (by simp [c, lt])
/-! what is found -/
theorem anyV_all {β : Type} {f : β → Bool} {l : List β} {S : Store} : anyV [.lst (l.map fun a => D.bl (f a))] S = .ok (.bl (l.any f)) S := by
  have e : boolsOf (l.map fun a => D.bl (f a)) = some (l.map f) := by
    induction l with
    | nil => rfl
    | cons a l ih =>
      rw [List.map_cons, List.map_cons]
      unfold boolsOf
      rw [ih]
      rfl
  show (match boolsOf (l.map fun a => D.bl (f a)) with
    | some bs => R.ok (D.bl (bs.any id)) S
    | none => .no) = _
  rw [e]
  show R.ok (D.bl ((l.map f).any id)) S = _
  rw [List.any_map]
  rfl
theorem wp_next {S : Store} {y : D} {h : List HRow} {vs left : List Int} {z : Int → Zone} {n : Nat} {α : Type} {k : D → Store → R α} {P : α → Store → Prop} (zx : ZX h y vs z) (hS : S[n]? = some (.lst (left.map D.int))) (sub : ∀ v ∈ left, v ∈ vs) (few : left.length ≤ 61) (ne : left ≠ []) (q : ∀ v ∈ left, wpE (k (.int v) S) P) : wpE ((F_next_value [y, .loc n] S).bind k) P := by
  unfold F_next_value B_next_value
  walk_at "ev"
  refine wp_for (s := ⟨left.map D.int, [(n, left.map D.int)]⟩) (fun i st S' => S' = S ∧ ∃ y2 y3, st = [some y, some (.loc n), y2, y3]) ⟨rfl, _, _, rfl⟩ ?_ ?_
  · rintro i x st _ hx ⟨rfl, y2, y3, rfl⟩
    obtain ⟨v, hv, rfl⟩ := List.mem_map.mp (List.mem_of_getElem? hx)
    refine ⟨held_one.mpr (.inl hS), ?_⟩
    unfold B_next_value_b4
    walk_at "ev"
    refine wp_eq (lcD_map (fun u => if (!(u == v)) = true then some (D.bl (goesB (z u) (z v))) else none) (held_one.mpr (.inl hS)) left [] (by rw [List.length_nil]; omega) (fun u hu => by
      unfold B_next_value_g1 B_next_value_t2 B_next_value_e3
      walk_at "ev"
      cases u == v with
      | true => walk_at "ev"
      | false =>
        walk_at "ev"
        rw [zx.ix u (sub u hu)]
        walk_at "ev"
        rw [zx.ix v (sub v hv)]
        walk_at "ev"
        rw [goes_eq]
        walk_at "ev")) ?_
    rw [List.nil_append, fm_if]
    walk_at "ev"
    rw [anyV_all]
    walk_at "ev"
    refine wp_ite (fun c => ?_) fun c => ?_
    · walk_at "ev"
      exact q v hv
    · walk_at "ev"
      exact ⟨_, _, rfl⟩
  · rintro st _ ⟨rfl, y2, y3, rfl⟩
    refine ⟨held_one.mpr (.inl hS), ?_⟩
    obtain ⟨v, l, rfl⟩ := List.exists_cons_of_ne_nil ne
    walk_at "ev"
    exact q v List.mem_cons_self
/-! orders -/
theorem rem_ok {n : Nat} {l : List Int} {v : Int} {S : Store} (h : S[n]? = some (.lst (l.map D.int))) (hv : v ∈ l) : remV (.loc n) [.int v] S = .ok .non (S.set n (.lst ((l.erase v).map D.int))) := by
  unfold remV
  simp only [h, intsOf_all, hv, if_true]
def srtD (r : HRow) : D := .tup [.bl (!r.wr), .int r.beg, .int r.task]
def srtP (r : HRow) : PyData := .tuple [.bool (!r.wr), .int r.beg, .int r.task]
theorem srt_py (l : List HRow) : toPyA (l.map srtD) = some (l.map srtP) := by
  induction l with
  | nil => rfl
  | cons r l ih =>
    rw [List.map_cons, List.map_cons]
    unfold toPyA
    rw [ih]
    rfl
theorem srt_ok (l : List HRow) : srtOk (l.map srtP) = true := by
  unfold srtOk
  rw [Bool.and_eq_true, Bool.and_eq_true, Bool.or_eq_true]
  refine ⟨List.all_eq_true.mpr fun d hd => List.all_eq_true.mpr fun d' hd' => ?_, .inl (List.all_eq_true.mpr fun d hd => ?_), List.all_eq_true.mpr fun d hd => ?_⟩
  · obtain ⟨t, _, rfl⟩ := List.mem_map.mp hd
    obtain ⟨t', _, rfl⟩ := List.mem_map.mp hd'
    rfl
  · obtain ⟨t, _, rfl⟩ := List.mem_map.mp hd
    rfl
  · obtain ⟨t, _, rfl⟩ := List.mem_map.mp hd
    exact decide_eq_true (Nat.le_of_ble_eq_true rfl)
theorem srt_made {S : Store} (l : List HRow) : ∃ ys, sortedW [.lst (l.map srtD)] S = .ok (.lst ys) S ∧ ys.length ≤ l.length ∧ ∀ y ∈ ys, ∃ r ∈ l, y = srtD r := by
  refine ⟨ordD (l.map srtD) (l.map srtP), ?_, ?_, fun y hy => ?_⟩
  · show (match sortC2 (.lst (l.map srtD)) S with
      | some ys => R.ok (D.lst ys) S
      | none => R.no) = _
    cases l with
    | nil =>
      have e1 : sortC2 (.lst (([] : List HRow).map srtD)) S = some [] := by
        simp [sortC2, sortC, lsOf, intsOf, sortI]
      have e2 : ordD (([] : List HRow).map srtD) (([] : List HRow).map srtP) = [] := by simp [ordD]
      rw [e1, e2]
    | cons r l =>
      have e : sortC2 (.lst ((r :: l).map srtD)) S = some (ordD ((r :: l).map srtD) ((r :: l).map srtP)) := by
        show (match toPyA ((r :: l).map srtD) with
          | some ds => if srtOk ds = true then some (ordD ((r :: l).map srtD) ds) else none
          | none => none) = _
        rw [srt_py]
        exact if_pos (srt_ok (r :: l))
      rw [e]
  · unfold ordD
    rw [List.length_map, List.length_mergeSort, List.length_zip, List.length_map, List.length_map]
    omega
  · unfold ordD at hy
    obtain ⟨p, hp, rfl⟩ := List.mem_map.mp hy
    have := (List.of_mem_zip ((List.mergeSort_perm _ _).mem_iff.mp hp)).1
    obtain ⟨r, hr, e⟩ := List.mem_map.mp this
    exact ⟨r, hr, e.symm⟩
theorem wp_ordered {S : Store} {x : D} {h : List HRow} {α : Type} {k : D → Store → R α} {P : α → Store → Prop} (hx : IsH S x h) (ok : HOk h) (q : ∀ (z : Str) ys S', Keep S S' → (z = "order" ↔ ∃ p, p.Perm h ∧ HSeq p 0) → (z = "order" ∨ z = "early" ∨ z = "both" ∨ z = "within") → wpE (k (.tup (.str z :: ys)) S') P) : wpE ((F_ordered [x] S).bind k) P := by
  unfold F_ordered B_ordered
  walk_at "ev"
  refine wp_earlies hx ok fun es S1 k1 le he te => ?_
  walk_at "ev"
  refine wp_clashes (hx.keep k1) ok fun cs vs z S2 k2 lc nd mv hz hc tc => ?_
  have iff := order_iff ok nd mv hz
  have k2 := k1.trans k2
  walk_at "ev"
  rw [neL_l0]
  have tag : ∀ d ∈ es ++ cs, ∃ (z : Str) (ys : List D), d = .tup (.str z :: ys) ∧ z ≠ "order" ∧ (z = "early" ∨ z = "both" ∨ z = "within") := fun d hd => by
    rcases List.mem_append.mp hd with hd | hd
    · obtain ⟨a, b, rfl, _⟩ := te d hd
      exact ⟨_, _, rfl, by decide +kernel, .inl rfl⟩
    · obtain ⟨bs, ws, ecs, tb, tw, _⟩ := tc
      rw [ecs] at hd
      rcases List.mem_append.mp hd with hd | hd
      · obtain ⟨a, b, rfl, _⟩ := tb d hd
        exact ⟨_, _, rfl, by decide +kernel, .inr (.inl rfl)⟩
      · obtain ⟨a, b, rfl, _⟩ := tw d hd
        exact ⟨_, _, rfl, by decide +kernel, .inr (.inr rfl)⟩
  have none_ : es ++ cs = [] ↔ ∃ p, p.Perm h ∧ HSeq p 0 := by
    rw [iff, List.append_eq_nil_iff, he, hc]
  generalize es ++ cs = rs at tag none_ ⊢
  cases rs with
  | cons d rs =>
    obtain ⟨t, ys, rfl, t1, t2⟩ := tag d List.mem_cons_self
    walk_at "ev"
    exact q t ys S2 k2 ⟨fun e => absurd e t1, fun e => by cases none_.mpr e⟩ (.inr t2)
  | nil =>
    have so := none_.mp rfl
    walk_at "ev"
    refine wp_zones (hx.keep k2) ok fun y us w S3 k3 zx => ?_
    have k3 := k2.trans k3
    have few := ok.few
    have uf := zx.few
    walk_at "ev"
    rw [zx.lst]
    have h4 : (S3 ++ [O.lst (us.map D.int)])[S3.length]? = some (.lst (us.map D.int)) := app_at
    have k4 : Keep S (S3 ++ [O.lst (us.map D.int)]) := k3.trans Keep.app
    have ln : S.length ≤ S3.length := k3.len
    generalize S3 ++ [O.lst (us.map D.int)] = S4 at h4 k4 ⊢
    generalize S3.length = n at h4 ln ⊢
    walk_at "ev"
    refine wp_while (fun m st S' => ∃ left ord y5 y6, st = [some x, some (.lst []), some y, some (.loc n), some (.lst ord), y5, y6, none] ∧ S'[n]? = some (.lst (left.map D.int)) ∧ left.length = m ∧ m ≤ 61 ∧ (∀ v ∈ left, v ∈ us) ∧ ord.length + 60 * m ≤ 4000 ∧ Keep S S') ?_ 100000 us.length _ _ (by omega) ⟨us, [], _, _, rfl, h4, rfl, uf, fun _ h => h, by rw [List.length_nil]; omega, k4⟩
    rintro m st S5 ⟨left, ord, y5, y6, rfl, h5, lm, m61, sub, lo, k5⟩
    refine ⟨!(left.map D.int).isEmpty, ?_, fun c => ?_, fun c => ?_⟩
    · unfold B_ordered_t8
      walk_at "ev"
      rw [neL_m0 h5]
      walk_at "ev"
    · have ne : left ≠ [] := by
        rintro rfl
        cases c
      have mp : 1 ≤ m := by
        cases left with
        | nil => exact absurd rfl ne
        | cons a l => rw [List.length_cons] at lm; omega
      unfold B_ordered_b7
      walk_at "ev"
      refine wp_next zx h5 sub (by omega) ne fun v hv => ?_
      walk_at "ev"
      refine wp_eq (rem_ok h5 hv) ?_
      have h6 : (S5.set n (.lst ((left.erase v).map D.int)))[n]? = some (.lst ((left.erase v).map D.int)) := List.getElem?_set_self (List.getElem?_eq_some_iff.mp h5).1
      have k6 : Keep S (S5.set n (.lst ((left.erase v).map D.int))) := k5.put ln
      generalize S5.set n (.lst ((left.erase v).map D.int)) = S6 at h6 k6 ⊢
      walk_at "ev"
      obtain ⟨at_, ha, hh⟩ := (hx.keep k6).any
      rw [ha]
      walk_at "ev"
      refine wp_eq (lcD_map (fun r : HRow => if (r.val == v) = true then some (srtD r) else none) (hh _ .refl) h [] (by rw [List.length_nil]; omega) (fun r hr => by
        unfold HRow.d B_ordered_g1 B_ordered_t2 B_ordered_e3
        walk_at "ev"
        cases r.val == v with
        | false => rfl
        | true =>
          walk_at "ev"
          rw [wS_r]
          rfl)) ?_
      rw [List.nil_append, fm_if]
      walk_at "ev"
      have lf := List.length_filter_le (fun r : HRow => r.val == v) h
      obtain ⟨ys, ey, ly, my⟩ := srt_made (S := S6) (h.filter fun r => r.val == v)
      refine wp_eq ey ?_
      walk_at "ev"
      refine wp_eq (lcD_pure (fun d => match d with
        | .tup [_, _, t] => some t
        | _ => none) held_nil ys [] (by rw [List.length_nil]; omega) (fun d hd => by
        obtain ⟨r, _, rfl⟩ := my d hd
        unfold srtD B_ordered_g4 B_ordered_t5 B_ordered_e6
        walk_at "ev")) ?_
      rw [List.nil_append]
      have lg := List.length_filterMap_le (fun d => match d with
        | .tup [_, _, t] => some t
        | _ => none) ys
      walk_at "ev"
      refine ⟨m - 1, by omega, left.erase v, _, _, _, rfl, h6, by rw [List.length_erase_of_mem hv]; omega, by omega, fun u hu => sub u (List.mem_of_mem_erase hu), by rw [List.length_append]; omega, k6⟩
    · walk_at "ev"
      exact q "order" _ S5 k5 ⟨fun _ => so, fun _ => rfl⟩ (.inl rfl)
/-! ### rows by their tasks -/
theorem HOk.byTask {h : List HRow} (x : HOk h) : ∀ r ∈ h, ∀ o ∈ h, r.task = o.task → r = o := by
  have key : ∀ (l : List HRow), (l.map (·.task)).Nodup → ∀ r ∈ l, ∀ o ∈ l, r.task = o.task → r = o := fun l => by
    induction l with
    | nil => intro _ r hr; cases hr
    | cons a l ih =>
      intro n r hr o ho e
      rw [List.map_cons, List.nodup_cons] at n
      rcases List.mem_cons.mp hr with er | hr2 <;> rcases List.mem_cons.mp ho with eo | ho2
      · rw [er, eo]
      · exact absurd (List.mem_map.mpr ⟨o, ho2, e.symm.trans (congrArg HRow.task er)⟩) n.1
      · exact absurd (List.mem_map.mpr ⟨r, hr2, e.trans (congrArg HRow.task eo)⟩) n.1
      · exact ih n.2 r hr2 o ho2 e
  exact key h x.tasks
structure TaskD (h : List HRow) (kvs : List (Key × D)) : Prop where
  len : kvs.length ≤ h.length
  keys : kvs.map (·.1) = (h.map (·.task)).map Sum.inl
  at_ : ∀ (m : Int) (d : D), lookA kvs (.inl m) = some d ↔ ∃ r ∈ h, r.task = m ∧ d = r.d
theorem TaskD.step {h : List HRow} {kvs : List (Key × D)} {r : HRow} (t : TaskD h kvs) (no : ∀ o ∈ h, o.task ≠ r.task) : TaskD (h ++ [r]) (putA kvs (.inl r.task) r.d) := by
  refine ⟨Nat.le_trans (putA_len _ _ _) (by rw [List.length_append, List.length_singleton]; have := t.len; omega), ?_, fun m d => ?_⟩
  · unfold putA
    rw [if_neg, List.map_append, List.map_append, List.map_append, t.keys]
    · rfl
    · intro c
      obtain ⟨kv, hk, e⟩ := List.any_eq_true.mp c
      have e := of_decide_eq_true e
      have m : kv.1 ∈ (h.map (·.task)).map Sum.inl := by rw [← t.keys]; exact List.mem_map.mpr ⟨kv, hk, rfl⟩
      rw [e] at m
      obtain ⟨u, hu, eu⟩ := List.mem_map.mp m
      obtain ⟨o, ho, eo⟩ := List.mem_map.mp hu
      exact no o ho (eo.trans (Sum.inl.inj eu))
  rw [lookA_putA]
  by_cases em : r.task = m
  · rw [if_pos (by rw [em])]
    constructor
    · intro z
      cases z
      exact ⟨r, by simp, em, rfl⟩
    · rintro ⟨w, hw, w1, rfl⟩
      rcases List.mem_append.mp hw with hw | hw
      · exact absurd (w1.trans em.symm) (no w hw)
      · rw [List.mem_singleton.mp hw]
  · rw [if_neg (fun z => em (Sum.inl.inj z)), t.at_ m d]
    constructor
    · rintro ⟨w, hw, z⟩
      exact ⟨w, List.mem_append_left _ hw, z⟩
    · rintro ⟨w, hw, w1, z⟩
      rcases List.mem_append.mp hw with hw | hw
      · exact ⟨w, hw, w1, z⟩
      · rw [List.mem_singleton.mp hw] at w1
        exact absurd w1 em
theorem HOk.apart {h : List HRow} (x : HOk h) {i : Nat} {r : HRow} (hr : h[i]? = some r) : ∀ o ∈ h.take i, o.task ≠ r.task := fun o ho e => by
  have n : ((h.take (i + 1)).map (·.task)).Nodup := x.tasks.sublist ((List.take_sublist _ _).map _)
  rw [take_more hr, List.map_append, List.nodup_append] at n
  exact n.2.2 _ (List.mem_map.mpr ⟨o, ho, rfl⟩) _ (by simp) e
/-- the dict of rows by their tasks -/
theorem wp_byTask {S S0 : Store} {h : List HRow} {at_ : List (Nat × List D)} {n : Nat} {g : DGv} {t : DTv} {ek ev : DEv} {st : DSt} {α : Type} {k : Unit → Store → R α} {P : α → Store → Prop} (ok : HOk h) (hh : ∀ S', Keep S S' → Src.held ⟨h.map HRow.d, at_⟩ S') (h0 : S0[n]? = some (.dK [])) (k0 : Keep S S0) (hn : S.length ≤ n)
    (one : ∀ r ∈ h, ∀ S', dcT n g t ek ev st r.d S' = putC n (.int r.task) r.d S') (q : ∀ kvs S', S'[n]? = some (.dK kvs) → TaskD h kvs → Keep S S' → wpE (k () S') P) : wpE ((dcD ⟨h.map HRow.d, at_⟩ n g t ek ev st (h.map HRow.d) S0).bind k) P := by
  have few := ok.few
  refine wp_dc (s := ⟨h.map HRow.d, at_⟩) (fun i S' => ∃ kvs : List (Key × D), S'[n]? = some (.dK kvs) ∧ TaskD (h.take i) kvs ∧ Keep S S') ⟨[], h0, ⟨Nat.zero_le _, rfl, fun m d => by simp [lookA_nil]⟩, k0⟩ ?_ ?_
  · rintro i y S' hy ⟨kvs, h1, h2, h3⟩
    obtain ⟨r, hr, rfl⟩ := hrow_get hy
    have mr := List.mem_of_getElem? hr
    have l2 := h2.len
    have lt := List.length_take_le i h
    have lt2 : (h.take i).length ≤ h.length := by rw [List.length_take]; omega
    refine ⟨hh _ h3, ?_⟩
    rw [one r mr, putC_ok (q := .inl r.task) rfl h1 (by omega)]
    refine wpE_ok_i ⟨putA kvs (.inl r.task) r.d, List.getElem?_set_self (List.getElem?_eq_some_iff.mp h1).1, ?_, h3.put hn⟩
    rw [take_more hr]
    exact h2.step (ok.apart hr)
  · rintro S1 ⟨kvs, h1, h2, h3⟩
    rw [show (Src.mk (h.map HRow.d) at_).xs.length = h.length from List.length_map _, List.take_length] at h2
    exact ⟨hh _ h3, q kvs S1 h1 h2 h3⟩
/-! ### what is an order -/
/-- by the begins so far -/
def PSeq : List HRow → Int → Int → Prop
  | [], _, _ => True
  | r :: l, a, last => ¬ r.fin < a ∧ (r.wr = true ∨ r.val = last) ∧ PSeq l (if r.beg > a then r.beg else a) r.val
theorem pseq_iff : ∀ {l : List HRow} {a last : Int}, (∀ r ∈ l, r.beg < r.fin) → (PSeq l a last ↔ (∀ o ∈ l, ¬ o.fin < a) ∧ HSeq l last)
  | [], _, _, _ => ⟨fun _ => ⟨fun o h => (by cases h), True.intro⟩, fun _ => True.intro⟩
  | r :: l, a, last, ti => by
    have ih := pseq_iff (l := l) (a := if r.beg > a then r.beg else a) (last := r.val) fun o ho => ti o (List.mem_cons_of_mem _ ho)
    have tr := ti r List.mem_cons_self
    constructor
    · rintro ⟨h1, h2, h3⟩
      obtain ⟨h4, h5⟩ := ih.mp h3
      refine ⟨fun o ho => ?_, h2, fun o ho => ?_, h5⟩
      · rcases List.mem_cons.mp ho with rfl | ho
        · exact h1
        · have := h4 o ho
          split at this <;> omega
      · have := h4 o ho
        split at this <;> omega
    · rintro ⟨h1, h2, h3, h4⟩
      refine ⟨h1 r List.mem_cons_self, h2, ih.mpr ⟨fun o ho => ?_, h4⟩⟩
      have a1 := h1 o (List.mem_cons_of_mem _ ho)
      have a2 := h3 o ho
      split <;> omega
theorem perm_unmap {α β : Type} {f : α → β} : ∀ {ts : List β} {h : List α}, ts.Perm (h.map f) → ∃ l : List α, l.Perm h ∧ l.map f = ts
  | [], h, p => by
    have := List.nil_perm.mp p
    rw [List.map_eq_nil_iff] at this
    rw [this]
    exact ⟨[], .nil, rfl⟩
  | t :: ts, h, p => by
    obtain ⟨r, hr, er⟩ := List.mem_map.mp (p.mem_iff.mp List.mem_cons_self)
    obtain ⟨s, u, rfl⟩ := List.append_of_mem hr
    have e : ((s ++ r :: u).map f).Perm (t :: (s ++ u).map f) := by
      rw [List.map_append, List.map_cons, List.map_append, er]
      exact List.perm_middle
    obtain ⟨l, pl, el⟩ := perm_unmap (List.Perm.cons_inv (p.trans e))
    exact ⟨r :: l, (List.Perm.cons r pl).trans List.perm_middle.symm, by rw [List.map_cons, er, el]⟩
def OrdP (h : List HRow) (ts : List Int) : Prop := ∃ l : List HRow, l.Perm h ∧ l.map (·.task) = ts ∧ HSeq l 0
theorem ord_one {h l l' : List HRow} (ok : HOk h) (p : l.Perm h) (p' : l'.Perm h) (e : l.map (·.task) = l'.map (·.task)) : l = l' := by
  have key : ∀ (l l' : List HRow), (∀ r ∈ l, r ∈ h) → (∀ r ∈ l', r ∈ h) → l.map (·.task) = l'.map (·.task) → l = l' := fun l => by
    induction l with
    | nil =>
      intro l' _ _ e
      rw [List.map_nil] at e
      exact (List.map_eq_nil_iff.mp e.symm).symm
    | cons a l ih =>
      intro l' m1 m2 e
      cases l' with
      | nil => cases e
      | cons b l' =>
        rw [List.map_cons, List.map_cons] at e
        injection e with e1 e2
        rw [ok.byTask a (m1 a List.mem_cons_self) b (m2 b List.mem_cons_self) e1, ih l' (fun r hr => m1 r (List.mem_cons_of_mem _ hr)) (fun r hr => m2 r (List.mem_cons_of_mem _ hr)) e2]
  exact key l l' (fun r hr => p.mem_iff.mp hr) (fun r hr => p'.mem_iff.mp hr) e
theorem ord_iff {h l : List HRow} {ts : List Int} (ok : HOk h) (p : l.Perm h) (e : l.map (·.task) = ts) : OrdP h ts ↔ HSeq l 0 :=
  ⟨fun ⟨l', p', e', s⟩ => by rw [ord_one ok p p' (e.trans e'.symm)]; exact s, fun s => ⟨l, p, e, s⟩⟩
theorem sort_same {a b : List Int} : sortI a = sortI b ↔ a.Perm b := by
  constructor
  · intro e
    exact (List.mergeSort_perm a _).symm.trans ((by rw [show List.mergeSort a _ = sortI a from rfl, e]; exact List.mergeSort_perm b _))
  · intro p
    exact (sortI_eq ((List.mergeSort_perm a _).trans p) (sortI_pw a))
theorem py_ints (a : List Int) : toPyA (a.map D.int) = some (a.map PyData.int) := by
  induction a with
  | nil => rfl
  | cons i l ih =>
    rw [List.map_cons, List.map_cons]
    unfold toPyA
    rw [ih]
    rfl
theorem dep_ints (a : List Int) : (PyData.list (a.map PyData.int)).depth ≤ 64 := by
  have : ∀ a : List Int, PyData.depthAll (a.map PyData.int) ≤ 1 := fun a => by
    induction a with
    | nil => simp [PyData.depthAll]
    | cons i l ih => simp [PyData.depthAll, PyData.depth, ih]
  have := this a
  simp only [PyData.depth]
  omega
theorem eqv_ints (a b : List Int) : PyData.eqv (.list (a.map PyData.int)) (.list (b.map PyData.int)) = decide (a = b) := by
  have : ∀ a b : List Int, PyData.eqvAll (a.map PyData.int) (b.map PyData.int) = decide (a = b) := fun a => by
    induction a with
    | nil => intro b; cases b <;> simp [PyData.eqvAll]
    | cons i l ih =>
      intro b
      cases b with
      | nil => simp [PyData.eqvAll]
      | cons j m =>
        simp only [List.map_cons, PyData.eqvAll, PyData.eqv, ih]
        by_cases e : i = j <;> by_cases e2 : l = m <;> simp [e, e2]
  simp only [PyData.eqv, this]
theorem neV_ints {a b : List Int} {S : Store} : neV (.lst (a.map D.int)) (.lst (b.map D.int)) S = .ok (.bl (!decide (a = b))) S := by
  have t : ∀ a : List Int, toPyS S (.lst (a.map D.int)) = some (.list (a.map PyData.int)) := fun a => by
    show (toPyA (a.map D.int)).map PyData.list = _
    rw [py_ints]
    rfl
  unfold neV
  simp only [t, eqv_ints]
  exact if_pos (Nat.le_trans (Nat.min_le_left _ _) (dep_ints a))
theorem sortDI_ok {n : Nat} {h : List HRow} {kvs : List (Key × D)} {S : Store} (hS : S[n]? = some (.dK kvs)) (t : TaskD h kvs) (few : h.length ≤ 60) : sortDI [.loc n] S = .ok (.lst ((sortI (h.map (·.task))).map D.int)) S := by
  unfold sortDI
  simp only [keysOfD, hS, t.keys, keyInts_map]
  rw [if_pos (by rw [List.length_map]; omega)]
theorem sortW_ok {l : List Int} {S : Store} : sortedW [.lst (l.map D.int)] S = .ok (.lst ((sortI l).map D.int)) S := by
  unfold sortedW sortC2 sortC
  simp only [lsOf, intsOf_all]
theorem wp_is_order {S : Store} {x : D} {h : List HRow} {ts : List Int} {α : Type} {k : D → Store → R α} {P : α → Store → Prop} (hx : IsH S x h) (ok : HOk h) (q : ∀ (bb : Bool) S', Keep S S' → (bb = true ↔ OrdP h ts) → wpE (k (.bl bb) S') P) : wpE ((F_is_order [x, .lst (ts.map D.int)] S).bind k) P := by
  obtain ⟨at_, hh⟩ := hx.any2
  have few := ok.few
  unfold F_is_order B_is_order
  walk_at "ev"
  rw [(hh S .refl).1]
  walk_at "ev"
  refine wp_byTask ok (fun S' k => (hh S' k).2) app_at Keep.app (Nat.le_refl _) (fun r hr S' => by
    unfold HRow.d B_is_order_g1 B_is_order_t2 B_is_order_k3 B_is_order_e4
    walk_at "ev") fun kvs S1 h1 td k1 => ?_
  walk_at "ev"
  rw [sortDI_ok h1 td few]
  walk_at "ev"
  rw [sortW_ok]
  walk_at "ev"
  rw [neV_ints]
  walk_at "ev"
  by_cases e : sortI (h.map (·.task)) = sortI ts
  · rw [decide_eq_true e]
    walk_at "ev"
    obtain ⟨l, pl, rfl⟩ := perm_unmap (sort_same.mp e).symm
    have ml : ∀ r ∈ l, r ∈ h := fun r hr => pl.mem_iff.mp hr
    have oi := ord_iff ok pl rfl
    have ps := pseq_iff (l := l) (a := -1) (last := 0) fun r hr => (ok.times r (ml r hr)).2
    refine wp_for (s := ⟨(l.map (·.task)).map D.int, []⟩) (fun i st S' => S1 = S' ∧ ∃ (last a : Int) (y5 y6 y7 y8 y9 y10 y11 : Option D), st = [some x, some (.lst ((l.map (·.task)).map D.int)), some (.loc S.length), some (.int last), some (.int a), y5, y6, y7, y8, y9, y10, y11] ∧ (PSeq l (-1) 0 ↔ PSeq (l.drop i) a last)) ⟨rfl, 0, -1, _, _, _, _, _, _, _, rfl, Iff.rfl⟩ ?_ ?_
    · rintro i y st _ hy ⟨rfl, last, a, y5, y6, y7, y8, y9, y10, y11, rfl, iff⟩
      refine ⟨held_nil, ?_⟩
      rw [List.map_map, List.getElem?_map] at hy
      obtain ⟨r, hr, ey⟩ := Option.map_eq_some_iff.mp hy
      replace ey : D.int r.task = y := ey
      subst ey
      obtain ⟨il, er⟩ := List.getElem?_eq_some_iff.mp hr
      have mr : r ∈ l := List.mem_of_getElem? hr
      rw [List.drop_eq_getElem_cons il, er] at iff
      have lk : lookA kvs (.inl r.task) = some r.d := (td.at_ r.task r.d).mpr ⟨r, ml r mr, rfl, rfl⟩
      have ix : ixV (.loc S.length) (.int r.task) S1 = .ok r.d S1 := ixV_dk h1 rfl lk
      unfold B_is_order_b5
      walk_at "ev"
      rw [ix]
      unfold HRow.d
      walk_at "ev"
      by_cases c1 : r.fin < a
      · simp only [c1, decide_true]
        walk_at "ev"
        exact q false S1 k1 ⟨fun y => (by cases y), fun y => absurd c1 (iff.mp (ps.mpr ⟨fun o ho => by have := ok.times o (ml o ho); omega, oi.mp y⟩)).1⟩
      · simp only [c1, decide_false]
        walk_at "ev"
        rw [wS_r]
        by_cases g : r.wr = true ∨ r.val = last
        · have e2 : (if (!r.wr) = true then R.ok (!(r.val == last)) S1 else R.ok false S1) = .ok false S1 := by
            rcases g with g | g <;> simp [g]
          rw [e2]
          walk_at "ev"
          exact ⟨_, _, _, _, _, _, _, _, _, rfl, iff.trans ⟨fun y => y.2.2, fun y => ⟨c1, g, y⟩⟩⟩
        · have e2 : (if (!r.wr) = true then R.ok (!(r.val == last)) S1 else R.ok false S1) = .ok true S1 := by
            rw [not_or] at g
            simp [g.1, g.2]
          rw [e2]
          walk_at "ev"
          exact q false S1 k1 ⟨fun y => (by cases y), fun y => absurd (iff.mp (ps.mpr ⟨fun o ho => by have := ok.times o (ml o ho); omega, oi.mp y⟩)).2.1 g⟩
    · rintro st _ ⟨rfl, last, a, y5, y6, y7, y8, y9, y10, y11, rfl, iff⟩
      refine ⟨held_nil, ?_⟩
      walk_at "ev"
      rw [show (Src.mk ((l.map (·.task)).map D.int) []).xs.length = l.length from by rw [List.length_map, List.length_map], List.drop_length] at iff
      exact q true S1 k1 ⟨fun _ => oi.mpr (ps.mp (iff.mpr True.intro)).2, fun _ => rfl⟩
  · rw [decide_eq_false e]
    walk_at "ev"
    refine q false S1 k1 ⟨fun y => (by cases y), ?_⟩
    rintro ⟨l, p, rfl, _⟩
    exact absurd (sort_same.mpr (p.map _).symm) e
theorem cutD_from {xs : List D} {k : Nat} : cutD xs (some (k : Int)) none = xs.drop k := by
  unfold cutD
  rw [HT.sIx_none, HT.sIx_nat]
  rcases Nat.le_total k xs.length with h | h
  · rw [Nat.min_eq_left h, List.take_of_length_le (by rw [List.length_drop]; exact Nat.le_refl _)]
  · rw [Nat.min_eq_right h, List.drop_length, List.drop_eq_nil_of_le h, List.take_nil]
theorem isi_list {xs : List D} {S : Store} : isiV [.lst xs, .ty "list"] S = .ok (.bl true) S := rfl
theorem wp_right {S : Store} {x : D} {h : List HRow} {ts : List Int} {α : Type} {k : D → Store → R α} {P : α → Store → Prop} (hx : IsH S x h) (ok : HOk h) (few2 : ts.length ≤ 1000) (q : ∀ (bb : Bool) S', Keep S S' → (bb = true ↔ OrdP h ts) → wpE (k (.bl bb) S') P) : wpE ((F_law_order_right [x, .lst (ts.map D.int)] S).bind k) P := by
  obtain ⟨at_, hh⟩ := hx.any2
  have few := ok.few
  unfold F_law_order_right B_law_order_right
  walk_at "ev"
  rw [(hh _ Keep.app).1]
  walk_at "ev"
  refine wp_for (s := ⟨h.map HRow.d, at_⟩) (fun i st S' => (∃ y3 y4 y5 y6, st = [some x, some (.lst (ts.map D.int)), some (.loc S.length), y3, y4, y5, y6]) ∧ ∃ kvs : List (Key × D), S'[S.length]? = some (.dK kvs) ∧ TaskD (h.take i) kvs ∧ Keep S S') ⟨⟨_, _, _, _, rfl⟩, [], app_at, ⟨Nat.zero_le _, rfl, fun m d => by simp [lookA_nil]⟩, Keep.app⟩ ?_ ?_
  · rintro i y st S' hy ⟨⟨y3, y4, y5, y6, rfl⟩, kvs, h1, td, k1⟩
    obtain ⟨r, hr, rfl⟩ := hrow_get hy
    have l2 := td.len
    have lt2 : (h.take i).length ≤ h.length := by rw [List.length_take]; omega
    refine ⟨(hh _ k1).2, ?_⟩
    have ix : ∀ S', ixV r.d (.int 0) S' = .ok (.int r.task) S' := fun _ => rfl
    unfold B_law_order_right_b1
    walk_at "ev"
    rw [ix]
    walk_at "ev"
    refine wp_eq (setO_k (q := .inl r.task) h1 rfl (by omega)) ?_
    walk_at "ev"
    refine ⟨⟨_, _, _, _, rfl⟩, _, List.getElem?_set_self (List.getElem?_eq_some_iff.mp h1).1, ?_, k1.put (Nat.le_refl _)⟩
    rw [take_more hr]
    exact td.step (ok.apart hr)
  · rintro st S1 ⟨⟨y3, y4, y5, y6, rfl⟩, kvs, h1, td, k1⟩
    rw [show (Src.mk (h.map HRow.d) at_).xs.length = h.length from List.length_map _, List.take_length] at td
    refine ⟨(hh _ k1).2, ?_⟩
    walk_at "ev"
    rw [sortDI_ok h1 td few]
    walk_at "ev"
    rw [sortW_ok]
    walk_at "ev"
    rw [neV_ints]
    walk_at "ev"
    by_cases e : sortI (h.map (·.task)) = sortI ts
    · rw [decide_eq_true e]
      walk_at "ev"
      obtain ⟨l, pl, rfl⟩ := perm_unmap (sort_same.mp e).symm
      have ml : ∀ r ∈ l, r ∈ h := fun r hr => pl.mem_iff.mp hr
      have oi := ord_iff ok pl rfl
      have lk : ∀ r ∈ l, ∀ S', S'[S.length]? = some (.dK kvs) → ixV (.loc S.length) (.int r.task) S' = .ok r.d S' := fun r hr S' hS => ixV_dk hS rfl ((td.at_ r.task r.d).mpr ⟨r, ml r hr, rfl, rfl⟩)
      have ll : l.length ≤ 60 := by rw [pl.length_eq]; exact few
      rw [List.length_map, List.length_map]
      walk_at "ev"
      refine wp_for (s := ⟨rangeD 0 (l.length : Int).toNat, []⟩) (fun i st S' => S1 = S' ∧ ∃ (last : Int) (y3 y5 y6 : Option D), st = [some x, some (.lst ((l.map (·.task)).map D.int)), some (.loc S.length), y3, some (.int last), y5, y6] ∧ (HSeq l 0 ↔ HSeq (l.drop i) last)) ⟨rfl, 0, _, _, _, rfl, Iff.rfl⟩ ?_ ?_
      · rintro i y st _ hy ⟨rfl, last, y3, y5, y6, rfl, iff⟩
        refine ⟨held_nil, ?_⟩
        obtain ⟨il, rfl⟩ := rangeD_get hy
        have il : i < l.length := by omega
        obtain ⟨r, hr⟩ : ∃ r, l[i]? = some r := ⟨_, List.getElem?_eq_getElem il⟩
        have er := (List.getElem?_eq_some_iff.mp hr).2
        have mr : r ∈ l := List.mem_of_getElem? hr
        rw [List.drop_eq_getElem_cons il, er] at iff
        have at1 : atI ((l.map (·.task)).map D.int) (i : Int) = some (.int r.task) := by
          rw [atI_nat', List.getElem?_map, List.getElem?_map, hr]
          rfl
        unfold B_law_order_right_b5
        walk_at "ev"
        rw [at1]
        walk_at "ev"
        rw [lk r mr S1 h1]
        walk_at "ev"
        rw [show ((i : Int) + 1) = ((i + 1 : Nat) : Int) from rfl, cutD_from, ← List.map_drop, ← List.map_drop, List.map_map]
        have c1 : ∀ w, lcD ⟨(l.drop (i + 1)).map (D.int ∘ fun r => r.task), []⟩ B_law_order_right_g2 B_law_order_right_t3 B_law_order_right_e4 [some x, some (.lst ((l.map (·.task)).map D.int)), some (.loc S.length), some r.d, some (.int last), w, none] ((l.drop (i + 1)).map (D.int ∘ fun r => r.task)) [] S1 = .ok (((l.drop (i + 1)).filter fun o => decide (o.fin < r.beg)).map fun o => D.int o.task) S1 := fun w => by
          rw [← fm_if]
          refine lcD_map _ held_nil (l.drop (i + 1)) [] (by rw [List.length_nil, List.length_drop]; omega) fun o ho => ?_
          have mo := List.mem_of_mem_drop ho
          unfold B_law_order_right_g2 B_law_order_right_t3 B_law_order_right_e4
          show lcT _ _ _ _ (.int o.task) S1 = _
          walk_at "ev"
          rw [lk o mo S1 h1]
          unfold HRow.d
          walk_at "ev"
          by_cases c : o.fin < r.beg <;> simp [c]
        rw [c1]
        walk_at "ev"
        have nn : neV (.lst (((l.drop (i + 1)).filter fun o => decide (o.fin < r.beg)).map fun o => D.int o.task)) (.lst []) S1 = .ok (.bl (!decide (((l.drop (i + 1)).filter fun o => decide (o.fin < r.beg)) = []))) S1 := by
          have := neV_ints (a := ((l.drop (i + 1)).filter fun o => decide (o.fin < r.beg)).map (·.task)) (b := []) (S := S1)
          rw [List.map_map] at this
          refine this.trans ?_
          rw [decide_eq_decide.mpr List.map_eq_nil_iff]
        rw [nn]
        walk_at "ev"
        by_cases c2 : ((l.drop (i + 1)).filter fun o => decide (o.fin < r.beg)) = []
        · rw [decide_eq_true c2]
          have fr : ∀ o ∈ l.drop (i + 1), ¬ o.fin < r.beg := fun o ho lt => by
            have := List.filter_eq_nil_iff.mp c2 o ho
            exact this (decide_eq_true lt)
          walk_at "ev"
          unfold HRow.d
          walk_at "ev"
          rw [wS_r]
          by_cases g : r.wr = true ∨ r.val = last
          · have e2 : (if (!r.wr) = true then R.ok (!(r.val == last)) S1 else R.ok false S1) = .ok false S1 := by
              rcases g with g | g <;> simp [g]
            rw [e2]
            walk_at "ev"
            exact ⟨_, _, _, _, rfl, iff.trans ⟨fun y => y.2.2, fun y => ⟨g, fr, y⟩⟩⟩
          · have e2 : (if (!r.wr) = true then R.ok (!(r.val == last)) S1 else R.ok false S1) = .ok true S1 := by
              rw [not_or] at g
              simp [g.1, g.2]
            rw [e2]
            walk_at "ev"
            exact q false S1 k1 ⟨fun y => (by cases y), fun y => absurd (iff.mp (oi.mp y)).1 g⟩
        · rw [decide_eq_false c2]
          walk_at "ev"
          exact q false S1 k1 ⟨fun y => (by cases y), fun y => absurd (List.filter_eq_nil_iff.mpr fun o ho lt => (iff.mp (oi.mp y)).2.1 o ho (of_decide_eq_true lt)) c2⟩
      · rintro st _ ⟨rfl, last, y3, y5, y6, rfl, iff⟩
        refine ⟨held_nil, ?_⟩
        walk_at "ev"
        rw [show (Src.mk (rangeD 0 (l.length : Int).toNat) []).xs.length = l.length from rangeD_len, List.drop_length] at iff
        exact q true S1 k1 ⟨fun _ => oi.mpr (iff.mpr True.intro), fun _ => rfl⟩
    · rw [decide_eq_false e]
      walk_at "ev"
      refine q false S1 k1 ⟨fun y => (by cases y), ?_⟩
      rintro ⟨l, p, rfl, _⟩
      exact absurd (sort_same.mpr (p.map _).symm) e
/-- where there is an order nothing shows that there is none -/
theorem OrdP.none {h : List HRow} {ts : List Int} (ok : HOk h) (o : OrdP h ts) (w : Str) (a b : Int) : ¬ Shows h w a b := by
  obtain ⟨l, p, _, s⟩ := o
  rintro (⟨_, r, hr, o, ho, _, _, e1, e2, e3, e4⟩ | ⟨_, ne, _, _, p', q', za, zb, c, _⟩)
  · exact no_early ok hr ho e1 e2 e3 e4 ⟨l, p, s⟩
  · obtain ⟨g1, g2⟩ := clK_some c
    exact no_both ok ne za zb g1 g2 ⟨l, p, s⟩
/-! ### what shows that there is none -/
theorem IsZone.uniq {h : List HRow} {v : Int} {p q : Zone} (x : IsZone h v p) (y : IsZone h v q) : p = q := by
  have le : ∀ {p q : Zone}, IsZone h v p → IsZone h v q → p.1 ≤ q.1 ∧ q.2 ≤ p.2 := fun {p q} x y => by
    constructor
    · rcases y.at1 with ⟨e, e2⟩ | ⟨r, hr, e, e2⟩
      · have := x.nought e; omega
      · have := x.le r hr e; omega
    · rcases y.at2 with ⟨e, e2⟩ | ⟨r, hr, e, e2⟩
      · have := x.nought e; omega
      · have := x.le r hr e; omega
  have a := le x y
  have b := le y x
  exact Prod.ext (by omega) (by omega)
/-! ### the order told is one -/
theorem srt_le {a b : HRow} (h : PySem.W.dataLe false (Prod.snd : D × PyData → PyData) (srtD a, srtP a) (srtD b, srtP b) = true) : (a.wr = false → b.wr = false) ∧ (a.wr = b.wr → a.beg ≤ b.beg) := by
  obtain ⟨a1, a2, a3, a4, a5⟩ := a
  obtain ⟨b1, b2, b3, b4, b5⟩ := b
  rw [PySem.W.dataLe_eq] at h
  simp only [srtP, PySem.W.dataLt, PySem.W.keyToks, PySem.W.keyToksAll, List.cons_append, List.nil_append, cond_false] at h
  cases a2 <;> cases b2 <;> simp [PyProof.Rows.lexLt, PyProof.Rows.itemLt] at h ⊢ <;> omega
theorem srt_made2 {S : Store} (l : List HRow) : ∃ bl : List HRow, bl.Perm l ∧ sortedW [.lst (l.map srtD)] S = .ok (.lst (bl.map srtD)) S ∧ bl.Pairwise fun a b => (a.wr = false → b.wr = false) ∧ (a.wr = b.wr → a.beg ≤ b.beg) := by
  let le : HRow → HRow → Bool := fun a b => PySem.W.dataLe false (Prod.snd : D × PyData → PyData) (srtD a, srtP a) (srtD b, srtP b)
  have T := PySem.W.sortLe_total (PyProof.Rows.listOrd PyProof.Rows.itemOrd) false fun b : D × PyData => PySem.W.keyToks b.2
  refine ⟨l.mergeSort le, List.mergeSort_perm _ _, ?_, ?_⟩
  · have eo : ordD (l.map srtD) (l.map srtP) = (l.mergeSort le).map srtD := by
      unfold ordD
      rw [show (l.map srtD).zip (l.map srtP) = l.map fun r => (srtD r, srtP r) from by rw [List.zip_map']]
      rw [← List.map_mergeSort (r := le) (s := PySem.W.dataLe false Prod.snd) (f := fun r => (srtD r, srtP r)) (fun a _ b _ => rfl), List.map_map]
      rfl
    rw [← eo]
    show (match sortC2 (.lst (l.map srtD)) S with
      | some ys => R.ok (D.lst ys) S
      | none => R.no) = _
    cases l with
    | nil =>
      have e1 : sortC2 (.lst (([] : List HRow).map srtD)) S = some [] := by
        simp [sortC2, sortC, lsOf, intsOf, sortI]
      have e2 : ordD (([] : List HRow).map srtD) (([] : List HRow).map srtP) = [] := by simp [ordD]
      rw [e1, e2]
    | cons r l =>
      have e : sortC2 (.lst ((r :: l).map srtD)) S = some (ordD ((r :: l).map srtD) ((r :: l).map srtP)) := by
        show (match toPyA ((r :: l).map srtD) with
          | some ds => if srtOk ds = true then some (ordD ((r :: l).map srtD) ds) else none
          | none => none) = _
        rw [srt_py]
        exact if_pos (srt_ok (r :: l))
      rw [e]
  · refine List.Pairwise.imp (fun {a b} h => srt_le h) (List.pairwise_mergeSort (fun a b c h1 h2 => ?_) (fun a b => ?_) l)
    · exact T.trans _ _ _ h1 h2
    · exact Bool.or_eq_true _ _ ▸ T.total (srtD a, srtP a) (srtD b, srtP b)
theorem blk_ok {h : List HRow} (ok : HOk h) (ne : NoEarly h) {v : Int} {bl : List HRow} (pb : bl.Perm (h.filter fun r => r.val == v)) (sb : bl.Pairwise fun a b => (a.wr = false → b.wr = false) ∧ (a.wr = b.wr → a.beg ≤ b.beg)) :
    bl.Pairwise (fun x y => ¬ y.fin < x.beg) ∧ (v = 0 ∨ (h.filter fun r => r.val == v) = [] ∨ ∃ w t, bl = w :: t ∧ w.wr = true) := by
  have hm : ∀ x ∈ bl, x ∈ h ∧ x.val = v := fun x hx => by
    obtain ⟨h1, h2⟩ := List.mem_filter.mp (pb.mem_iff.mp hx)
    exact ⟨h1, by simpa using h2⟩
  have nd : bl.Nodup := pb.nodup_iff.mpr (ok.nodup.filter _)
  constructor
  · refine List.Pairwise.imp_of_mem (fun {x y} mx my z => ?_) (sb.and nd)
    obtain ⟨⟨z1, z2⟩, z3⟩ := z
    obtain ⟨x1, x2⟩ := hm x mx
    obtain ⟨y1, y2⟩ := hm y my
    have tx := ok.times x x1
    have ty := ok.times y y1
    cases ex : x.wr with
    | false =>
      have := z2 (ex.trans (z1 ex).symm)
      omega
    | true =>
      cases ey : y.wr with
      | true => exact absurd (ok.uniq x x1 y y1 ex ey (x2.trans y2.symm)) z3
      | false => exact ne y y1 x x1 ey ex (y2.trans x2.symm)
  · by_cases hv : v = 0
    · exact .inl hv
    · cases bl with
      | nil => exact .inr (.inl (List.nil_perm.mp pb))
      | cons a t =>
        refine .inr (.inr ⟨a, t, rfl, ?_⟩)
        cases ea : a.wr with
        | true => rfl
        | false =>
          obtain ⟨a1, a2⟩ := hm a List.mem_cons_self
          rcases (ok.reads a a1 ea).2 with z | ⟨w, w1, w2, w3⟩
          · exact absurd (a2.symm.trans z) hv
          · have mw : w ∈ a :: t := pb.mem_iff.mpr (List.mem_filter.mpr ⟨w1, by simpa using w3.trans a2⟩)
            rcases List.mem_cons.mp mw with rfl | mw
            · rw [w2] at ea; cases ea
            · have := ((List.pairwise_cons.mp sb).1 w mw).1 ea
              rw [w2] at this
              cases this
/-- done so far: what is left, put in any good order behind it, makes an order -/
structure Done (h : List HRow) (left : List Int) (done : List HRow) (last : Int) : Prop where
  pm : done.Perm (h.filter fun r => !decide (r.val ∈ left))
  nought : 0 ∈ left → last = 0
  go : ∀ p, p.Perm (h.filter fun r => decide (r.val ∈ left)) → HSeq p last → HSeq (done ++ p) 0
theorem Done.step {h : List HRow} {left vs : List Int} {done : List HRow} {last : Int} {z : Int → Zone} (ok : HOk h) (ne : NoEarly h) (hz : ∀ v ∈ vs, IsZone h v (z v)) (d : Done h left done last) (nd : left.Nodup) (sub : ∀ v ∈ left, v ∈ vs) (hb : ∀ v ∈ left, v ≠ 0 → (h.filter fun r => r.val == v) ≠ [])
    {v : Int} (hv : v ∈ left) (fv : ∀ u ∈ left, u ≠ v → ¬ (z u).1 < (z v).2) {bl : List HRow} (pl : bl.Perm (h.filter fun r => r.val == v)) (wl : bl.Pairwise fun x y => ¬ y.fin < x.beg) (sl : v = 0 ∨ (h.filter fun r => r.val == v) = [] ∨ ∃ w t, bl = w :: t ∧ w.wr = true) : Done h (left.erase v) (done ++ bl) v := by
  have v0 : 0 ∈ left → v = 0 := fun m => Decidable.byContradiction fun nv => by
    have z0 := hz 0 (sub 0 m)
    have zv := hz v (sub v hv)
    have lt := fv 0 m (Ne.symm nv)
    have le0 := (z0.nought rfl).1
    rcases zv.at2 with ⟨e, _⟩ | ⟨r, hr, _, e2⟩
    · exact nv e
    · have := ok.times r hr
      omega
  have mem' : ∀ u ∈ left.erase v, u ≠ v ∧ u ∈ left := fun u hu => (nd.mem_erase_iff).mp hu
  have ml : ∀ x ∈ bl, x ∈ h ∧ x.val = v := fun x hx => by
    obtain ⟨h1, h3⟩ := List.mem_filter.mp (pl.mem_iff.mp hx)
    exact ⟨h1, by simpa using h3⟩
  have dec : ∀ r : HRow, decide (r.val ∈ left.erase v) = (decide (r.val ∈ left) && !(r.val == v)) := fun r => by
    rw [show decide (r.val ∈ left.erase v) = decide (r.val ≠ v ∧ r.val ∈ left) from decide_eq_decide.mpr nd.mem_erase_iff]
    by_cases e : r.val = v <;> simp [e]
  refine ⟨?_, fun m => v0 (mem' 0 m).2, fun p pp hp => ?_⟩
  · have e1 : (h.filter fun r => r.val == v) = (h.filter fun r => !decide (r.val ∈ left.erase v)).filter fun r => r.val == v := by
      rw [List.filter_filter]
      refine List.filter_congr fun r _ => ?_
      rw [dec]
      by_cases e : r.val = v <;> simp [e]
    have e2 : (h.filter fun r => !decide (r.val ∈ left)) = (h.filter fun r => !decide (r.val ∈ left.erase v)).filter fun r => !(r.val == v) := by
      rw [List.filter_filter]
      refine List.filter_congr fun r _ => ?_
      rw [dec]
      by_cases e : r.val = v
      · simp [e, hv]
      · rw [beq_eq_false_iff_ne.mpr e]
        simp
    have := d.pm
    rw [e1] at pl
    rw [e2] at this
    exact (List.Perm.append this pl).trans (List.perm_append_comm.trans (filter_split _ _))
  · rw [List.append_assoc]
    refine d.go _ ?_ ?_
    · have e1 : (h.filter fun r => r.val == v) = (h.filter fun r => decide (r.val ∈ left)).filter fun r => r.val == v := by
        rw [List.filter_filter]
        refine List.filter_congr fun r _ => ?_
        by_cases e : r.val = v
        · simp [e, hv]
        · simp [e]
      have e2 : (h.filter fun r => decide (r.val ∈ left.erase v)) = (h.filter fun r => decide (r.val ∈ left)).filter fun r => !(r.val == v) := by
        rw [List.filter_filter]
        refine List.filter_congr fun r _ => ?_
        rw [dec, Bool.and_comm]
      rw [e1] at pl
      rw [e2] at pp
      exact (List.Perm.append pl pp).trans (filter_split _ _)
    · refine seq_block (fun r hr => (ml r hr).2) ?_ wl (fun x hx y hy => ?_) (fun e => ?_) hp
      · rcases sl with sl | sl | sl
        · by_cases e : 0 ∈ left
          · exact .inl ((d.nought e).trans sl.symm)
          · exact absurd (sl ▸ hv) e
        · by_cases nv : v = 0
          · exact .inl ((d.nought (nv ▸ hv)).trans nv.symm)
          · exact absurd sl (hb v hv nv)
        · exact .inr sl
      · obtain ⟨x1, x2⟩ := ml x hx
        obtain ⟨y1, y2⟩ := List.mem_filter.mp (pp.mem_iff.mp hy)
        obtain ⟨y3, y4⟩ := mem' _ (of_decide_eq_true y2)
        have a1 := (hz v (sub v hv)).le x x1 x2
        have a2 := (hz _ (sub _ y4)).le y y1 rfl
        have a3 := fv _ y4 y3
        omega
      · by_cases nv : v = 0
        · exact (d.nought (nv ▸ hv)).trans nv.symm
        · rw [e] at pl
          exact absurd (List.nil_perm.mp pl) (hb v hv nv)
theorem wp_next2 {S : Store} {y : D} {h : List HRow} {vs left : List Int} {z : Int → Zone} {n : Nat} {α : Type} {k : D → Store → R α} {P : α → Store → Prop} (zx : ZX h y vs z) (hS : S[n]? = some (.lst (left.map D.int))) (sub : ∀ v ∈ left, v ∈ vs) (few : left.length ≤ 61) (ne : left ≠ []) (free : NoMutual vs z) (q : ∀ v ∈ left, (∀ u ∈ left, u ≠ v → ¬ (z u).1 < (z v).2) → wpE (k (.int v) S) P) : wpE ((F_next_value [y, .loc n] S).bind k) P := by
  unfold F_next_value B_next_value
  walk_at "ev"
  refine wp_for (s := ⟨left.map D.int, [(n, left.map D.int)]⟩) (fun i st S' => S' = S ∧ (∃ y2 y3, st = [some y, some (.loc n), y2, y3]) ∧ ∀ v ∈ left.take i, ∃ u ∈ left, u ≠ v ∧ (z u).1 < (z v).2) ⟨rfl, ⟨_, _, rfl⟩, by simp⟩ ?_ ?_
  · rintro i x st _ hx ⟨rfl, ⟨y2, y3, rfl⟩, no⟩
    rw [List.getElem?_map] at hx
    obtain ⟨v, gv, ex⟩ := Option.map_eq_some_iff.mp hx
    subst ex
    have hv : v ∈ left := List.mem_of_getElem? gv
    refine ⟨held_one.mpr (.inl hS), ?_⟩
    unfold B_next_value_b4
    walk_at "ev"
    refine wp_eq (lcD_map (fun u => if (!(u == v)) = true then some (D.bl (goesB (z u) (z v))) else none) (held_one.mpr (.inl hS)) left [] (by rw [List.length_nil]; omega) (fun u hu => by
      unfold B_next_value_g1 B_next_value_t2 B_next_value_e3
      walk_at "ev"
      cases u == v with
      | true => walk_at "ev"
      | false =>
        walk_at "ev"
        rw [zx.ix u (sub u hu)]
        walk_at "ev"
        rw [zx.ix v (sub v hv)]
        walk_at "ev"
        rw [goes_eq]
        walk_at "ev")) ?_
    rw [List.nil_append, fm_if]
    walk_at "ev"
    rw [anyV_all]
    walk_at "ev"
    cases c : (left.filter fun u => !(u == v)).any fun u => goesB (z u) (z v) with
    | false =>
      walk_at "ev"
      refine q v hv fun u hu ne lt => ?_
      have := List.any_eq_false.mp c u (List.mem_filter.mpr ⟨hu, by simpa using ne⟩)
      exact this (decide_eq_true lt)
    | true =>
      walk_at "ev"
      refine ⟨⟨_, _, rfl⟩, fun w hw => ?_⟩
      rw [take_more gv] at hw
      rcases List.mem_append.mp hw with hw | hw
      · exact no w hw
      · rw [List.mem_singleton.mp hw]
        obtain ⟨u, hu, g⟩ := List.any_eq_true.mp c
        obtain ⟨h1, h2⟩ := List.mem_filter.mp hu
        exact ⟨u, h1, by simpa using h2, of_decide_eq_true g⟩
  · rintro st _ ⟨rfl, ⟨y2, y3, rfl⟩, no⟩
    refine absurd ?_ (show ¬ False from id)
    rw [show (Src.mk (left.map D.int) [(n, left.map D.int)]).xs.length = left.length from List.length_map _, List.take_length] at no
    obtain ⟨v, hv, fv⟩ := first_value (z := z) ne fun a ha b hb => free a (sub a ha) b (sub b hb)
    obtain ⟨u, hu, n1, lt⟩ := no v hv
    exact fv u hu n1 lt
theorem wp_ordered2 {S : Store} {x : D} {h : List HRow} {α : Type} {k : D → Store → R α} {P : α → Store → Prop} (hx : IsH S x h) (ok : HOk h) (q1 : ∀ (w : Str) (a b : Int) S', Keep S S' → Shows h w a b → (w ≠ "early" → NoEarly h) → (w = "within" → ∀ a b, ¬ Shows h "both" a b) → (w = "early" ∨ w = "both" ∨ w = "within") → wpE (k (.tup [.str w, .int a, .int b]) S') P) (q2 : ∀ ts S', Keep S S' → ts.length ≤ 60 → OrdP h ts → wpE (k (.tup [.str "order", .lst (ts.map D.int)]) S') P) : wpE ((F_ordered [x] S).bind k) P := by
  unfold F_ordered B_ordered
  walk_at "ev"
  refine wp_earlies hx ok fun es S1 k1 le he te => ?_
  walk_at "ev"
  refine wp_clashes (hx.keep k1) ok fun cs vs z S2 k2 lc nd mv hz hc tc => ?_
  have iff := order_iff ok nd mv hz
  have k2 := k1.trans k2
  walk_at "ev"
  rw [neL_l0]
  have head : ∀ d rs, es ++ cs = d :: rs → ∃ (w : Str) (a b : Int), d = .tup [.str w, .int a, .int b] ∧ Shows h w a b ∧ (w ≠ "early" → NoEarly h) ∧ (w = "within" → ∀ a b, ¬ Shows h "both" a b) ∧ (w = "early" ∨ w = "both" ∨ w = "within") := fun d rs e => by
    cases es with
    | cons d' es =>
      cases e
      obtain ⟨a, b, rfl, ep⟩ := te d List.mem_cons_self
      exact ⟨_, a, b, rfl, .inl ⟨rfl, ep⟩, fun n => absurd rfl n, fun n => absurd n (by decide +kernel), .inl rfl⟩
    | nil =>
      have ne := he.mp rfl
      obtain ⟨bs, ws, ecs, tb, tw, nb⟩ := tc
      rw [List.nil_append, ecs] at e
      cases bs with
      | cons d' bs =>
        cases e
        obtain ⟨a, b, rfl, ma, mb, n, c, lt⟩ := tb d List.mem_cons_self
        exact ⟨_, a, b, rfl, .inr ⟨.inl rfl, n, (mv a).mp ma, (mv b).mp mb, _, _, hz a ma, hz b mb, c, .inr lt⟩, fun _ => ne, fun n => absurd n (by decide +kernel), .inr (.inl rfl)⟩
      | nil =>
        rw [List.nil_append] at e
        obtain ⟨a, b, rfl, ma, mb, n, c⟩ := tw d (by rw [e]; exact List.mem_cons_self)
        refine ⟨_, a, b, rfl, .inr ⟨.inr rfl, n, (mv a).mp ma, (mv b).mp mb, _, _, hz a ma, hz b mb, c, .inl rfl⟩, fun _ => ne, fun _ a b sh => ?_, .inr (.inr rfl)⟩
        rcases sh with ⟨w, _⟩ | ⟨_, _, ia, ib, p, q, za, zb, c, lt⟩
        · exact absurd w (by decide +kernel)
        · have lt := lt.resolve_left (by decide +kernel)
          have ma := (mv a).mpr ia
          have mb := (mv b).mpr ib
          refine nb rfl a ma b mb lt ?_
          rw [(hz a ma).uniq za, (hz b mb).uniq zb]
          exact c
  have none_ : es ++ cs = [] ↔ ∃ p, p.Perm h ∧ HSeq p 0 := by
    rw [iff, List.append_eq_nil_iff, he, hc]
  generalize es ++ cs = rs at head none_ ⊢
  cases rs with
  | cons d rs =>
    obtain ⟨w, a, b, rfl, t1, t2, t3, t4⟩ := head d rs rfl
    walk_at "ev"
    exact q1 w a b S2 k2 t1 t2 t3 t4
  | nil =>
    have so := none_.mp rfl
    have nos := iff.mp so
    walk_at "ev"
    refine wp_zones (hx.keep k2) ok fun y us w S3 k3 zx => ?_
    have k3 := k2.trans k3
    have few := ok.few
    have uf := zx.few
    have free : NoMutual us w := fun a ha b hb => by
      have ma := (mv a).mpr ((zx.mv a).mp ha)
      have mb := (mv b).mpr ((zx.mv b).mp hb)
      rw [(zx.hz a ha).uniq (hz a ma), (zx.hz b hb).uniq (hz b mb)]
      exact nos.2 a ma b mb
    have hbl : ∀ v ∈ us, v ≠ 0 → (h.filter fun r => r.val == v) ≠ [] := fun v hv nv => by
      rcases (zx.mv v).mp hv with e | ⟨r, hr, e⟩
      · exact absurd e nv
      · exact List.ne_nil_of_mem (List.mem_filter.mpr ⟨hr, by simpa using e⟩)
    have d0 : Done h us [] 0 := ⟨by rw [List.filter_eq_nil_iff.mpr fun r hr => by simp [(zx.mv r.val).mpr (.inr ⟨r, hr, rfl⟩)]], fun _ => rfl, fun p _ hp => hp⟩
    walk_at "ev"
    rw [zx.lst]
    have h4 : (S3 ++ [O.lst (us.map D.int)])[S3.length]? = some (.lst (us.map D.int)) := app_at
    have k4 : Keep S (S3 ++ [O.lst (us.map D.int)]) := k3.trans Keep.app
    have ln : S.length ≤ S3.length := k3.len
    generalize S3 ++ [O.lst (us.map D.int)] = S4 at h4 k4 ⊢
    generalize S3.length = n at h4 ln ⊢
    walk_at "ev"
    refine wp_while (fun m st S' => ∃ left done last y5 y6, st = [some x, some (.lst []), some y, some (.loc n), some (.lst ((done.map (·.task)).map D.int)), y5, y6, none] ∧ S'[n]? = some (.lst (left.map D.int)) ∧ left.length = m ∧ m ≤ 61 ∧ (∀ v ∈ left, v ∈ us) ∧ left.Nodup ∧ Done h left done last ∧ Keep S S') ?_ 100000 us.length _ _ (by omega) ⟨us, [], 0, _, _, rfl, h4, rfl, uf, fun _ h => h, zx.nd, d0, k4⟩
    rintro m st S5 ⟨left, done, last, y5, y6, rfl, h5, lm, m61, sub, ln2, dn, k5⟩
    have ld : done.length ≤ 60 := by
      have := List.length_filter_le (fun r : HRow => !decide (r.val ∈ left)) h
      have := dn.pm.length_eq
      omega
    refine ⟨!(left.map D.int).isEmpty, ?_, fun c => ?_, fun c => ?_⟩
    · unfold B_ordered_t8
      walk_at "ev"
      rw [neL_m0 h5]
      walk_at "ev"
    · have ne : left ≠ [] := by
        rintro rfl
        cases c
      have mp : 1 ≤ m := by
        cases left with
        | nil => exact absurd rfl ne
        | cons a l => rw [List.length_cons] at lm; omega
      unfold B_ordered_b7
      walk_at "ev"
      refine wp_next2 zx h5 sub (by omega) ne free fun v hv fv => ?_
      walk_at "ev"
      refine wp_eq (rem_ok h5 hv) ?_
      have h6 : (S5.set n (.lst ((left.erase v).map D.int)))[n]? = some (.lst ((left.erase v).map D.int)) := List.getElem?_set_self (List.getElem?_eq_some_iff.mp h5).1
      have k6 : Keep S (S5.set n (.lst ((left.erase v).map D.int))) := k5.put ln
      generalize S5.set n (.lst ((left.erase v).map D.int)) = S6 at h6 k6 ⊢
      walk_at "ev"
      obtain ⟨at_, ha, hh⟩ := (hx.keep k6).any
      rw [ha]
      walk_at "ev"
      refine wp_eq (lcD_map (fun r : HRow => if (r.val == v) = true then some (srtD r) else none) (hh _ .refl) h [] (by rw [List.length_nil]; omega) (fun r hr => by
        unfold HRow.d B_ordered_g1 B_ordered_t2 B_ordered_e3
        walk_at "ev"
        cases r.val == v with
        | false => rfl
        | true =>
          walk_at "ev"
          rw [wS_r]
          rfl)) ?_
      rw [List.nil_append, fm_if]
      walk_at "ev"
      have lf := List.length_filter_le (fun r : HRow => r.val == v) h
      obtain ⟨bl, pb, ey, sb⟩ := srt_made2 (S := S6) (h.filter fun r => r.val == v)
      have lb := pb.length_eq
      obtain ⟨wl, sl⟩ := blk_ok ok nos.1 pb sb
      refine wp_eq ey ?_
      walk_at "ev"
      refine wp_eq (lcD_map (fun r : HRow => some (D.int r.task)) held_nil bl [] (by rw [List.length_nil]; omega) (fun r hr => by
        unfold srtD B_ordered_g4 B_ordered_t5 B_ordered_e6
        walk_at "ev")) ?_
      rw [List.nil_append, fm_all]
      walk_at "ev"
      rw [addV_ll (by rw [List.length_map, List.length_map, List.length_map]; omega)]
      walk_at "ev"
      have st := Done.step ok nos.1 zx.hz dn ln2 sub (fun v hv => hbl v (sub v hv)) hv fv pb wl sl
      exact ⟨m - 1, by omega, left.erase v, done ++ bl, v, _, _, by rw [List.map_append, List.map_append, List.map_map (l := bl)]; rfl, h6, by rw [List.length_erase_of_mem hv]; omega, by omega, fun u hu => sub u (List.mem_of_mem_erase hu), ln2.erase v, st, k6⟩
    · walk_at "ev"
      have le : left = [] := by
        cases left with
        | nil => rfl
        | cons a l => cases c
      subst le
      refine q2 (done.map (·.task)) S5 k5 (by rw [List.length_map]; exact ld) ⟨done, ?_, rfl, ?_⟩
      · have := dn.pm
        rwa [List.filter_eq_self.mpr fun r hr => by simp] at this
      · have := dn.go [] (by rw [List.filter_eq_nil_iff.mpr fun r hr => by simp]) True.intro
        rwa [List.append_nil] at this
/-! ### histories: how they are made -/
theorem Fr.late {S S' : Store} {b n : Nat} {o : O} (f : Fr b S S') (h : BagAt S b) (hn : S.length ≤ n) : Fr b S (S'.set n o) := by
  have ne : n ≠ b := by have := h.lt; omega
  exact ⟨f.bag.put ne, by rw [List.length_set]; exact f.len, fun m o' hm e => by
    have : m < S.length := (List.getElem?_eq_some_iff.mp e).1
    rw [List.getElem?_set_ne (by omega)]
    exact f.keep m o' hm e⟩
theorem popAt_ok {S : Store} {n : Nat} {xs : List D} {i : Int} {y : D} (h : S[n]? = some (.lst xs)) (h0 : 0 ≤ i ∧ i < 2 ^ 60) (hy : xs[i.toNat]? = some y) : popAtV (.loc n) [.int i] S = .ok y (S.set n (.lst (xs.eraseIdx i.toNat))) := by
  unfold popAtV
  simp only [h, h0, and_self, if_true, hy]
theorem eraseIdx_map' {α β : Type} {f : α → β} : ∀ {xs : List α} {n : Nat}, (xs.map f).eraseIdx n = (xs.eraseIdx n).map f
  | [], _ => rfl
  | _ :: _, 0 => rfl
  | x :: xs, n + 1 => by
    rw [List.map_cons, List.eraseIdx_cons_succ, List.eraseIdx_cons_succ, List.map_cons, eraseIdx_map']
theorem atI_last {α : Type} {xs : List α} {x : α} : atI (xs ++ [x]) (-1) = some x := by
  unfold atI ixN
  simp
  rw [if_pos (by omega), Option.bind_some, show (-1 + ((xs.length : Int) + 1)).toNat = xs.length by omega]
  simp
theorem atI_map {α : Type} {xs : List α} {f : α → D} {r : Int} (h0 : 0 ≤ r) (h1 : r < xs.length) : ∃ x ∈ xs, atI (xs.map f) r = some (f x) := by
  refine ⟨xs[r.toNat]'(by omega), List.getElem_mem _, ?_⟩
  rw [atI_ok h0 (by rw [List.length_map]; exact h1), List.getElem?_map, List.getElem?_eq_getElem (by omega)]
  rfl
structure Gen (i : Nat) (hs : List HRow) (vl ts : List Int) : Prop where
  hl : hs.length = i
  tl : ts.length + i = 70
  tn : ts.Nodup
  hn : (hs.map (·.task)).Nodup
  dis : ∀ r ∈ hs, r.task ∉ ts
  times : ∀ r ∈ hs, 0 ≤ r.beg ∧ r.beg < r.fin
  writes : ∀ r ∈ hs, r.wr = true → ∃ j : Nat, j < i ∧ r.val = 1 + ((j : Int) * 100 + 11) % 999
  uniq : ∀ r ∈ hs, ∀ o ∈ hs, r.wr = true → o.wr = true → r.val = o.val → r = o
  reads : ∀ r ∈ hs, r.wr = false → r.val ∈ vl
  vals : ∀ v ∈ vl, v = 0 ∨ ∃ w ∈ hs, w.wr = true ∧ w.val = v
  vn : vl ≠ []
  vfew : vl.length ≤ i + 1
  ts1 : ∀ u ∈ ts, 0 ≤ u ∧ u < 1000
  sm : ∀ r ∈ hs, 0 ≤ r.task ∧ r.task < 1000 ∧ r.fin ≤ 10000
theorem Gen.ok {i : Nat} {hs : List HRow} {vl ts : List Int} (g : Gen i hs vl ts) (hi : i ≤ 60) : HOk hs := by
  have w1 : ∀ r ∈ hs, r.wr = true → 1 ≤ r.val := fun r hr w => by
    obtain ⟨j, _, e⟩ := g.writes r hr w
    rw [e]
    omega
  refine ⟨by rw [g.hl]; exact hi, g.hn, g.times, w1, g.uniq, fun r hr w => ?_⟩
  rcases g.vals _ (g.reads r hr w) with e | ⟨o, ho, e1, e2⟩
  · exact ⟨by omega, .inl e⟩
  · exact ⟨by have := w1 o ho e1; omega, .inr ⟨o, ho, e1, e2⟩⟩
theorem Gen.step {i : Nat} {hs : List HRow} {vl ts : List Int} (g : Gen i hs vl ts) (hi : i < 60) {m : Nat} (hm : m < ts.length) {wr : Bool} {v b f : Int} (hb : 0 ≤ b) (hf : b < f) (hf2 : f ≤ 10000) {vl' : List Int} (hv : (wr = true ∧ v = 1 + ((i : Int) * 100 + 11) % 999 ∧ vl' = vl ++ [v]) ∨ (wr = false ∧ v ∈ vl ∧ vl' = vl)) : Gen (i + 1) (hs ++ [⟨ts[m], wr, v, b, f⟩]) vl' (ts.eraseIdx m) := by
  have em : ∀ u, u ∈ ts.eraseIdx m ↔ u ≠ ts[m] ∧ u ∈ ts := fun u => by
    have pm : (ts[m] :: ts.eraseIdx m).Perm ts := by
      have e : ts.take m ++ ts[m] :: ts.drop (m + 1) = ts := by rw [← List.drop_eq_getElem_cons hm, List.take_append_drop]
      rw [List.eraseIdx_eq_take_drop_succ]
      exact List.perm_middle.symm.trans (by rw [e])
    have nd : (ts[m] :: ts.eraseIdx m).Nodup := pm.nodup_iff.mpr g.tn
    rw [List.nodup_cons] at nd
    exact ⟨fun h => ⟨fun z => nd.1 (z ▸ h), pm.mem_iff.mp (List.mem_cons_of_mem _ h)⟩, fun ⟨ne, h⟩ => (List.mem_cons.mp (pm.mem_iff.mpr h)).resolve_left ne⟩
  have neq : ∀ j : Nat, j < i → ((j : Int) * 100 + 11) % 999 ≠ ((i : Int) * 100 + 11) % 999 := fun j hj => by omega
  have sub : ∀ u ∈ vl, u ∈ vl' := fun u hu => by
    rcases hv with ⟨_, _, e⟩ | ⟨_, _, e⟩
    · rw [e]; exact List.mem_append_left _ hu
    · rw [e]; exact hu
  refine ⟨by rw [List.length_append, g.hl]; rfl, by rw [List.length_eraseIdx, if_pos hm]; have := g.tl; omega, g.tn.sublist (List.eraseIdx_sublist _ _), ?_, fun r hr => ?_, fun r hr => ?_, fun r hr w => ?_, fun r hr o ho w1 w2 e => ?_, fun r hr w => ?_, fun u hu => ?_, ?_, ?_, fun u hu => g.ts1 u ((em u).mp hu).2, fun r hr => ?_⟩
  · rw [List.map_append, List.nodup_append]
    refine ⟨g.hn, by simp, fun a ha c hc e => ?_⟩
    rw [List.map_singleton, List.mem_singleton] at hc
    obtain ⟨r, hr, z⟩ := List.mem_map.mp ha
    refine g.dis r hr ?_
    have : r.task = ts[m] := z.trans (e.trans hc)
    rw [this]
    exact List.getElem_mem hm
  · rcases List.mem_append.mp hr with hr | hr
    · exact fun z => g.dis r hr ((em _).mp z).2
    · rw [List.mem_singleton.mp hr]
      exact fun z => ((em _).mp z).1 rfl
  · rcases List.mem_append.mp hr with hr | hr
    · exact g.times r hr
    · rw [List.mem_singleton.mp hr]
      exact ⟨hb, hf⟩
  · rcases List.mem_append.mp hr with hr | hr
    · obtain ⟨j, h1, h2⟩ := g.writes r hr w
      exact ⟨j, by omega, h2⟩
    · rw [List.mem_singleton.mp hr] at w ⊢
      rcases hv with ⟨_, e, _⟩ | ⟨e, _⟩
      · exact ⟨i, by omega, e⟩
      · exact absurd (w.symm.trans e) (by decide)
  · have other : ∀ r ∈ hs, r.wr = true → wr = true → r.val ≠ v := fun r hr w1 w2 e => by
      obtain ⟨j, h1, h2⟩ := g.writes r hr w1
      rcases hv with ⟨_, e2, _⟩ | ⟨e2, _⟩
      · have := neq j h1
        omega
      · exact absurd (w2.symm.trans e2) (by decide)
    rcases List.mem_append.mp hr with hr | hr <;> rcases List.mem_append.mp ho with ho | ho
    · exact g.uniq r hr o ho w1 w2 e
    · rw [List.mem_singleton.mp ho] at w2 e
      exact absurd e (other r hr w1 w2)
    · rw [List.mem_singleton.mp hr] at w1 e
      exact absurd e.symm (other o ho w2 w1)
    · rw [List.mem_singleton.mp hr, List.mem_singleton.mp ho]
  · rcases List.mem_append.mp hr with hr | hr
    · exact sub _ (g.reads r hr w)
    · rw [List.mem_singleton.mp hr] at w ⊢
      rcases hv with ⟨e, _⟩ | ⟨_, e, e2⟩
      · exact absurd (e.symm.trans w) (by decide)
      · rw [e2]; exact e
  · have old : u ∈ vl → u = 0 ∨ ∃ w ∈ hs ++ [(⟨ts[m], wr, v, b, f⟩ : HRow)], w.wr = true ∧ w.val = u := fun hu => by
      rcases g.vals u hu with e | ⟨w, hw, z⟩
      · exact .inl e
      · exact .inr ⟨w, List.mem_append_left _ hw, z⟩
    rcases hv with ⟨e1, e2, e3⟩ | ⟨_, _, e3⟩
    · rw [e3] at hu
      rcases List.mem_append.mp hu with hu | hu
      · exact old hu
      · rw [List.mem_singleton.mp hu]
        exact .inr ⟨_, List.mem_append_right _ (List.mem_singleton.mpr rfl), e1, rfl⟩
    · rw [e3] at hu
      exact old hu
  · rcases hv with ⟨_, _, e3⟩ | ⟨_, _, e3⟩
    · rw [e3]; simp
    · rw [e3]; exact g.vn
  · have := g.vfew
    rcases hv with ⟨_, _, e3⟩ | ⟨_, _, e3⟩
    · rw [e3, List.length_append, List.length_singleton]; omega
    · rw [e3]; omega
  · rcases List.mem_append.mp hr with hr | hr
    · exact g.sm r hr
    · rw [List.mem_singleton.mp hr]
      have := g.ts1 ts[m] (List.getElem_mem hm)
      exact ⟨this.1, this.2, hf2⟩
def HSmall (h : List HRow) : Prop := ∀ r ∈ h, 0 ≤ r.task ∧ r.task < 1000 ∧ 0 ≤ r.val ∧ r.val ≤ 1000 ∧ r.fin ≤ 10000
theorem Gen.small {i : Nat} {hs : List HRow} {vl ts : List Int} (g : Gen i hs vl ts) : HSmall hs := fun r hr => by
  have w1 : ∀ r ∈ hs, r.wr = true → 1 ≤ r.val ∧ r.val ≤ 1000 := fun r hr w => by
    obtain ⟨j, _, e⟩ := g.writes r hr w
    rw [e]
    omega
  have sm := g.sm r hr
  have v : 0 ≤ r.val ∧ r.val ≤ 1000 := by
    cases ew : r.wr with
    | true => have := w1 r hr ew; omega
    | false =>
      rcases g.vals _ (g.reads r hr ew) with e | ⟨o, ho, e1, e2⟩
      · omega
      · have := w1 o ho e1; omega
  exact ⟨sm.1, sm.2.1, v.1, v.2, sm.2.2⟩
def r70 : List Int := (List.range 70).map fun k : Nat => 0 + (k : Int)
theorem r70_D : rangeD 0 70 = r70.map D.int := by
  unfold rangeD r70
  rw [List.map_map]
  rfl
theorem gen_0 : Gen 0 [] [0] r70 := by
  refine ⟨rfl, by simp [r70], ?_, .nil, by simp, by simp, by simp, by simp, by simp, by simp, by simp, by simp, fun u hu => ?_, by simp⟩
  rotate_left
  · unfold r70 at hu
    obtain ⟨k, hk, rfl⟩ := List.mem_map.mp hu
    have := List.mem_range.mp hk
    omega
  unfold r70
  rw [List.Nodup, List.pairwise_map]
  exact List.nodup_range.imp fun {a b} h e => h (by omega)
theorem listRg_ok {S : Store} : listRg (.int 70) S = .ok (.loc S.length) (S ++ [.lst (r70.map D.int)]) := by
  rw [← r70_D]
  unfold listRg
  exact if_pos (by decide)
theorem wp_historyS {S : Store} {b : Nat} {N : Int} {α : Type} {k : D → Store → R α} {P : α → Store → Prop} (h : BagAt S b) (hN : 0 ≤ N) (hN2 : N ≤ 60) (q : ∀ n hs S', Fr b S S' → S.length ≤ n → S'[n]? = some (.lst (hs.map HRow.d)) → HOk hs → hs.length ≤ N.toNat → HSmall hs → wpE (k (.loc n) S') P) : wpE ((F_law_history [.loc b, .int N] S).bind k) P := by
  unfold F_law_history B_law_history
  walk_at "ev"
  refine wp_take h (by omega) (by omega) fun m S1 m0 m1 f1 => ?_
  walk_at "ev"
  refine wp_take f1.bag (by omega) (by omega) fun c S2 c0 c1 f2 => ?_
  have f2 := f1.trans f2
  walk_at "ev"
  obtain ⟨sp, s0, s1, es⟩ : ∃ sp : Int, 1 ≤ sp ∧ sp ≤ 40 ∧ atI [D.int 1, .int 3, .int 8, .int 40] c = some (.int sp) := by
    obtain ⟨x, hx, e⟩ := atI_map (xs := [(1 : Int), 3, 8, 40]) (f := D.int) c0 c1
    simp only [List.mem_cons, List.not_mem_nil, or_false] at hx
    exact ⟨x, by omega, by omega, e⟩
  rw [es]
  walk_at "ev"
  refine wp_take f2.bag (by omega) (by omega) fun od S3 o0 o1 f3 => ?_
  have f3 := f2.trans f3
  walk_at "ev"
  rw [listRg_ok]
  walk_at "ev"
  have bl := f3.bag.lt
  have sl := f3.len
  have f4 : Fr b S (S3 ++ [O.lst [D.int 0]] ++ [O.lst []] ++ [O.lst (r70.map D.int)]) := f3.trans (((Fr.app f3.bag).trans (Fr.app (Fr.app f3.bag).bag)).trans (Fr.app (Fr.app (Fr.app f3.bag).bag).bag))
  have v4 : (S3 ++ [O.lst [D.int 0]] ++ [O.lst []] ++ [O.lst (r70.map D.int)])[S3.length]? = some (.lst (([0] : List Int).map D.int)) := by
    rw [List.append_assoc, List.append_assoc, List.getElem?_append_right (Nat.le_refl _), Nat.sub_self]
    rfl
  have r4 : (S3 ++ [O.lst [D.int 0]] ++ [O.lst []] ++ [O.lst (r70.map D.int)])[(S3 ++ [O.lst [D.int 0]]).length]? = some (.lst (([] : List HRow).map HRow.d)) := by
    rw [List.append_assoc, List.getElem?_append_right (Nat.le_refl _), Nat.sub_self]
    rfl
  have t4 : (S3 ++ [O.lst [D.int 0]] ++ [O.lst []] ++ [O.lst (r70.map D.int)])[(S3 ++ [O.lst [D.int 0]] ++ [O.lst []]).length]? = some (.lst (r70.map D.int)) := app_at
  have e1 : (S3 ++ [O.lst [D.int 0]]).length = S3.length + 1 := by simp
  have e2 : (S3 ++ [O.lst [D.int 0]] ++ [O.lst []]).length = S3.length + 2 := by simp
  generalize S3 ++ [O.lst [D.int 0]] ++ [O.lst []] ++ [O.lst (r70.map D.int)] = S4 at f4 v4 r4 t4 ⊢
  generalize (S3 ++ [O.lst [D.int 0]] ++ [O.lst []]).length = tn at t4 e2 ⊢
  generalize (S3 ++ [O.lst [D.int 0]]).length = rn at r4 e1 ⊢
  generalize S3.length = vn at v4 e1 e2 bl sl ⊢
  have vb : vn ≠ b := by omega
  have rb : rn ≠ b := by omega
  have tb : tn ≠ b := by omega
  refine wp_for (s := ⟨rangeD 0 m.toNat, []⟩) (fun i st S' => (∃ y8 y9 y10 y11 y12 y13 y14, st = [some (.loc b), some (.int N), some (.int m), some (.int sp), some (.int od), some (.loc vn), some (.loc rn), some (.loc tn), y8, y9, y10, y11, y12, y13, y14]) ∧ Fr b S S' ∧ ∃ hs vl ts, S'[vn]? = some (.lst (vl.map D.int)) ∧ S'[rn]? = some (.lst (hs.map HRow.d)) ∧ S'[tn]? = some (.lst (ts.map D.int)) ∧ Gen i hs vl ts) ⟨⟨_, _, _, _, _, _, _, rfl⟩, f4, [], [0], r70, v4, r4, t4, gen_0⟩ ?_ ?_
  · rintro i x st S5 hx ⟨⟨y8, y9, y10, y11, y12, y13, y14, rfl⟩, f5, hs, vl, ts, v5, r5, t5, g⟩
    obtain ⟨hi, rfl⟩ := rangeD_get hx
    have i60 : i < 60 := by omega
    have gl := g.hl
    have gt := g.tl
    have gf := g.vfew
    refine ⟨held_nil, ?_⟩
    unfold B_law_history_b1
    walk_at "ev"
    refine wp_take f5.bag (by omega) (by omega) fun u S6 u0 u1 f6 => ?_
    have v6 := f6.keep _ _ vb v5
    have r6 := f6.keep _ _ rb r5
    have t6 := f6.keep _ _ tb t5
    have f6 := f5.trans f6
    walk_at "ev"
    have bg0 : 0 ≤ (if 10 * (i : Int) + 1 - u > 0 then 10 * (i : Int) + 1 - u else 0) := by split <;> omega
    have bg1 : (if 10 * (i : Int) + 1 - u > 0 then 10 * (i : Int) + 1 - u else 0) ≤ 10 * (i : Int) + 1 := by split <;> omega
    generalize (if 10 * (i : Int) + 1 - u > 0 then 10 * (i : Int) + 1 - u else 0) = bg at bg0 bg1 ⊢
    refine wp_take f6.bag (by omega) (by omega) fun w S7 w0 w1 f7 => ?_
    have v7 := f7.keep _ _ vb v6
    have r7 := f7.keep _ _ rb r6
    have t7 := f7.keep _ _ tb t6
    have f7 := f6.trans f7
    walk_at "ev"
    rw [List.length_map]
    refine wp_take f7.bag (by omega) (by omega) fun j S8 j0 j1 f8 => ?_
    have v8 := f8.keep _ _ vb v7
    have r8 := f8.keep _ _ rb r7
    have t8 := f8.keep _ _ tb t7
    have f8 := f7.trans f8
    have jm : j.toNat < ts.length := by omega
    walk_at "ev"
    refine wp_eq (popAt_ok (y := .int ts[j.toNat]) t8 (by omega) (by rw [List.getElem?_map, List.getElem?_eq_getElem jm]; rfl)) ?_
    rw [eraseIdx_map']
    have v9 : (S8.set tn (.lst ((ts.eraseIdx j.toNat).map D.int)))[vn]? = some (.lst (vl.map D.int)) := by rw [List.getElem?_set_ne (by omega)]; exact v8
    have r9 : (S8.set tn (.lst ((ts.eraseIdx j.toNat).map D.int)))[rn]? = some (.lst (hs.map HRow.d)) := by rw [List.getElem?_set_ne (by omega)]; exact r8
    have t9 : (S8.set tn (.lst ((ts.eraseIdx j.toNat).map D.int)))[tn]? = some (.lst ((ts.eraseIdx j.toNat).map D.int)) := set_at t8
    have f9 : Fr b S (S8.set tn (.lst ((ts.eraseIdx j.toNat).map D.int))) := f8.late h (by omega)
    generalize S8.set tn (.lst ((ts.eraseIdx j.toNat).map D.int)) = S9 at v9 r9 t9 f9 ⊢
    walk_at "ev"
    refine wp_take f9.bag (by omega) (by omega) fun kd S10 _ _ f10 => ?_
    have v10 := f10.keep _ _ vb v9
    have r10 := f10.keep _ _ rb r9
    have t10 := f10.keep _ _ tb t9
    have f10 := f9.trans f10
    walk_at "ev"
    refine wp_ite (fun c => ?_) fun c => ?_
    · walk_at "ev"
      refine wp_eq (appV_m v10 (by rw [List.length_map]; omega)) ?_
      have v11 : (S10.set vn (.lst (vl.map D.int ++ [.int (1 + ((i : Int) * 100 + 11) % 999)])))[vn]? = some (.lst (vl.map D.int ++ [.int (1 + ((i : Int) * 100 + 11) % 999)])) := set_at v10
      have r11 : (S10.set vn (.lst (vl.map D.int ++ [.int (1 + ((i : Int) * 100 + 11) % 999)])))[rn]? = some (.lst (hs.map HRow.d)) := by rw [List.getElem?_set_ne (by omega)]; exact r10
      have t11 : (S10.set vn (.lst (vl.map D.int ++ [.int (1 + ((i : Int) * 100 + 11) % 999)])))[tn]? = some (.lst ((ts.eraseIdx j.toNat).map D.int)) := by rw [List.getElem?_set_ne (by omega)]; exact t10
      have f11 : Fr b S (S10.set vn (.lst (vl.map D.int ++ [.int (1 + ((i : Int) * 100 + 11) % 999)]))) := f10.late h (by omega)
      generalize S10.set vn (.lst (vl.map D.int ++ [.int (1 + ((i : Int) * 100 + 11) % 999)])) = S11 at v11 r11 t11 f11 ⊢
      walk_at "ev"
      rw [atI_last]
      walk_at "ev"
      refine wp_eq (appV_m r11 (by rw [List.length_map]; omega)) ?_
      walk_at "ev"
      exact ⟨⟨_, _, _, _, _, _, _, rfl⟩, f11.late h (by omega), hs ++ [⟨ts[j.toNat], true, 1 + ((i : Int) * 100 + 11) % 999, bg, 10 * (i : Int) + 1 + 1 + w⟩], vl ++ [1 + ((i : Int) * 100 + 11) % 999], ts.eraseIdx j.toNat, by rw [List.getElem?_set_ne (by omega), v11, List.map_append]; rfl, by rw [set_at r11, List.map_append]; rfl, by rw [List.getElem?_set_ne (by omega)]; exact t11, g.step i60 jm bg0 (by omega) (by omega) (.inl ⟨rfl, rfl, rfl⟩)⟩
    · have rd : ∀ (v : Int) (S11 : Store) (y14 : Option D), v ∈ vl → Fr b S10 S11 → wpE ((appV (.loc rn) [.tup [.int ts[j.toNat], .str "read", .int v, .int bg, .int (10 * (i : Int) + 1 + 1 + w)]] S11).bind (nxK [some (.loc b), some (.int N), some (.int m), some (.int sp), some (.int od), some (.loc vn), some (.loc rn), some (.loc tn), some (.int (i : Int)), some (.int (10 * (i : Int) + 1)), some (.int bg), some (.int (10 * (i : Int) + 1 + 1 + w)), some (.int ts[j.toNat]), some (.int v), y14])) (fun fl S' => ∃ st, fl = .nx st ∧ (∃ y8 y9 y10 y11 y12 y13 y14, st = [some (.loc b), some (.int N), some (.int m), some (.int sp), some (.int od), some (.loc vn), some (.loc rn), some (.loc tn), y8, y9, y10, y11, y12, y13, y14]) ∧ Fr b S S' ∧ ∃ hs vl ts, S'[vn]? = some (.lst (vl.map D.int)) ∧ S'[rn]? = some (.lst (hs.map HRow.d)) ∧ S'[tn]? = some (.lst (ts.map D.int)) ∧ Gen (i + 1) hs vl ts) := fun v S11 y14 hv f11 => by
        have v11 := f11.keep _ _ vb v10
        have r11 := f11.keep _ _ rb r10
        have t11 := f11.keep _ _ tb t10
        have f11 := f10.trans f11
        refine wp_eq (appV_m r11 (by rw [List.length_map]; omega)) ?_
        walk_at "ev"
        refine ⟨_, rfl, ⟨_, _, _, _, _, _, _, rfl⟩, f11.late h (by omega), hs ++ [⟨ts[j.toNat], false, v, bg, 10 * (i : Int) + 1 + 1 + w⟩], vl, ts.eraseIdx j.toNat, by rw [List.getElem?_set_ne (by omega)]; exact v11, by rw [set_at r11, List.map_append]; rfl, by rw [List.getElem?_set_ne (by omega)]; exact t11, g.step i60 jm bg0 (by omega) (by omega) (.inr ⟨rfl, hv, rfl⟩)⟩
      obtain ⟨la, ml, el⟩ : ∃ la ∈ vl, atI (vl.map D.int) (-1) = some (.int la) := by
        refine ⟨vl.getLast g.vn, List.getLast_mem _, ?_⟩
        conv => lhs; rw [← List.dropLast_concat_getLast g.vn, List.map_append]
        exact atI_last
      walk_at "ev"
      rw [el]
      walk_at "ev"
      cases eo : od == 0 with
      | false =>
        walk_at "ev"
        refine wpE_mono (rd la S10 _ ml (.refl f10.bag)) ?_
        rintro _ S' ⟨st, rfl, z⟩
        exact z
      | true =>
        walk_at "ev"
        refine wp_take f10.bag (by omega) (by omega) fun r2 S11 _ _ f11 => ?_
        have r11 := f11.keep _ _ rb r10
        have v11 := f11.keep _ _ vb v10
        walk_at "ev"
        refine wp_iteB (fun c2 => ?_) fun c2 => ?_
        · walk_at "ev"
          rw [List.length_map]
          have vp : 0 < vl.length := List.length_pos_iff.mpr g.vn
          refine wp_take f11.bag (by omega) (by omega) fun q2 S12 q0 q1 f12 => ?_
          have r12 := f12.keep _ _ rb r11
          have v12 := f12.keep _ _ vb v11
          obtain ⟨v, mv, ev⟩ := atI_map (f := D.int) q0 q1
          walk_at "ev"
          rw [ev]
          walk_at "ev"
          refine wpE_mono (rd v S12 _ mv (f11.trans f12)) ?_
          rintro _ S' ⟨st, rfl, z⟩
          exact z
        · walk_at "ev"
          refine wpE_mono (rd la S11 _ ml f11) ?_
          rintro _ S' ⟨st, rfl, z⟩
          exact z
  · rintro st S5 ⟨⟨y8, y9, y10, y11, y12, y13, y14, rfl⟩, f5, hs, vl, ts, v5, r5, t5, g⟩
    refine ⟨held_nil, ?_⟩
    rw [rangeD_len] at g
    have ok := g.ok (by omega)
    have sm := g.small
    walk_at "ev"
    have b5 := f5.bag.lt
    have l5 := f5.len
    have d6 : (S5 ++ [O.lst (hs.map HRow.d)] ++ [O.lst []])[S5.length]? = some (.lst (hs.map HRow.d)) := by
      rw [List.append_assoc, List.getElem?_append_right (Nat.le_refl _), Nat.sub_self]
      rfl
    have n6 : (S5 ++ [O.lst (hs.map HRow.d)] ++ [O.lst []])[(S5 ++ [O.lst (hs.map HRow.d)]).length]? = some (.lst (([] : List HRow).map HRow.d)) := app_at
    have f6 : Fr b S (S5 ++ [O.lst (hs.map HRow.d)] ++ [O.lst []]) := f5.trans ((Fr.app f5.bag).trans (Fr.app (Fr.app f5.bag).bag))
    have e6 : (S5 ++ [O.lst (hs.map HRow.d)]).length = S5.length + 1 := by simp
    generalize S5 ++ [O.lst (hs.map HRow.d)] ++ [O.lst []] = S6 at d6 n6 f6 ⊢
    generalize (S5 ++ [O.lst (hs.map HRow.d)]).length = nn at n6 e6 ⊢
    generalize S5.length = dn at d6 e6 b5 l5 ⊢
    have lh := g.hl
    refine wp_while (fun k st S' => st = [some (.loc b), some (.int N), some (.int m), some (.int sp), some (.int od), some (.loc vn), some (.loc nn), some (.loc tn), y8, y9, y10, y11, y12, y13, some (.loc dn)] ∧ Fr b S S' ∧ ∃ as bs, S'[dn]? = some (.lst (as.map HRow.d)) ∧ S'[nn]? = some (.lst (bs.map HRow.d)) ∧ as.length = k ∧ (as ++ bs).Perm hs) ?_ 100000 hs.length _ _ (by omega) ⟨rfl, f6, hs, [], d6, n6, rfl, by rw [List.append_nil]⟩
    rintro k st S7 ⟨rfl, f7, as, bs, d7, n7, lk, pm⟩
    have lp := pm.length_eq
    rw [List.length_append] at lp
    refine ⟨!(as.map HRow.d).isEmpty, ?_, fun c => ?_, fun c => ?_⟩
    · unfold B_law_history_t3
      walk_at "ev"
      rw [neL_m0 d7]
      walk_at "ev"
    · have ap : 0 < as.length := by
        cases as with
        | nil => cases c
        | cons a l => simp
      unfold B_law_history_b2
      walk_at "ev"
      rw [List.length_map]
      refine wp_take f7.bag (by omega) (by omega) fun r S8 r0 r1 f8 => ?_
      have d8 := f8.keep _ _ (by omega) d7
      have n8 := f8.keep _ _ (by omega) n7
      have f8 := f7.trans f8
      have rm : r.toNat < as.length := by omega
      walk_at "ev"
      refine wp_eq (popAt_ok (y := as[r.toNat].d) d8 (by omega) (by rw [List.getElem?_map, List.getElem?_eq_getElem rm]; rfl)) ?_
      rw [eraseIdx_map']
      have n9 : (S8.set dn (.lst ((as.eraseIdx r.toNat).map HRow.d)))[nn]? = some (.lst (bs.map HRow.d)) := by rw [List.getElem?_set_ne (by omega)]; exact n8
      walk_at "ev"
      refine wp_eq (appV_m n9 (by rw [List.length_map]; omega)) ?_
      walk_at "ev"
      refine ⟨k - 1, by omega, (f8.late h (by omega)).late h (by omega), as.eraseIdx r.toNat, bs ++ [as[r.toNat]], by rw [List.getElem?_set_ne (by omega)]; exact set_at d8, by rw [set_at n9, List.map_append]; rfl, by rw [List.length_eraseIdx, if_pos rm]; omega, ?_⟩
      refine List.Perm.trans ?_ pm
      have e : as.take r.toNat ++ as[r.toNat] :: as.drop (r.toNat + 1) = as := by rw [← List.drop_eq_getElem_cons rm, List.take_append_drop]
      rw [List.eraseIdx_eq_take_drop_succ]
      conv => rhs; rw [← e]
      rw [← List.append_assoc]
      refine (List.perm_append_comm).trans ?_
      show (as[r.toNat] :: (as.take r.toNat ++ as.drop (r.toNat + 1) ++ bs)).Perm _
      rw [List.append_assoc, List.append_assoc]
      exact List.perm_middle.symm
    · walk_at "ev"
      have ae : as = [] := by
        cases as with
        | nil => rfl
        | cons a l => cases c
      rw [ae, List.nil_append] at pm
      exact q nn bs S7 f7 (by omega) n7 (ok.perm pm) (by rw [pm.length_eq]; omega) fun r hr => sm r (pm.mem_iff.mp hr)
theorem wp_history {S : Store} {b : Nat} {N : Int} {α : Type} {k : D → Store → R α} {P : α → Store → Prop} (h : BagAt S b) (hN : 0 ≤ N) (hN2 : N ≤ 60) (q : ∀ n hs S', Fr b S S' → S.length ≤ n → S'[n]? = some (.lst (hs.map HRow.d)) → HOk hs → hs.length ≤ N.toNat → wpE (k (.loc n) S') P) : wpE ((F_law_history [.loc b, .int N] S).bind k) P :=
  wp_historyS h hN hN2 fun n hs S' a b c d e _ => q n hs S' a b c d e

theorem sortWm_ok {m : Nat} {l : List Int} {S : Store} (h : S[m]? = some (.lst (l.map D.int))) : sortedW [.loc m] S = .ok (.lst ((sortI l).map D.int)) S := by
  unfold sortedW sortC2 sortC
  simp only [lsOf, h, intsOf_all]
theorem wp_rightL {S : Store} {x : D} {m : Nat} {h : List HRow} {ts : List Int} {α : Type} {k : D → Store → R α} {P : α → Store → Prop} (hx : IsH S x h) (ok : HOk h) (hm : S[m]? = some (.lst (ts.map D.int))) (few2 : ts.length ≤ 1000) (q : ∀ (bb : Bool) S', Keep S S' → (bb = true ↔ OrdP h ts) → wpE (k (.bl bb) S') P) : wpE ((F_law_order_right [x, .loc m] S).bind k) P := by
  obtain ⟨at_, hh⟩ := hx.any2
  have few := ok.few
  unfold F_law_order_right B_law_order_right
  walk_at "ev"
  rw [(hh _ Keep.app).1]
  walk_at "ev"
  refine wp_for (s := ⟨h.map HRow.d, at_⟩) (fun i st S' => (∃ y3 y4 y5 y6, st = [some x, some (.loc m), some (.loc S.length), y3, y4, y5, y6]) ∧ ∃ kvs : List (Key × D), S'[S.length]? = some (.dK kvs) ∧ TaskD (h.take i) kvs ∧ Keep S S') ⟨⟨_, _, _, _, rfl⟩, [], app_at, ⟨Nat.zero_le _, rfl, fun m d => by simp [lookA_nil]⟩, Keep.app⟩ ?_ ?_
  · rintro i y st S' hy ⟨⟨y3, y4, y5, y6, rfl⟩, kvs, h1, td, k1⟩
    obtain ⟨r, hr, rfl⟩ := hrow_get hy
    have l2 := td.len
    have lt2 : (h.take i).length ≤ h.length := by rw [List.length_take]; omega
    refine ⟨(hh _ k1).2, ?_⟩
    have ix : ∀ S', ixV r.d (.int 0) S' = .ok (.int r.task) S' := fun _ => rfl
    unfold B_law_order_right_b1
    walk_at "ev"
    rw [ix]
    walk_at "ev"
    refine wp_eq (setO_k (q := .inl r.task) h1 rfl (by omega)) ?_
    walk_at "ev"
    refine ⟨⟨_, _, _, _, rfl⟩, _, List.getElem?_set_self (List.getElem?_eq_some_iff.mp h1).1, ?_, k1.put (Nat.le_refl _)⟩
    rw [take_more hr]
    exact td.step (ok.apart hr)
  · rintro st S1 ⟨⟨y3, y4, y5, y6, rfl⟩, kvs, h1, td, k1⟩
    rw [show (Src.mk (h.map HRow.d) at_).xs.length = h.length from List.length_map _, List.take_length] at td
    have hm1 := k1.keep _ _ hm
    refine ⟨(hh _ k1).2, ?_⟩
    walk_at "ev"
    rw [sortDI_ok h1 td few]
    walk_at "ev"
    rw [sortWm_ok hm1]
    walk_at "ev"
    rw [neV_ints]
    walk_at "ev"
    by_cases e : sortI (h.map (·.task)) = sortI ts
    · rw [decide_eq_true e]
      walk_at "ev"
      obtain ⟨l, pl, rfl⟩ := perm_unmap (sort_same.mp e).symm
      have ml : ∀ r ∈ l, r ∈ h := fun r hr => pl.mem_iff.mp hr
      have oi := ord_iff ok pl rfl
      have lk : ∀ r ∈ l, ∀ S', S'[S.length]? = some (.dK kvs) → ixV (.loc S.length) (.int r.task) S' = .ok r.d S' := fun r hr S' hS => ixV_dk hS rfl ((td.at_ r.task r.d).mpr ⟨r, ml r hr, rfl, rfl⟩)
      have ll : l.length ≤ 60 := by rw [pl.length_eq]; exact few
      rw [List.length_map, List.length_map]
      walk_at "ev"
      refine wp_for (s := ⟨rangeD 0 (l.length : Int).toNat, []⟩) (fun i st S' => S1 = S' ∧ ∃ (last : Int) (y3 y5 y6 : Option D), st = [some x, some (.loc m), some (.loc S.length), y3, some (.int last), y5, y6] ∧ (HSeq l 0 ↔ HSeq (l.drop i) last)) ⟨rfl, 0, _, _, _, rfl, Iff.rfl⟩ ?_ ?_
      · rintro i y st _ hy ⟨rfl, last, y3, y5, y6, rfl, iff⟩
        refine ⟨held_nil, ?_⟩
        obtain ⟨il, rfl⟩ := rangeD_get hy
        have il : i < l.length := by omega
        obtain ⟨r, hr⟩ : ∃ r, l[i]? = some r := ⟨_, List.getElem?_eq_getElem il⟩
        have er := (List.getElem?_eq_some_iff.mp hr).2
        have mr : r ∈ l := List.mem_of_getElem? hr
        rw [List.drop_eq_getElem_cons il, er] at iff
        have at1 : atI ((l.map (·.task)).map D.int) (i : Int) = some (.int r.task) := by
          rw [atI_nat', List.getElem?_map, List.getElem?_map, hr]
          rfl
        unfold B_law_order_right_b5
        walk_at "ev"
        rw [at1]
        walk_at "ev"
        rw [lk r mr S1 h1]
        walk_at "ev"
        rw [show ((i : Int) + 1) = ((i + 1 : Nat) : Int) from rfl, cutD_from, ← List.map_drop, ← List.map_drop, List.map_map]
        have c1 : ∀ w, lcD ⟨(l.drop (i + 1)).map (D.int ∘ fun r => r.task), []⟩ B_law_order_right_g2 B_law_order_right_t3 B_law_order_right_e4 [some x, some (.loc m), some (.loc S.length), some r.d, some (.int last), w, none] ((l.drop (i + 1)).map (D.int ∘ fun r => r.task)) [] S1 = .ok (((l.drop (i + 1)).filter fun o => decide (o.fin < r.beg)).map fun o => D.int o.task) S1 := fun w => by
          rw [← fm_if]
          refine lcD_map _ held_nil (l.drop (i + 1)) [] (by rw [List.length_nil, List.length_drop]; omega) fun o ho => ?_
          have mo := List.mem_of_mem_drop ho
          unfold B_law_order_right_g2 B_law_order_right_t3 B_law_order_right_e4
          show lcT _ _ _ _ (.int o.task) S1 = _
          walk_at "ev"
          rw [lk o mo S1 h1]
          unfold HRow.d
          walk_at "ev"
          by_cases c : o.fin < r.beg <;> simp [c]
        rw [c1]
        walk_at "ev"
        have nn : neV (.lst (((l.drop (i + 1)).filter fun o => decide (o.fin < r.beg)).map fun o => D.int o.task)) (.lst []) S1 = .ok (.bl (!decide (((l.drop (i + 1)).filter fun o => decide (o.fin < r.beg)) = []))) S1 := by
          have := neV_ints (a := ((l.drop (i + 1)).filter fun o => decide (o.fin < r.beg)).map (·.task)) (b := []) (S := S1)
          rw [List.map_map] at this
          refine this.trans ?_
          rw [decide_eq_decide.mpr List.map_eq_nil_iff]
        rw [nn]
        walk_at "ev"
        by_cases c2 : ((l.drop (i + 1)).filter fun o => decide (o.fin < r.beg)) = []
        · rw [decide_eq_true c2]
          have fr : ∀ o ∈ l.drop (i + 1), ¬ o.fin < r.beg := fun o ho lt => by
            have := List.filter_eq_nil_iff.mp c2 o ho
            exact this (decide_eq_true lt)
          walk_at "ev"
          unfold HRow.d
          walk_at "ev"
          rw [wS_r]
          by_cases g : r.wr = true ∨ r.val = last
          · have e2 : (if (!r.wr) = true then R.ok (!(r.val == last)) S1 else R.ok false S1) = .ok false S1 := by
              rcases g with g | g <;> simp [g]
            rw [e2]
            walk_at "ev"
            exact ⟨_, _, _, _, rfl, iff.trans ⟨fun y => y.2.2, fun y => ⟨g, fr, y⟩⟩⟩
          · have e2 : (if (!r.wr) = true then R.ok (!(r.val == last)) S1 else R.ok false S1) = .ok true S1 := by
              rw [not_or] at g
              simp [g.1, g.2]
            rw [e2]
            walk_at "ev"
            exact q false S1 k1 ⟨fun y => (by cases y), fun y => absurd (iff.mp (oi.mp y)).1 g⟩
        · rw [decide_eq_false c2]
          walk_at "ev"
          exact q false S1 k1 ⟨fun y => (by cases y), fun y => absurd (List.filter_eq_nil_iff.mpr fun o ho lt => (iff.mp (oi.mp y)).2.1 o ho (of_decide_eq_true lt)) c2⟩
      · rintro st _ ⟨rfl, last, y3, y5, y6, rfl, iff⟩
        refine ⟨held_nil, ?_⟩
        walk_at "ev"
        rw [show (Src.mk (rangeD 0 (l.length : Int).toNat) []).xs.length = l.length from rangeD_len, List.drop_length] at iff
        exact q true S1 k1 ⟨fun _ => oi.mpr (iff.mpr True.intro), fun _ => rfl⟩
    · rw [decide_eq_false e]
      walk_at "ev"
      refine q false S1 k1 ⟨fun y => (by cases y), ?_⟩
      rintro ⟨l, p, rfl, _⟩
      exact absurd (sort_same.mpr (p.map _).symm) e
abbrev lamQ : Str := ("law" : Str) ++ ".<locals>." ++ "<lambda>"
theorem wp_bagM {mk : List D → D} (hmk : mk = D.scr ∨ mk = D.lst) {ns : List Int} {k : Nat} {S : Store} {α : Type} {kk : D → Store → R α} {P : α → Store → Prop} (q : ∀ b S', b = S.length → BagAt S' b → (∀ (n : Nat) (o : O), S[n]? = some o → S'[n]? = some o) → S.length ≤ S'.length → wpE (kk (.loc b) S') P) : wpE ((F_law_bag [mk (ns.map D.int), .int k] S).bind kk) P := by
  rcases hmk with rfl | rfl
  · exact wp_bag q
  have fin : ∀ x y : Int, wpE (kk (.loc S.length) (S ++ [.lst [.int x, .int y]])) P := fun x y =>
    q _ _ rfl ⟨x, y, app_at⟩ (fun n o e => by rw [List.getElem?_append_left (List.getElem?_eq_some_iff.mp e).1]; exact e) (by simp)
  unfold F_law_bag B_law_bag
  walk_at "ev"
  rw [List.length_map]
  by_cases hk : (k : Int) < ns.length
  · have e : atI (ns.map D.int) (k : Int) = some (.int (ns.getD k 0)) := by
      rw [atI_nat', List.getElem?_map, List.getElem?_eq_getElem (by omega)]
      simp [List.getD_eq_getElem?_getD, List.getElem?_eq_getElem (show k < ns.length by omega)]
    simp only [hk, decide_true, if_true, e]
    walk_at "ev"
    refine wp_iteB (fun _ => ?_) (fun _ => ?_) <;> (walk_at "ev"; exact fin _ _)
  · simp only [hk, decide_false, Bool.false_eq_true, if_false]
    walk_at "ev"
    exact fin _ _
def keyOfR (w : Int) (r : HRow) : Int × Int := (if w % 2 = 0 then r.beg else r.fin, r.task)
theorem rowKeys_hs {w : Int} : ∀ hs : List HRow, rowKeys w (hs.map HRow.d) = some (hs.map (keyOfR w))
  | [] => rfl
  | r :: hs => by
    have e : rowKey w r.d = some (keyOfR w r) := by
      unfold HRow.d rowKey keyOfR
      rcases Int.emod_two_eq w with e | e <;> simp [e]
    show (match rowKey w r.d, rowKeys w (hs.map HRow.d) with | some k, some ks => some (k :: ks) | _, _ => none) = _
    rw [e, rowKeys_hs hs]
    rfl
theorem ordD_perm {xs : List D} {ds : List PyData} (h : ds.length = xs.length) : (ordD xs ds).Perm xs := by
  unfold ordD
  refine ((List.mergeSort_perm _ _).map Prod.fst).trans ?_
  rw [List.map_fst_zip (by omega)]
theorem sorted_hs {w : Int} {n : Nat} {hs : List HRow} {S : Store} (hT : S[0]? = some (.tab lamQ)) (hn : S[n]? = some (.lst (hs.map HRow.d))) : ∃ rs : List HRow, rs.Perm hs ∧ sortK lamQ (.loc n) (.int w) S = .ok (.lst (rs.map HRow.d)) S := by
  obtain ⟨rs, p, e⟩ := perm_unmap (ordD_perm (xs := hs.map HRow.d) (ds := (hs.map (keyOfR w)).map keyP) (by simp))
  refine ⟨rs, p, ?_⟩
  unfold sortK
  simp only [hT, lsOf, hn, rowKeys_hs, if_true]
  rw [e]
def taskF : D → Option D
  | .tup (t :: _) => some t
  | _ => none
theorem taskF_rs (rs : List HRow) : (rs.map HRow.d).filterMap taskF = (rs.map (·.task)).map D.int := by
  induction rs with
  | nil => rfl
  | cons r rs ih =>
    rw [List.map_cons, List.filterMap_cons, show taskF r.d = some (.int r.task) from rfl, ih]
    rfl
theorem neL_bb {a : Bool} {S : Store} : neL (.bl a) (.bl a) S = .ok (.bl false) S := by
  show neV (.bl a) (.bl a) S = _
  rw [neV_b]
  simp
theorem neL_mT {m : Nat} {ts : List Int} {S : Store} (h : S[m]? = some (.lst (ts.map D.int))) : neL (.loc m) (.lst []) S = .ok (.bl (!ts.isEmpty)) S := by
  unfold neL
  simp only [lsOf, h]
  cases ts with
  | nil =>
    simp only [List.map_nil, List.length_nil, if_true]
    unfold neV toPyS
    simp only [h, List.map_nil]
    rfl
  | cons t ts => rfl
theorem set_ints {m : Nat} {ts : List Int} {S : Store} {i x : Int} (i0 : 0 ≤ i) (i1 : i < ts.length) : setK m (ts.map D.int) (.int x) S (ixN (ts.map D.int).length i) = .ok () (S.set m (.lst ((ts.set i.toNat x).map D.int))) := by
  rw [ixN_ok i0 (by rw [List.length_map]; exact i1), List.map_set]
  rfl
theorem pop_ints {m : Nat} {ts : List Int} {S : Store} {i : Int} (h : S[m]? = some (.lst (ts.map D.int))) (i0 : 0 ≤ i) (i1 : i < ts.length) (few : ts.length ≤ 1000) : ∃ y, popAtV (.loc m) [.int i] S = .ok y (S.set m (.lst ((ts.eraseIdx i.toNat).map D.int))) := by
  have l : i.toNat < (ts.map D.int).length := by rw [List.length_map]; omega
  refine ⟨(ts.map D.int)[i.toNat], ?_⟩
  rw [popAt_ok h ⟨i0, by omega⟩ (List.getElem?_eq_getElem l), eraseIdx_map']
theorem ins_ints {m : Nat} {ts : List Int} {S : Store} {i y : Int} (h : S[m]? = some (.lst (ts.map D.int))) (i0 : 0 ≤ i) (i1 : i < ts.length) (few : ts.length ≤ 1000) : insV (.loc m) [.int i, .int y] S = .ok .non (S.set m (.lst ((ts.take i.toNat ++ [y] ++ ts.drop i.toNat).map D.int))) := by
  unfold insV
  simp only [h]
  rw [if_pos ⟨by rw [List.length_map]; omega, i0, by omega⟩]
  simp
theorem ok0 : HOk [] := ⟨by simp, by simp, by simp, by simp, by simp, by simp⟩
theorem ord00 : OrdP [] [] := ⟨[], .refl _, rfl, True.intro⟩
theorem ord07 : ¬ OrdP [] [7] := fun ⟨l, p, e, _⟩ => by
  rw [List.perm_nil.mp p] at e
  cases e
theorem isNot_tt {S : Store} : isNotB (.bl true) (.bl true) S = .ok (.bl false) S := rfl
theorem isNot_ff {S : Store} : isNotB (.bl false) (.bl false) S = .ok (.bl false) S := rfl
theorem wp_turns {s0 s1 s5 s6 s7 s8 s9 s10 s11 s12 : Option D} {b n m : Nat} {hs : List HRow} {ts : List Int} {S : Store} {α : Type} {k : Fl → Store → R α} {P : α → Store → Prop} (ok : HOk hs) (few : ts.length ≤ 60) (bm : b ≠ m) (bn : b ≠ n) (nm : n ≠ m) (b0 : 0 ≠ b) (m0 : 0 ≠ m)
    (hm : S[m]? = some (.lst (ts.map D.int))) (hn : S[n]? = some (.lst (hs.map HRow.d))) (bag : BagAt S b) (hT : S[0]? = some (.tab lamQ))
    (q : ∀ x4 x6 x7 x8 x9 x10 S', S'[0]? = some (.tab lamQ) → wpE (k (.nx [s0, s1, some (.loc b), some (.loc n), x4, s5, x6, x7, x8, x9, x10, s11, s12]) S') P) :
    wpE ((forD ⟨rangeD 0 7, []⟩ (dgName 6) B_law_b4 (rangeD 0 7) [s0, s1, some (.loc b), some (.loc n), some (.loc m), s5, s6, s7, s8, s9, s10, s11, s12] S).bind k) P := by
  refine wp_for (s := ⟨rangeD 0 7, []⟩) (fun i st S' => ∃ (ts : List Int) (x6 x7 x8 x9 x10 : Option D), st = [s0, s1, some (.loc b), some (.loc n), some (.loc m), s5, x6, x7, x8, x9, x10, s11, s12] ∧ ts.length ≤ 60 + i ∧ S'[m]? = some (.lst (ts.map D.int)) ∧ S'[n]? = some (.lst (hs.map HRow.d)) ∧ BagAt S' b ∧ S'[0]? = some (.tab lamQ))
    ⟨ts, _, _, _, _, _, rfl, few, hm, hn, bag, hT⟩ ?_ ?_
  · rintro i x st S1 hx ⟨ts, x6, x7, x8, x9, x10, rfl, few, hm, hn, bag, hT⟩
    obtain ⟨il, rfl⟩ := rangeD_get hx
    refine ⟨held_nil, ?_⟩
    unfold B_law_b4
    walk_at "ev"
    refine wp_is_order (ts := ts) (.inr ⟨n, rfl, hn⟩) ok fun bb S2 k2 i2 => ?_
    have hm2 := k2.keep _ _ hm
    have hn2 := k2.keep _ _ hn
    walk_at "ev"
    refine wp_rightL (ts := ts) (.inr ⟨n, rfl, hn2⟩) ok hm2 (by omega) fun bb2 S3 k3 i3 => ?_
    have hm3 := k3.keep _ _ hm2
    have hn3 := k3.keep _ _ hn2
    have bag3 := k3.bag (k2.bag bag)
    have hT3 := k3.keep _ _ (k2.keep _ _ hT)
    obtain rfl : bb = bb2 := by
      have := i2.trans i3.symm
      cases bb <;> cases bb2 <;> simp_all
    walk_at "ev"
    rw [neL_bb]
    walk_at "ev"
    rw [neL_mT hm3]
    by_cases ne : ts = []
    · subst ne
      walk_at "ev"
      exact ⟨[], _, _, _, _, _, rfl, by simp, hm3, hn3, bag3, hT3⟩
    · have pos : 0 < ts.length := List.length_pos_iff.mpr ne
      rw [show ts.isEmpty = false from by cases ts with | nil => exact absurd rfl ne | cons a l => rfl]
      walk_at "ev"
      rw [List.length_map]
      refine wp_take bag3 (by omega) (by omega) fun one S4 one0 one1 f4 => ?_
      have hm4 := f4.keep _ _ bm.symm hm3
      walk_at "ev"
      rw [List.length_map]
      refine wp_take f4.bag (by omega) (by omega) fun oth S5 oth0 oth1 f5 => ?_
      have hm5 := f5.keep _ _ bm.symm hm4
      walk_at "ev"
      refine wp_take f5.bag (by decide) (by decide) fun deed S6 d0 d1 f6 => ?_
      have hm6 := f6.keep _ _ bm.symm hm5
      have f36 := (f4.trans f5).trans f6
      have hn6 := f36.keep _ _ bn.symm hn3
      have hT6 := f36.keep _ _ b0 hT3
      obtain ⟨x, _, ex⟩ := atI_map (xs := ts) (f := D.int) one0 one1
      obtain ⟨y, _, ey⟩ := atI_map (xs := ts) (f := D.int) oth0 oth1
      walk_at "ev"
      have lm6 := (List.getElem?_eq_some_iff.mp hm6).1
      have fin : ∀ us : List Int, (S6.set m (.lst (us.map D.int)))[m]? = some (.lst (us.map D.int)) ∧ (S6.set m (.lst (us.map D.int)))[n]? = some (.lst (hs.map HRow.d)) ∧ BagAt (S6.set m (.lst (us.map D.int))) b ∧ (S6.set m (.lst (us.map D.int)))[0]? = some (.tab lamQ) := fun us => by
        refine ⟨List.getElem?_set_self lm6, ?_, ?_, ?_⟩
        · rw [List.getElem?_set_ne nm.symm]
          exact hn6
        · obtain ⟨u, v, hb⟩ := f36.bag
          exact ⟨u, v, by rw [List.getElem?_set_ne bm.symm]; exact hb⟩
        · rw [List.getElem?_set_ne m0.symm]
          exact hT6
      by_cases e4 : deed < 4
      · simp only [e4, decide_true]
        walk_at "ev"
        rw [ey]
        walk_at "ev"
        rw [ex]
        walk_at "ev"
        rw [set_ints one0 one1]
        walk_at "ev"
        rw [set_ints oth0 (by rw [List.length_set]; exact oth1)]
        walk_at "ev"
        rw [List.set_set]
        exact ⟨_, _, _, _, _, _, rfl, by simp only [List.length_set]; omega, fin _⟩
      · simp only [e4, decide_false]
        walk_at "ev"
        by_cases e5 : deed = 4
        · subst e5
          walk_at "ev"
          obtain ⟨z, ez⟩ := pop_ints hm6 one0 one1 (by omega)
          rw [ez]
          walk_at "ev"
          exact ⟨_, _, _, _, _, _, rfl, by rw [List.length_eraseIdx]; split <;> omega, fin _⟩
        · rw [show (deed == (4 : Int)) = false from by simp [e5]]
          walk_at "ev"
          by_cases e6 : deed = 5
          · subst e6
            walk_at "ev"
            rw [ey]
            walk_at "ev"
            rw [ins_ints hm6 one0 one1 (by omega)]
            walk_at "ev"
            exact ⟨_, _, _, _, _, _, rfl, by simp only [List.length_append, List.length_take, List.length_drop, List.length_cons, List.length_nil]; omega, fin _⟩
          · rw [show (deed == (5 : Int)) = false from by simp [e6]]
            walk_at "ev"
            rw [set_ints one0 one1]
            walk_at "ev"
            exact ⟨_, _, _, _, _, _, rfl, by simp only [List.length_set]; omega, fin _⟩
  · rintro st S1 ⟨ts, x6, x7, x8, x9, x10, rfl, few, hm, hn, bag, hT⟩
    exact ⟨held_nil, q _ _ _ _ _ _ S1 hT⟩
theorem main (ns : List Int) (hl : ns.length ≤ 63) : ∀ mk : List D → D, (mk = D.scr ∨ mk = D.lst) → ∃ S', F_law [mk (ns.map D.int)] [.tab lamQ] = .ok (.bl true) S' := by
  intro mk hmk
  have hlen : ∀ S, lenV [mk (ns.map D.int)] S = .ok (.int ns.length) S := fun S => by
    rcases hmk with rfl | rfl
    · rw [lenV_r, List.length_map]
    · rw [lenV_l, List.length_map]
  refine wp_done ?_
  unfold F_law B_law
  walk_at "ev"
  rw [hlen]
  walk_at "ev"
  refine wp_for (fun _ st S => (∃ x1 x2 x3 x4 x5 x6 x7 x8 x9 x10 x11 x12 : Option D, st = [some (mk (ns.map D.int)), x1, x2, x3, x4, x5, x6, x7, x8, x9, x10, x11, x12]) ∧ S[0]? = some (.tab lamQ)) ⟨⟨_, _, _, _, _, _, _, _, _, _, _, _, rfl⟩, rfl⟩ ?_ ?_
  · rintro kk x st S hx ⟨⟨x1, x2, x3, x4, x5, x6, x7, x8, x9, x10, x11, x12, rfl⟩, hT⟩
    obtain ⟨_, rfl⟩ := rangeD_get hx
    refine ⟨held_nil, ?_⟩
    have l0 : 0 < S.length := (List.getElem?_eq_some_iff.mp hT).1
    unfold B_law_b5
    walk_at "ev"
    refine wp_bagM hmk fun b S1 eb bag keep1 len1 => ?_
    have b0 : 0 ≠ b := by omega
    have hT1 := keep1 _ _ hT
    walk_at "ev"
    refine wp_history bag (by decide) (by decide) fun n hs S2 f2 ln h2 ok l2 => ?_
    have lb := bag.lt
    have bn : b ≠ n := by omega
    have hT2 := f2.keep _ _ b0 hT1
    walk_at "ev"
    refine wp_take f2.bag (by decide) (by decide) fun way S3 w0 w1 f3 => ?_
    have hT3 := f3.keep _ _ b0 hT2
    have h3 := f3.keep _ _ bn.symm h2
    walk_at "ev"
    obtain ⟨rs, pr, er⟩ := sorted_hs (w := way) hT3 h3
    rw [show sortKAt lamQ 11 [some (mk (ns.map D.int)), some (D.int (kk : Int)), some (D.loc b), some (D.loc n), x4, x5, x6, x7, x8, x9, x10, some (D.int way), x12] (.loc n) S3 = .ok (.lst (rs.map HRow.d)) S3 from er]
    walk_at "ev"
    have lr : rs.length ≤ 8 := by
      rw [pr.length_eq]
      exact l2
    refine wp_eq (lmD_pure taskF (fun _ => held_nil) (rs.map HRow.d) [] _ app_at (by rw [List.length_nil, List.length_map]; omega) (fun x hx S' => by
      obtain ⟨r, _, rfl⟩ := List.mem_map.mp hx
      unfold B_law_g1 B_law_t2 B_law_e3 HRow.d
      walk_at "ev"
      rfl)) ?_
    rw [List.nil_append, taskF_rs, app_set]
    walk_at "ev"
    have kA : Keep S3 (S3 ++ [.lst ((rs.map (·.task)).map D.int)]) := Keep.app
    have h4 := kA.keep _ _ h3
    have hT4 := kA.keep _ _ hT3
    have bag4 := kA.bag f3.bag
    have lb3 := f3.bag.lt
    have ln3 := (List.getElem?_eq_some_iff.mp h3).1
    have hm4 : (S3 ++ [O.lst ((rs.map (·.task)).map D.int)])[S3.length]? = some (.lst ((rs.map (·.task)).map D.int)) := app_at
    refine wp_ordered2 (x := .loc n) (.inr ⟨n, rfl, h4⟩) ok (fun w a b' S5 k5 sh e1 e2 mw => ?_) (fun ts S5 k5 lt op => ?_)
    · have hw : (w == ("order" : Str)) = false := by rcases mw with rfl | rfl | rfl <;> decide +kernel
      walk_at "ev"
      rw [hw]
      walk_at "ev"
      refine wp_turns ok (by rw [List.length_map]; omega) (by omega) bn (by omega) b0 (by omega) (k5.keep _ _ hm4) (k5.keep _ _ h4) (k5.bag bag4) (k5.keep _ _ hT4) fun x4' x6' x7' x8' x9' x10' S6 hT6 => ?_
      walk_at "ev"
      refine wp_is_order (h := []) (ts := []) (.inl rfl) ok0 fun bb S7 k7 i7 => ?_
      obtain rfl : bb = true := i7.mpr ord00
      walk_at "ev"
      rw [isNot_tt]
      walk_at "ev"
      refine wp_is_order (h := []) (ts := [7]) (.inl rfl) ok0 fun bb2 S8 k8 i8 => ?_
      obtain rfl : bb2 = false := by
        cases bb2 with
        | true => exact absurd (i8.mp rfl) ord07
        | false => rfl
      walk_at "ev"
      rw [isNot_ff]
      walk_at "ev"
      exact ⟨⟨_, _, _, _, _, _, _, _, _, _, _, _, rfl⟩, k8.keep _ _ (k7.keep _ _ hT6)⟩
    · have h5 := k5.keep _ _ h4
      have hT5 := k5.keep _ _ hT4
      have bag5 := k5.bag bag4
      have ln5 := (List.getElem?_eq_some_iff.mp h5).1
      have lb5 := bag5.lt
      have l05 := (List.getElem?_eq_some_iff.mp hT5).1
      walk_at "ev"
      by_cases ew : way = 2
      · subst ew
        walk_at "ev"
        have kB : Keep S5 (S5 ++ [.lst (ts.map D.int)]) := Keep.app
        refine wp_turns ok (lt) (by omega) bn (by omega) b0 (by omega) app_at (kB.keep _ _ h5) (kB.bag bag5) (kB.keep _ _ hT5) fun x4' x6' x7' x8' x9' x10' S6 hT6 => ?_
        walk_at "ev"
        refine wp_is_order (h := []) (ts := []) (.inl rfl) ok0 fun bb S7 k7 i7 => ?_
        obtain rfl : bb = true := i7.mpr ord00
        walk_at "ev"
        rw [isNot_tt]
        walk_at "ev"
        refine wp_is_order (h := []) (ts := [7]) (.inl rfl) ok0 fun bb2 S8 k8 i8 => ?_
        obtain rfl : bb2 = false := by
          cases bb2 with
          | true => exact absurd (i8.mp rfl) ord07
          | false => rfl
        walk_at "ev"
        rw [isNot_ff]
        walk_at "ev"
        exact ⟨⟨_, _, _, _, _, _, _, _, _, _, _, _, rfl⟩, k8.keep _ _ (k7.keep _ _ hT6)⟩
      · rw [show (way == (2 : Int)) = false from by simp [ew]]
        walk_at "ev"
        refine wp_turns ok (by rw [List.length_map]; omega) (by omega) bn (by omega) b0 (by omega) (k5.keep _ _ hm4) h5 bag5 hT5 fun x4' x6' x7' x8' x9' x10' S6 hT6 => ?_
        walk_at "ev"
        refine wp_is_order (h := []) (ts := []) (.inl rfl) ok0 fun bb S7 k7 i7 => ?_
        obtain rfl : bb = true := i7.mpr ord00
        walk_at "ev"
        rw [isNot_tt]
        walk_at "ev"
        refine wp_is_order (h := []) (ts := [7]) (.inl rfl) ok0 fun bb2 S8 k8 i8 => ?_
        obtain rfl : bb2 = false := by
          cases bb2 with
          | true => exact absurd (i8.mp rfl) ord07
          | false => rfl
        walk_at "ev"
        rw [isNot_ff]
        walk_at "ev"
        exact ⟨⟨_, _, _, _, _, _, _, _, _, _, _, _, rfl⟩, k8.keep _ _ (k7.keep _ _ hT6)⟩
  · rintro st S ⟨⟨x1, x2, x3, x4, x5, x6, x7, x8, x9, x10, x11, x12, rfl⟩, hT⟩
    refine ⟨held_nil, ?_⟩
    walk_at "ev"
variable {K : PySem.W.Frag}
/-! ### the end (printed by wip/gen.py) -/
theorem all_mk {l : PySem.W.OpenLaw} {w : World} {K : PySem.W.Frag} {h : Heap} {mg : Str → Option Value} {fa cc P0 : Addr} (X : K.In h) (G : h.Ns mainGlobals mg) (hfa : mg "law" = some (.ref fa))
    {f1 f2 f3 f4 f5 f6 f7 f8 f9 f10 f11 f12 f13 f14 : Addr} {od1 an1 od2 an2 od3 an3 od4 an4 od5 an5 od6 an6 od7 an7 od8 an8 od9 an9 od10 an10 od11 an11 od12 an12 od13 an13 od14 an14 : Option Addr} {sl1 sl2 sl3 sl4 sl5 sl6 sl7 sl8 sl9 sl10 sl11 sl12 sl13 sl14 : Array (Option Value)} {oc1 kV1 dc1 pm1 cd1 ct1 oc2 kV2 dc2 pm2 cd2 ct2 oc3 kV3 dc3 pm3 cd3 ct3 oc4 kV4 dc4 pm4 cd4 ct4 oc5 kV5 dc5 pm5 cd5 ct5 oc6 kV6 dc6 pm6 cd6 ct6 oc7 kV7 dc7 pm7 cd7 ct7 oc8 kV8 dc8 pm8 cd8 ct8 oc9 kV9 dc9 pm9 cd9 ct9 oc10 kV10 dc10 pm10 cd10 ct10 oc11 kV11 dc11 pm11 cd11 ct11 oc12 kV12 dc12 pm12 cd12 ct12 oc13 kV13 dc13 pm13 cd13 ct13 oc14 kV14 dc14 pm14 ct14 : Value}
    (a1 : PySem.W.nsIn K mainGlobals "zones" = some (some (.ref f1)))
    (l1 : K.lookup f1 = some ⟨oc1, od1, .func (PySem.W.fnOf "zones" "zones" (defArgs s_zones) (defBody s_zones) (defScope s_zones) .none kV1 dc1 pm1 an1 cd1 ct1), sl1⟩)
    (c1 : PySem.W.codeIn K cd1 "zones" = true)
    (k1_ : PySem.W.keepIn K (.ref f1) = true)
    (a2 : PySem.W.nsIn K mainGlobals "goes_ahead" = some (some (.ref f2)))
    (l2 : K.lookup f2 = some ⟨oc2, od2, .func (PySem.W.fnOf "goes_ahead" "goes_ahead" (defArgs s_goes_ahead) (defBody s_goes_ahead) (defScope s_goes_ahead) .none kV2 dc2 pm2 an2 cd2 ct2), sl2⟩)
    (c2 : PySem.W.codeIn K cd2 "goes_ahead" = true)
    (k2_ : PySem.W.keepIn K (.ref f2) = true)
    (a3 : PySem.W.nsIn K mainGlobals "is_open" = some (some (.ref f3)))
    (l3 : K.lookup f3 = some ⟨oc3, od3, .func (PySem.W.fnOf "is_open" "is_open" (defArgs s_is_open) (defBody s_is_open) (defScope s_is_open) .none kV3 dc3 pm3 an3 cd3 ct3), sl3⟩)
    (c3 : PySem.W.codeIn K cd3 "is_open" = true)
    (k3_ : PySem.W.keepIn K (.ref f3) = true)
    (a4 : PySem.W.nsIn K mainGlobals "clash" = some (some (.ref f4)))
    (l4 : K.lookup f4 = some ⟨oc4, od4, .func (PySem.W.fnOf "clash" "clash" (defArgs s_clash) (defBody s_clash) (defScope s_clash) .none kV4 dc4 pm4 an4 cd4 ct4), sl4⟩)
    (c4 : PySem.W.codeIn K cd4 "clash" = true)
    (k4_ : PySem.W.keepIn K (.ref f4) = true)
    (a5 : PySem.W.nsIn K mainGlobals "earlies" = some (some (.ref f5)))
    (l5 : K.lookup f5 = some ⟨oc5, od5, .func (PySem.W.fnOf "earlies" "earlies" (defArgs s_earlies) (defBody s_earlies) (defScope s_earlies) .none kV5 dc5 pm5 an5 cd5 ct5), sl5⟩)
    (c5 : PySem.W.codeIn K cd5 "earlies" = true)
    (k5_ : PySem.W.keepIn K (.ref f5) = true)
    (a6 : PySem.W.nsIn K mainGlobals "clashes" = some (some (.ref f6)))
    (l6 : K.lookup f6 = some ⟨oc6, od6, .func (PySem.W.fnOf "clashes" "clashes" (defArgs s_clashes) (defBody s_clashes) (defScope s_clashes) .none kV6 dc6 pm6 an6 cd6 ct6), sl6⟩)
    (c6 : PySem.W.codeIn K cd6 "clashes" = true)
    (k6_ : PySem.W.keepIn K (.ref f6) = true)
    (a7 : PySem.W.nsIn K mainGlobals "next_value" = some (some (.ref f7)))
    (l7 : K.lookup f7 = some ⟨oc7, od7, .func (PySem.W.fnOf "next_value" "next_value" (defArgs s_next_value) (defBody s_next_value) (defScope s_next_value) .none kV7 dc7 pm7 an7 cd7 ct7), sl7⟩)
    (c7 : PySem.W.codeIn K cd7 "next_value" = true)
    (k7_ : PySem.W.keepIn K (.ref f7) = true)
    (a8 : PySem.W.nsIn K mainGlobals "ordered" = some (some (.ref f8)))
    (l8 : K.lookup f8 = some ⟨oc8, od8, .func (PySem.W.fnOf "ordered" "ordered" (defArgs s_ordered) (defBody s_ordered) (defScope s_ordered) .none kV8 dc8 pm8 an8 cd8 ct8), sl8⟩)
    (c8 : PySem.W.codeIn K cd8 "ordered" = true)
    (k8_ : PySem.W.keepIn K (.ref f8) = true)
    (a9 : PySem.W.nsIn K mainGlobals "is_order" = some (some (.ref f9)))
    (l9 : K.lookup f9 = some ⟨oc9, od9, .func (PySem.W.fnOf "is_order" "is_order" (defArgs s_is_order) (defBody s_is_order) (defScope s_is_order) .none kV9 dc9 pm9 an9 cd9 ct9), sl9⟩)
    (c9 : PySem.W.codeIn K cd9 "is_order" = true)
    (k9_ : PySem.W.keepIn K (.ref f9) = true)
    (a10 : PySem.W.nsIn K mainGlobals "_law_bag" = some (some (.ref f10)))
    (l10 : K.lookup f10 = some ⟨oc10, od10, .func (PySem.W.fnOf "_law_bag" "_law_bag" (defArgs s_law_bag) (defBody s_law_bag) (defScope s_law_bag) .none kV10 dc10 pm10 an10 cd10 ct10), sl10⟩)
    (c10 : PySem.W.codeIn K cd10 "_law_bag" = true)
    (k10_ : PySem.W.keepIn K (.ref f10) = true)
    (a11 : PySem.W.nsIn K mainGlobals "_law_take" = some (some (.ref f11)))
    (l11 : K.lookup f11 = some ⟨oc11, od11, .func (PySem.W.fnOf "_law_take" "_law_take" (defArgs s_law_take) (defBody s_law_take) (defScope s_law_take) .none kV11 dc11 pm11 an11 cd11 ct11), sl11⟩)
    (c11 : PySem.W.codeIn K cd11 "_law_take" = true)
    (k11_ : PySem.W.keepIn K (.ref f11) = true)
    (a12 : PySem.W.nsIn K mainGlobals "_law_history" = some (some (.ref f12)))
    (l12 : K.lookup f12 = some ⟨oc12, od12, .func (PySem.W.fnOf "_law_history" "_law_history" (defArgs s_law_history) (defBody s_law_history) (defScope s_law_history) .none kV12 dc12 pm12 an12 cd12 ct12), sl12⟩)
    (c12 : PySem.W.codeIn K cd12 "_law_history" = true)
    (k12_ : PySem.W.keepIn K (.ref f12) = true)
    (a13 : PySem.W.nsIn K mainGlobals "_law_order_right" = some (some (.ref f13)))
    (l13 : K.lookup f13 = some ⟨oc13, od13, .func (PySem.W.fnOf "_law_order_right" "_law_order_right" (defArgs s_law_order_right) (defBody s_law_order_right) (defScope s_law_order_right) .none kV13 dc13 pm13 an13 cd13 ct13), sl13⟩)
    (c13 : PySem.W.codeIn K cd13 "_law_order_right" = true)
    (k13_ : PySem.W.keepIn K (.ref f13) = true)
    (a14 : PySem.W.nsIn K mainGlobals "law" = some (some (.ref f14)))
    (l14 : K.lookup f14 = some ⟨oc14, od14, .func (PySem.W.fnOf "law" "law" (defArgs s_law) (defBody s_law) (defScope s_law) .none kV14 dc14 pm14 an14 (.ref cc) ct14), sl14⟩)
    (c14 : PySem.W.codeIn K (.ref cc) "law" = true)
    (k14_ : PySem.W.keepIn K (.ref f14) = true)
    (z_len : PySem.W.nsIn K mainGlobals "len" = some none)
    (z_abs : PySem.W.nsIn K mainGlobals "abs" = some none)
    (z_list : PySem.W.nsIn K mainGlobals "list" = some none)
    (z_range : PySem.W.nsIn K mainGlobals "range" = some none)
    (z_max : PySem.W.nsIn K mainGlobals "max" = some none)
    (z_min : PySem.W.nsIn K mainGlobals "min" = some none)
    (z_any : PySem.W.nsIn K mainGlobals "any" = some none)
    (z_sorted : PySem.W.nsIn K mainGlobals "sorted" = some none)
    (z_isinstance : PySem.W.nsIn K mainGlobals "isinstance" = some none)
    (z_bool : PySem.W.nsIn K mainGlobals "bool" = some none)
    (hcd0 : PySem.W.codeHdIn K cc P0 = true) (nt0 : K.lookup P0 = none) (hT0 : h.get? P0 = some (PySem.W.tabObj #[])) :
    LamX.LawAtS l w K (CX l.prog w) 5 63 "script" mg fa h := by
  have e := hfa.symm.trans (PySem.W.mg_of X G a14)
  cases e
  have F1 : FunD K "zones" "zones" (defArgs s_zones) (defBody s_zones) (defScope s_zones) [] [] f1 _ := ⟨⟨oc1, od1, .none, _, dc1, pm1, an1, cd1, ct1, sl1, rfl, l1, c1, .inl ⟨rfl, rfl⟩, .inl rfl⟩, k1_⟩
  have b1 : Binds K _ ["history"] [] := F1.bindsN fun _ _ _ _ _ _ us hl => match us, hl with | [_], _ => rfl
  have F2 : FunD K "goes_ahead" "goes_ahead" (defArgs s_goes_ahead) (defBody s_goes_ahead) (defScope s_goes_ahead) [] [] f2 _ := ⟨⟨oc2, od2, .none, _, dc2, pm2, an2, cd2, ct2, sl2, rfl, l2, c2, .inl ⟨rfl, rfl⟩, .inl rfl⟩, k2_⟩
  have b2 : Binds K _ ["zone", "other"] [] := F2.bindsN fun _ _ _ _ _ _ us hl => match us, hl with | [_, _], _ => rfl
  have F3 : FunD K "is_open" "is_open" (defArgs s_is_open) (defBody s_is_open) (defScope s_is_open) [] [] f3 _ := ⟨⟨oc3, od3, .none, _, dc3, pm3, an3, cd3, ct3, sl3, rfl, l3, c3, .inl ⟨rfl, rfl⟩, .inl rfl⟩, k3_⟩
  have b3 : Binds K _ ["zone"] [] := F3.bindsN fun _ _ _ _ _ _ us hl => match us, hl with | [_], _ => rfl
  have F4 : FunD K "clash" "clash" (defArgs s_clash) (defBody s_clash) (defScope s_clash) [] [] f4 _ := ⟨⟨oc4, od4, .none, _, dc4, pm4, an4, cd4, ct4, sl4, rfl, l4, c4, .inl ⟨rfl, rfl⟩, .inl rfl⟩, k4_⟩
  have b4 : Binds K _ ["zone", "other"] [] := F4.bindsN fun _ _ _ _ _ _ us hl => match us, hl with | [_, _], _ => rfl
  have F5 : FunD K "earlies" "earlies" (defArgs s_earlies) (defBody s_earlies) (defScope s_earlies) [] [] f5 _ := ⟨⟨oc5, od5, .none, _, dc5, pm5, an5, cd5, ct5, sl5, rfl, l5, c5, .inl ⟨rfl, rfl⟩, .inl rfl⟩, k5_⟩
  have b5 : Binds K _ ["history"] [] := F5.bindsN fun _ _ _ _ _ _ us hl => match us, hl with | [_], _ => rfl
  have F6 : FunD K "clashes" "clashes" (defArgs s_clashes) (defBody s_clashes) (defScope s_clashes) [] [] f6 _ := ⟨⟨oc6, od6, .none, _, dc6, pm6, an6, cd6, ct6, sl6, rfl, l6, c6, .inl ⟨rfl, rfl⟩, .inl rfl⟩, k6_⟩
  have b6 : Binds K _ ["history"] [] := F6.bindsN fun _ _ _ _ _ _ us hl => match us, hl with | [_], _ => rfl
  have F7 : FunD K "next_value" "next_value" (defArgs s_next_value) (defBody s_next_value) (defScope s_next_value) [] [] f7 _ := ⟨⟨oc7, od7, .none, _, dc7, pm7, an7, cd7, ct7, sl7, rfl, l7, c7, .inl ⟨rfl, rfl⟩, .inl rfl⟩, k7_⟩
  have b7 : Binds K _ ["found", "left"] [] := F7.bindsN fun _ _ _ _ _ _ us hl => match us, hl with | [_, _], _ => rfl
  have F8 : FunD K "ordered" "ordered" (defArgs s_ordered) (defBody s_ordered) (defScope s_ordered) [] [] f8 _ := ⟨⟨oc8, od8, .none, _, dc8, pm8, an8, cd8, ct8, sl8, rfl, l8, c8, .inl ⟨rfl, rfl⟩, .inl rfl⟩, k8_⟩
  have b8 : Binds K _ ["history"] [] := F8.bindsN fun _ _ _ _ _ _ us hl => match us, hl with | [_], _ => rfl
  have F9 : FunD K "is_order" "is_order" (defArgs s_is_order) (defBody s_is_order) (defScope s_is_order) [] [] f9 _ := ⟨⟨oc9, od9, .none, _, dc9, pm9, an9, cd9, ct9, sl9, rfl, l9, c9, .inl ⟨rfl, rfl⟩, .inl rfl⟩, k9_⟩
  have b9 : Binds K _ ["history", "tasks"] [] := F9.bindsN fun _ _ _ _ _ _ us hl => match us, hl with | [_, _], _ => rfl
  have F10 : FunD K "_law_bag" "_law_bag" (defArgs s_law_bag) (defBody s_law_bag) (defScope s_law_bag) [] [] f10 _ := ⟨⟨oc10, od10, .none, _, dc10, pm10, an10, cd10, ct10, sl10, rfl, l10, c10, .inl ⟨rfl, rfl⟩, .inl rfl⟩, k10_⟩
  have b10 : Binds K _ ["script", "k"] [] := F10.bindsN fun _ _ _ _ _ _ us hl => match us, hl with | [_, _], _ => rfl
  have F11 : FunD K "_law_take" "_law_take" (defArgs s_law_take) (defBody s_law_take) (defScope s_law_take) [] [] f11 _ := ⟨⟨oc11, od11, .none, _, dc11, pm11, an11, cd11, ct11, sl11, rfl, l11, c11, .inl ⟨rfl, rfl⟩, .inl rfl⟩, k11_⟩
  have b11 : Binds K _ ["bag", "many"] [] := F11.bindsN fun _ _ _ _ _ _ us hl => match us, hl with | [_, _], _ => rfl
  have F12 : FunD K "_law_history" "_law_history" (defArgs s_law_history) (defBody s_law_history) (defScope s_law_history) [] [] f12 _ := ⟨⟨oc12, od12, .none, _, dc12, pm12, an12, cd12, ct12, sl12, rfl, l12, c12, .inl ⟨rfl, rfl⟩, .inl rfl⟩, k12_⟩
  have b12 : Binds K _ ["bag", "most"] [] := F12.bindsN fun _ _ _ _ _ _ us hl => match us, hl with | [_, _], _ => rfl
  have F13 : FunD K "_law_order_right" "_law_order_right" (defArgs s_law_order_right) (defBody s_law_order_right) (defScope s_law_order_right) [] [] f13 _ := ⟨⟨oc13, od13, .none, _, dc13, pm13, an13, cd13, ct13, sl13, rfl, l13, c13, .inl ⟨rfl, rfl⟩, .inl rfl⟩, k13_⟩
  have b13 : Binds K _ ["history", "tasks"] [] := F13.bindsN fun _ _ _ _ _ _ us hl => match us, hl with | [_, _], _ => rfl
  have F14 : FunD K "law" "law" (defArgs s_law) (defBody s_law) (defScope s_law) [] [] fa _ := ⟨⟨oc14, od14, .none, _, dc14, pm14, an14, (.ref cc), ct14, sl14, rfl, l14, c14, .inl ⟨rfl, rfl⟩, .inl rfl⟩, k14_⟩
  have b14 : Binds K _ ["script"] [] := F14.bindsN fun _ _ _ _ _ _ us hl => match us, hl with | [_], _ => rfl
  let T : Txt K mg := {
    f_zones := f1,
    d_zones := _,
    F_zones := F1,
    g_zones := PySem.W.mg_of X G a1,
    b_zones := b1,
    f_goes_ahead := f2,
    d_goes_ahead := _,
    F_goes_ahead := F2,
    g_goes_ahead := PySem.W.mg_of X G a2,
    b_goes_ahead := b2,
    f_is_open := f3,
    d_is_open := _,
    F_is_open := F3,
    g_is_open := PySem.W.mg_of X G a3,
    b_is_open := b3,
    f_clash := f4,
    d_clash := _,
    F_clash := F4,
    g_clash := PySem.W.mg_of X G a4,
    b_clash := b4,
    f_earlies := f5,
    d_earlies := _,
    F_earlies := F5,
    g_earlies := PySem.W.mg_of X G a5,
    b_earlies := b5,
    f_clashes := f6,
    d_clashes := _,
    F_clashes := F6,
    g_clashes := PySem.W.mg_of X G a6,
    b_clashes := b6,
    f_next_value := f7,
    d_next_value := _,
    F_next_value := F7,
    g_next_value := PySem.W.mg_of X G a7,
    b_next_value := b7,
    f_ordered := f8,
    d_ordered := _,
    F_ordered := F8,
    g_ordered := PySem.W.mg_of X G a8,
    b_ordered := b8,
    f_is_order := f9,
    d_is_order := _,
    F_is_order := F9,
    g_is_order := PySem.W.mg_of X G a9,
    b_is_order := b9,
    f_law_bag := f10,
    d_law_bag := _,
    F_law_bag := F10,
    g__law_bag := PySem.W.mg_of X G a10,
    b_law_bag := b10,
    f_law_take := f11,
    d_law_take := _,
    F_law_take := F11,
    g__law_take := PySem.W.mg_of X G a11,
    b_law_take := b11,
    f_law_history := f12,
    d_law_history := _,
    F_law_history := F12,
    g__law_history := PySem.W.mg_of X G a12,
    b_law_history := b12,
    f_law_order_right := f13,
    d_law_order_right := _,
    F_law_order_right := F13,
    g__law_order_right := PySem.W.mg_of X G a13,
    b_law_order_right := b13,
    f_law := fa,
    d_law := _,
    F_law := F14,
    g_law := PySem.W.mg_of X G a14,
    b_law := b14,
    z_len := PySem.W.mg_none_of X G z_len,
    z_abs := PySem.W.mg_none_of X G z_abs,
    z_list := PySem.W.mg_none_of X G z_list,
    z_range := PySem.W.mg_none_of X G z_range,
    z_max := PySem.W.mg_none_of X G z_max,
    z_min := PySem.W.mg_none_of X G z_min,
    z_any := PySem.W.mg_none_of X G z_any,
    z_sorted := PySem.W.mg_none_of X G z_sorted,
    z_isinstance := PySem.W.mg_none_of X G z_isinstance,
    z_bool := PySem.W.mg_none_of X G z_bool }
  exact ⟨_, [(cc, P0)], spD K (cmT P0) 1 F_law, fun p hp => by rw [List.mem_singleton.mp hp]; exact hT0, fun p hp => by rw [List.mem_singleton.mp hp]; exact nt0, fun p hp => by rw [List.mem_singleton.mp hp]; exact PySem.W.codeHd_of_K X hcd0,
    fun s v => F14.bindsA (ps := ["script"]) (fun _ _ _ _ _ _ us hl => match us, hl with | [_], _ => rfl) s [v] rfl, fun H a ns hl _ hH hS => spD_startT (hH (cc, P0) (List.mem_singleton_self _)) hS (main ns hl), fun base _ _ TBs => ok_law T (TBs (cc, P0) (List.mem_singleton_self _)) rfl⟩
end My
open PySem PySem.W PyProof.Rows
set_option maxHeartbeats 0 in
theorem PySem.Challenge.cw_pagelend_k47_what_is_an_order_holds : PySem.Challenge.rw_pagelend_k47_what_is_an_order.Holds := by
  w_on; o_law; k_head; (case hw => w_witness2)
  k_fill
  refine LamX.walk_ofTs (l := PySem.Challenge.rw_pagelend_k47_what_is_an_order) (n := 63) (k := 5) (x := "script") (CX := fun w => L2N.CX PySem.Challenge.rw_pagelend_k47_what_is_an_order.prog w) rfl (by decide) rfl ⟨rfl, by decide, by decide⟩ (fun w h Y => PySem.W.km_in_of Y) ?F (fun _ _ _ _ _ h => by
    obtain ⟨_, _, _, _, _, _, _, _, _, _, _, _, z⟩ := h
    exact z.elim)
  case F =>
    intro w mg fa h Y KX G hmg
    refine' My.all_mk KX G hmg ?a1 ?l1 ?c1 ?k1_ ?a2 ?l2 ?c2 ?k2_ ?a3 ?l3 ?c3 ?k3_ ?a4 ?l4 ?c4 ?k4_ ?a5 ?l5 ?c5 ?k5_ ?a6 ?l6 ?c6 ?k6_ ?a7 ?l7 ?c7 ?k7_ ?a8 ?l8 ?c8 ?k8_ ?a9 ?l9 ?c9 ?k9_ ?a10 ?l10 ?c10 ?k10_ ?a11 ?l11 ?c11 ?k11_ ?a12 ?l12 ?c12 ?k12_ ?a13 ?l13 ?c13 ?k13_ ?a14 ?l14 ?c14 ?k14_ ?z_len ?z_abs ?z_list ?z_range ?z_max ?z_min ?z_any ?z_sorted ?z_isinstance ?z_bool ?hcd0 ?nt0 ?hT0
    (case a1 => k_is)
    (case l1 => k_is)
    (case c1 => k_is)
    (case k1_ => k_is)
    (case a2 => k_is)
    (case l2 => k_is)
    (case c2 => k_is)
    (case k2_ => k_is)
    (case a3 => k_is)
    (case l3 => k_is)
    (case c3 => k_is)
    (case k3_ => k_is)
    (case a4 => k_is)
    (case l4 => k_is)
    (case c4 => k_is)
    (case k4_ => k_is)
    (case a5 => k_is)
    (case l5 => k_is)
    (case c5 => k_is)
    (case k5_ => k_is)
    (case a6 => k_is)
    (case l6 => k_is)
    (case c6 => k_is)
    (case k6_ => k_is)
    (case a7 => k_is)
    (case l7 => k_is)
    (case c7 => k_is)
    (case k7_ => k_is)
    (case a8 => k_is)
    (case l8 => k_is)
    (case c8 => k_is)
    (case k8_ => k_is)
    (case a9 => k_is)
    (case l9 => k_is)
    (case c9 => k_is)
    (case k9_ => k_is)
    (case a10 => k_is)
    (case l10 => k_is)
    (case c10 => k_is)
    (case k10_ => k_is)
    (case a11 => k_is)
    (case l11 => k_is)
    (case c11 => k_is)
    (case k11_ => k_is)
    (case a12 => k_is)
    (case l12 => k_is)
    (case c12 => k_is)
    (case k12_ => k_is)
    (case a13 => k_is)
    (case l13 => k_is)
    (case c13 => k_is)
    (case k13_ => k_is)
    (case a14 => k_is)
    (case l14 => k_is)
    (case c14 => k_is)
    (case k14_ => k_is)
    (case z_len => k_is)
    (case z_abs => k_is)
    (case z_list => k_is)
    (case z_range => k_is)
    (case z_max => k_is)
    (case z_min => k_is)
    (case z_any => k_is)
    (case z_sorted => k_is)
    (case z_isinstance => k_is)
    (case z_bool => k_is)
    (case hT0 => exact PySem.W.km_tabs_of Y _ List.mem_cons_self)
    (case hcd0 => kernel_rfl)
    (case nt0 => kernel_rfl)


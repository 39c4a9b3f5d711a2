import PyProof.Rows.All
import Wide.All
import OpenK.AllK
import Wide.FinOn
import HandS.ForMost
import HandS.Defaults
import HandS.IsInst
import HandS.Wide
import HandS.ForExc
import HandS.Flow
import HandS.TupAny
import HandS.Zip
import HandS.DictComp
import HandS.Iter
import HandS.More
import PySem.Challenge.RW_pagelend_k45_whole_logs_made_longer
set_option Elab.async false
set_option linter.all false
set_option maxRecDepth 100000
set_option maxHeartbeats 4000000
namespace My
open PySem PySem.Spec PyProof.Rows L2
/-! ### data: values as trees, what is changed as numbered objects of a store (own work) -/
inductive D where
  | non | bl (b : Bool) | int (i : Int) | str (x : Str) | tup (xs : List D) | lst (xs : List D) | loc (n : Nat) | ty (n : String) | scr (xs : List D)
instance : Inhabited D := ⟨.non⟩
inductive O where
  | gone | lst (xs : List D) | frz (xs : List D) | dK (kvs : List (Key × D)) | dT (kvs : List (List Key × D)) | ins (c : String) (fs : List (Str × D))
abbrev Store := List O
structure Err where
  cls : String
  fs : List (Str × D)
inductive R (α : Type) where
  | ok (a : α) (S : Store) | err (x : Err) (S : Store) | no
def R.bind {α β : Type} : R α → (α → Store → R β) → R β
  | .ok a S, f => f a S
  | .err x S, _ => .err x S
  | .no, _ => .no
def R.calm {α : Type} : R α → Prop
  | .err _ _ => False
  | _ => True
theorem R.bind_ok {α β : Type} {a : α} {S : Store} {f : α → Store → R β} : (R.ok a S).bind f = f a S := rfl
theorem R.bind_err {α β : Type} {x : Err} {S : Store} {f : α → Store → R β} : (R.err x S).bind f = .err x S := rfl
theorem R.bind_no {α β : Type} {f : α → Store → R β} : (R.no : R α).bind f = .no := rfl
abbrev DSt := List (Option D)
abbrev DEv := DSt → Store → R D
abbrev DAv := DSt → Store → R (List D)
abbrev DTv := DSt → Store → R Bool

/-! ### how data stand in the abstract heap -/
structure Cfg where
  φ : List Addr
  S : Store
  H : Hp
structure Gam where
  K : PySem.W.Frag
  cm : String → Addr → Prop
  A : Addr → Prop
def Live (c : Cfg) (a : Addr) : Prop := ∃ (n : Nat) (o : O), c.φ[n]? = some a ∧ c.S[n]? = some o ∧ o ≠ O.gone
def Own (G : Gam) (c : Cfg) (a : Addr) : Prop := G.A a ∨ Live c a
mutual
def Rp (G : Gam) (c : Cfg) : D → V → Prop
  | .non, v => v = .non
  | .bl b, v => v = .bl b
  | .int i, v => v = .int i
  | .str x, v => v = .str x ∧ PySem.PyData.strOk x = true ∧ x.length ≤ sizeLine
  | .tup xs, v => ∃ a vs, v = .ref a ∧ ¬ Own G c a ∧ c.H a = some (.tup vs) ∧ RpA G c xs vs
  | .lst xs, v => ∃ a vs, v = .ref a ∧ ¬ Own G c a ∧ c.H a = some (.lst vs) ∧ RpA G c xs vs
  | .loc n, v => ∃ a, v = .ref a ∧ c.φ[n]? = some a
  | .ty n, v => v = .ty n
  | .scr xs, v => ∃ a vs, v = .ref a ∧ ((¬ Own G c a ∧ ∃ o, c.H a = some (.frz o (.lst vs))) ∨ SqL G.K (fun _ => none) a vs) ∧ RpA G c xs vs
def RpA (G : Gam) (c : Cfg) : List D → List V → Prop
  | [], vs => vs = []
  | x :: xs, vs => ∃ v r, vs = v :: r ∧ Rp G c x v ∧ RpA G c xs r
end
/-- entries of a dict, attributes -/
def RpK {κ : Type} (G : Gam) (c : Cfg) : List (κ × D) → List (κ × V) → Prop := Paired fun p q => p.1 = q.1 ∧ Rp G c p.2 q.2
def OOk (G : Gam) (c : Cfg) (a : Addr) : O → Prop
  | .gone => True
  | .lst xs => ∃ vs, c.H a = some (.lst vs) ∧ RpA G c xs vs
  | .frz xs => ∃ o vs, c.H a = some (.frz o (.lst vs)) ∧ RpA G c xs vs
  | .dK kvs => ∃ kws, c.H a = some (.dK kws) ∧ RpK G c kvs kws
  | .dT kvs => ∃ kws, c.H a = some (.dT kws) ∧ RpK G c kvs kws
  | .ins k fs => ∃ C dx gs, c.H a = some (.ins C dx gs) ∧ G.cm k C ∧ RpK G c fs gs
structure RelC (G : Gam) (c : Cfg) : Prop where
  len : c.φ.length = c.S.length
  nod : c.φ.Nodup
  obj : ∀ (n : Nat) (a : Addr) (o : O), c.φ[n]? = some a → c.S[n]? = some o → OOk G c a o
  apart : ∀ a, Live c a → ¬ G.A a
  dom : ∀ (n : Nat) (a : Addr), c.φ[n]? = some a → ∃ o, c.H a = some o
  domA : ∀ a, G.A a → ∃ o, c.H a = some o
structure Ext (c c' : Cfg) : Prop where
  pre : ∀ (n : Nat) (a : Addr), c.φ[n]? = some a → c'.φ[n]? = some a
  gone : ∀ (n : Nat), c.S[n]? = some .gone → c'.S[n]? = some .gone
  keep : ∀ a o, ¬ Live c a → c.H a = some o → c'.H a = some o ∧ ¬ Live c' a
  new : ∀ (n : Nat) (a : Addr), c'.φ[n]? = some a → c.φ[n]? = some a ∨ c.H a = none
  dom : ∀ a o, c.H a = some o → ∃ o', c'.H a = some o'
theorem Ext.refl (c : Cfg) : Ext c c := ⟨fun _ _ h => h, fun _ h => h, fun _ _ n h => ⟨h, n⟩, fun _ _ h => .inl h, fun _ o h => ⟨o, h⟩⟩
theorem Ext.trans {a b c : Cfg} (x : Ext a b) (y : Ext b c) : Ext a c :=
  ⟨fun n a h => y.pre n a (x.pre n a h), fun n h => y.gone n (x.gone n h), fun a o n h => let ⟨h1, n1⟩ := x.keep a o n h; y.keep a o n1 h1, fun n u h => (y.new n u h).elim (fun h => x.new n u h) fun h => .inr (by
    cases q : a.H u with
    | none => rfl
    | some o =>
      obtain ⟨o', q'⟩ := x.dom u o q
      rw [h] at q'
      cases q'), fun u o h => let ⟨o1, h1⟩ := x.dom u o h; y.dom u o1 h1⟩
theorem Own.not {G : Gam} {c : Cfg} {a : Addr} (h : ¬ Own G c a) : ¬ Live c a := fun l => h (.inr l)
theorem Own.keep {G : Gam} {c c' : Cfg} {a : Addr} {o : HO} (x : Ext c c') (n : ¬ Own G c a) (h : c.H a = some o) : c'.H a = some o ∧ ¬ Own G c' a :=
  let ⟨h1, n1⟩ := x.keep a o (Own.not n) h
  ⟨h1, fun z => z.elim (fun z => n (.inl z)) n1⟩
mutual
theorem Rp.mono {G : Gam} {c c' : Cfg} (x : Ext c c') : ∀ (d : D) (v : V), Rp G c d v → Rp G c' d v
  | .non, _, h => h
  | .bl _, _, h => h
  | .int _, _, h => h
  | .str _, _, h => h
  | .tup xs, _, ⟨a, vs, e, n, h, r⟩ => let ⟨h1, n1⟩ := Own.keep x n h; ⟨a, vs, e, n1, h1, RpA.mono x xs vs r⟩
  | .lst xs, _, ⟨a, vs, e, n, h, r⟩ => let ⟨h1, n1⟩ := Own.keep x n h; ⟨a, vs, e, n1, h1, RpA.mono x xs vs r⟩
  | .loc n, _, ⟨a, e, h⟩ => ⟨a, e, x.pre n a h⟩
  | .ty _, _, h => h
  | .scr xs, _, ⟨a, vs, e, q, r⟩ => ⟨a, vs, e, q.elim (fun ⟨n, o, h⟩ => let ⟨h1, n1⟩ := Own.keep x n h; .inl ⟨n1, o, h1⟩) .inr, RpA.mono x xs vs r⟩
theorem RpA.mono {G : Gam} {c c' : Cfg} (x : Ext c c') : ∀ (ds : List D) (vs : List V), RpA G c ds vs → RpA G c' ds vs
  | [], _, h => h
  | d :: ds, _, ⟨v, r, e, h, t⟩ => ⟨v, r, e, Rp.mono x d v h, RpA.mono x ds r t⟩
end
mutual
/-- less is kept apart -/
theorem Rp.less {G : Gam} {c : Cfg} {B : Addr → Prop} (x : ∀ a, B a → G.A a) : ∀ (d : D) (v : V), Rp G c d v → Rp ⟨G.K, G.cm, B⟩ c d v
  | .non, _, h => h
  | .bl _, _, h => h
  | .int _, _, h => h
  | .str _, _, h => h
  | .tup xs, _, ⟨a, vs, e, n, h, r⟩ => ⟨a, vs, e, fun z => n (z.elim (fun z => .inl (x a z)) .inr), h, RpA.less x xs vs r⟩
  | .lst xs, _, ⟨a, vs, e, n, h, r⟩ => ⟨a, vs, e, fun z => n (z.elim (fun z => .inl (x a z)) .inr), h, RpA.less x xs vs r⟩
  | .loc n, _, h => h
  | .ty _, _, h => h
  | .scr xs, _, ⟨a, vs, e, q, r⟩ => ⟨a, vs, e, q.elim (fun ⟨n, o, h⟩ => .inl ⟨fun z => n (z.elim (fun z => .inl (x a z)) .inr), o, h⟩) .inr, RpA.less x xs vs r⟩
theorem RpA.less {G : Gam} {c : Cfg} {B : Addr → Prop} (x : ∀ a, B a → G.A a) : ∀ (ds : List D) (vs : List V), RpA G c ds vs → RpA ⟨G.K, G.cm, B⟩ c ds vs
  | [], _, h => h
  | d :: ds, _, ⟨v, r, e, h, t⟩ => ⟨v, r, e, Rp.less x d v h, RpA.less x ds r t⟩
end
mutual
/-- p is new: nothing leans on it -/
theorem Rp.more {G : Gam} {c : Cfg} {p : Addr} (hp : c.H p = none) : ∀ (d : D) (v : V), Rp G c d v → Rp ⟨G.K, G.cm, fun a => G.A a ∨ a = p⟩ c d v
  | .non, _, h => h
  | .bl _, _, h => h
  | .int _, _, h => h
  | .str _, _, h => h
  | .tup xs, _, ⟨a, vs, e, n, h, r⟩ => ⟨a, vs, e, fun z => z.elim (fun z => z.elim (fun z => n (.inl z)) fun z => by rw [z, hp] at h; cases h) fun z => n (.inr z), h, RpA.more hp xs vs r⟩
  | .lst xs, _, ⟨a, vs, e, n, h, r⟩ => ⟨a, vs, e, fun z => z.elim (fun z => z.elim (fun z => n (.inl z)) fun z => by rw [z, hp] at h; cases h) fun z => n (.inr z), h, RpA.more hp xs vs r⟩
  | .loc n, _, h => h
  | .ty _, _, h => h
  | .scr xs, _, ⟨a, vs, e, q, r⟩ => ⟨a, vs, e, q.elim (fun ⟨n, o, h⟩ => .inl ⟨fun z => z.elim (fun z => z.elim (fun z => n (.inl z)) fun z => by rw [z, hp] at h; cases h) fun z => n (.inr z), o, h⟩) .inr, RpA.more hp xs vs r⟩
theorem RpA.more {G : Gam} {c : Cfg} {p : Addr} (hp : c.H p = none) : ∀ (ds : List D) (vs : List V), RpA G c ds vs → RpA ⟨G.K, G.cm, fun a => G.A a ∨ a = p⟩ c ds vs
  | [], _, h => h
  | d :: ds, _, ⟨v, r, e, h, t⟩ => ⟨v, r, e, Rp.more hp d v h, RpA.more hp ds r t⟩
end
theorem RpK.map {κ : Type} {G G' : Gam} {c c' : Cfg} (f : ∀ d v, Rp G c d v → Rp G' c' d v) {xs : List (κ × D)} {ys : List (κ × V)} (h : RpK G c xs ys) : RpK G' c' xs ys := by
  unfold RpK at h ⊢
  induction h with
  | nil => exact .nil
  | cons p _ ih => exact .cons ⟨p.1, f _ _ p.2⟩ ih
theorem OOk.map {G : Gam} (G' : Gam) {c : Cfg} (c' : Cfg) {a : Addr} (hc : G'.cm = G.cm) (hH : c'.H a = c.H a) (f : ∀ d v, Rp G c d v → Rp G' c' d v) (fA : ∀ d v, RpA G c d v → RpA G' c' d v) : ∀ {o : O}, OOk G c a o → OOk G' c' a o
  | .gone, _ => True.intro
  | .lst _, ⟨vs, h, r⟩ => ⟨vs, hH ▸ h, fA _ _ r⟩
  | .frz _, ⟨o, vs, h, r⟩ => ⟨o, vs, hH ▸ h, fA _ _ r⟩
  | .dK _, ⟨k, h, r⟩ => ⟨k, hH ▸ h, r.map f⟩
  | .dT _, ⟨k, h, r⟩ => ⟨k, hH ▸ h, r.map f⟩
  | .ins _ _, ⟨C, dx, gs, h, m, r⟩ => ⟨C, dx, gs, hH ▸ h, by rw [hc]; exact m, r.map f⟩
theorem live_ne {G : Gam} {c : Cfg} {p a : Addr} (r : RelC G c) (hp : c.H p = none) (l : Live c a) : a ≠ p := fun e => by
  obtain ⟨n, o, h, _⟩ := l
  obtain ⟨u, q⟩ := r.dom n a h
  rw [e, hp] at q
  cases q
theorem phi_ne {G : Gam} {c : Cfg} {p a : Addr} {n : Nat} (r : RelC G c) (hp : c.H p = none) (h : c.φ[n]? = some a) : a ≠ p := fun e => by
  obtain ⟨u, q⟩ := r.dom n a h
  rw [e, hp] at q
  cases q
/-- something new is laid beside the store -/
theorem dom_upd {H : Hp} {p a : Addr} {u o : HO} (h : H a = some o) : ∃ o', upd H p u a = some o' := by
  by_cases e : a = p
  · exact ⟨u, by rw [e]; exact upd_same⟩
  · exact ⟨o, by rw [upd_ne e]; exact h⟩
theorem Ext.lay {G : Gam} {c : Cfg} (r : RelC G c) {p : Addr} {o : HO} (hp : c.H p = none) : Ext c ⟨c.φ, c.S, upd c.H p o⟩ :=
  ⟨fun _ _ h => h, fun _ h => h, fun a u n h => ⟨by show upd c.H p o a = _; rw [upd_ne (ne_of_none h hp)]; exact h, n⟩, fun _ _ h => .inl h, fun _ _ h => dom_upd h⟩
theorem RelC.lay {G : Gam} {c : Cfg} (r : RelC G c) {p : Addr} {o : HO} (hp : c.H p = none) : RelC G ⟨c.φ, c.S, upd c.H p o⟩ := by
  have x : Ext c ⟨c.φ, c.S, upd c.H p o⟩ := Ext.lay r hp
  refine ⟨r.len, r.nod, fun n a u h1 h2 => ?_, r.apart, fun n a h => ?_, fun a h => ?_⟩
  · have ne := phi_ne r hp h1
    exact (r.obj n a u h1 h2).map _ _ rfl (show upd c.H p o a = c.H a from upd_ne ne) (Rp.mono x) (RpA.mono x)
  · obtain ⟨u, q⟩ := r.dom n a h
    exact ⟨u, by show upd c.H p o a = _; rw [upd_ne (phi_ne r hp h)]; exact q⟩
  · obtain ⟨u, q⟩ := r.domA a h
    exact ⟨u, by show upd c.H p o a = _; rw [upd_ne (ne_of_none q hp)]; exact q⟩
theorem own_new {G : Gam} {c : Cfg} (r : RelC G c) {p : Addr} {o : HO} (hp : c.H p = none) : ¬ Own G ⟨c.φ, c.S, upd c.H p o⟩ p := fun z => by
  rcases z with z | ⟨n, u, h, _⟩
  · obtain ⟨u, q⟩ := r.domA p z
    rw [hp] at q
    cases q
  · exact phi_ne r hp h rfl
/-- a new object is laid in the store -/
theorem Ext.push {G : Gam} {c : Cfg} (r : RelC G c) {p : Addr} {u : HO} {o : O} (hp : c.H p = none) : Ext c ⟨c.φ ++ [p], c.S ++ [o], upd c.H p u⟩ := by
  refine ⟨fun n a h => ?_, fun n h => ?_, fun a w n h => ⟨by show upd c.H p u a = _; rw [upd_ne (ne_of_none h hp)]; exact h, fun l => ?_⟩, fun n a h => ?_, fun _ _ h => dom_upd h⟩
  · show (c.φ ++ [p])[n]? = some a
    rw [List.getElem?_append_left (List.getElem?_eq_some_iff.mp h).1]
    exact h
  · show (c.S ++ [o])[n]? = _
    rw [List.getElem?_append_left (List.getElem?_eq_some_iff.mp h).1]
    exact h
  · obtain ⟨m, z, h1, h2, h3⟩ := l
    have h1 : (c.φ ++ [p])[m]? = some a := h1
    have h2 : (c.S ++ [o])[m]? = some z := h2
    by_cases hm : m < c.φ.length
    · rw [List.getElem?_append_left hm] at h1
      rw [List.getElem?_append_left (r.len ▸ hm)] at h2
      exact n ⟨m, z, h1, h2, h3⟩
    · rw [List.getElem?_append_right (Nat.le_of_not_lt hm)] at h1
      have e : a = p := by
        have := List.mem_of_getElem? h1
        simpa using this
      rw [e, hp] at h
      cases h
  · have h : (c.φ ++ [p])[n]? = some a := h
    by_cases hm : n < c.φ.length
    · rw [List.getElem?_append_left hm] at h
      exact .inl h
    · rw [List.getElem?_append_right (Nat.le_of_not_lt hm)] at h
      have e : a = p := by
        have := List.mem_of_getElem? h
        simpa using this
      exact .inr (by rw [e]; exact hp)
theorem RelC.push {G : Gam} {c : Cfg} (r : RelC G c) {p : Addr} {u : HO} {o : O} (hp : c.H p = none) (hA : ¬ G.A p) (new : OOk G ⟨c.φ ++ [p], c.S ++ [o], upd c.H p u⟩ p o) : RelC G ⟨c.φ ++ [p], c.S ++ [o], upd c.H p u⟩ := by
  have x : Ext c ⟨c.φ ++ [p], c.S ++ [o], upd c.H p u⟩ := Ext.push r hp
  have old : ∀ {m a}, (c.φ ++ [p])[m]? = some a → (c.φ[m]? = some a ∧ m < c.φ.length) ∨ (a = p ∧ m = c.φ.length) := fun {m a} h1 => by
    by_cases hm : m < c.φ.length
    · rw [List.getElem?_append_left hm] at h1
      exact .inl ⟨h1, hm⟩
    · rw [List.getElem?_append_right (Nat.le_of_not_lt hm)] at h1
      have l := (List.getElem?_eq_some_iff.mp h1).1
      have e : a = p := by
        have := List.mem_of_getElem? h1
        simpa using this
      exact .inr ⟨e, by simp at l; omega⟩
  refine ⟨by simp [r.len], ?_, fun n a w h1 h2 => ?_, fun a l => ?_, fun n a h => ?_, fun a h => ?_⟩
  · show (c.φ ++ [p]).Nodup
    rw [List.nodup_append]
    refine ⟨r.nod, by simp, fun a ha b hb => ?_⟩
    obtain ⟨n, hn⟩ := List.getElem?_of_mem ha
    have hb : b = p := by simpa using hb
    rw [hb]
    exact phi_ne r hp hn
  · have h2 : (c.S ++ [o])[n]? = some w := h2
    rcases old h1 with ⟨q, hm⟩ | ⟨e, hm⟩
    · rw [List.getElem?_append_left (r.len ▸ hm)] at h2
      exact (r.obj n a w q h2).map _ _ rfl (show upd c.H p u a = c.H a from upd_ne (phi_ne r hp q)) (Rp.mono x) (RpA.mono x)
    · rw [hm, r.len] at h2
      have e2 : w = o := by simpa using h2.symm
      rw [e, e2]
      exact new
  · obtain ⟨m, z, h1, h2, h3⟩ := l
    have h2 : (c.S ++ [o])[m]? = some z := h2
    rcases old h1 with ⟨q, hm⟩ | ⟨e, hm⟩
    · rw [List.getElem?_append_left (r.len ▸ hm)] at h2
      exact r.apart a ⟨m, z, q, h2, h3⟩
    · rw [e]
      exact hA
  · rcases old h with ⟨q, _⟩ | ⟨e, _⟩
    · obtain ⟨w, hw⟩ := r.dom n a q
      exact ⟨w, by show upd c.H p u a = _; rw [upd_ne (phi_ne r hp q)]; exact hw⟩
    · exact ⟨u, by rw [e]; exact upd_same⟩
  · obtain ⟨w, q⟩ := r.domA a h
    exact ⟨w, by show upd c.H p u a = _; rw [upd_ne (ne_of_none q hp)]; exact q⟩
theorem notA_new {G : Gam} {c : Cfg} (r : RelC G c) {p : Addr} (hp : c.H p = none) : ¬ G.A p := fun z => by
  obtain ⟨u, q⟩ := r.domA p z
  rw [hp] at q
  cases q
/-- an object of the store is changed -/
theorem Ext.put {G : Gam} {c : Cfg} (r : RelC G c) {p : Addr} {n : Nat} {u : HO} {o o' : O} (hφ : c.φ[n]? = some p) (hS : c.S[n]? = some o) (ho : o ≠ .gone) : Ext c ⟨c.φ, c.S.set n o', upd c.H p u⟩ := by
  refine ⟨fun _ _ h => h, fun m h => ?_, fun a w l h => ?_, fun _ _ h => .inl h, fun _ _ h => dom_upd h⟩
  · show (c.S.set n o')[m]? = _
    by_cases e : n = m
    · rw [← e, hS] at h
      exact absurd (Option.some.inj h) ho
    · rw [List.getElem?_set_ne e]
      exact h
  · have ne : a ≠ p := fun e => l ⟨n, o, by rw [e]; exact hφ, hS, ho⟩
    refine ⟨by show upd c.H p u a = _; rw [upd_ne ne]; exact h, fun ⟨m, z, h1, h2, h3⟩ => ?_⟩
    have h2 : (c.S.set n o')[m]? = some z := h2
    by_cases e : n = m
    · rw [← e] at h1
      have h1 : c.φ[n]? = some a := h1
      rw [hφ] at h1
      exact ne (Option.some.inj h1).symm
    · rw [List.getElem?_set_ne e] at h2
      exact l ⟨m, z, h1, h2, h3⟩
theorem phi_inj {G : Gam} {c : Cfg} (r : RelC G c) {a : Addr} {m n : Nat} (h : c.φ[m]? = some a) (h' : c.φ[n]? = some a) : m = n := by
  obtain ⟨l1, e1⟩ := List.getElem?_eq_some_iff.mp h
  obtain ⟨l2, e2⟩ := List.getElem?_eq_some_iff.mp h'
  exact (List.getElem_inj r.nod).mp (e1.trans e2.symm)
theorem RelC.put {G : Gam} {c : Cfg} (r : RelC G c) {p : Addr} {n : Nat} {u : HO} {o o' : O} (hφ : c.φ[n]? = some p) (hS : c.S[n]? = some o) (ho : o ≠ .gone) (new : OOk G ⟨c.φ, c.S.set n o', upd c.H p u⟩ p o') : RelC G ⟨c.φ, c.S.set n o', upd c.H p u⟩ := by
  have x : Ext c ⟨c.φ, c.S.set n o', upd c.H p u⟩ := Ext.put r hφ hS ho
  have ln : n < c.S.length := (List.getElem?_eq_some_iff.mp hS).1
  refine ⟨by simp [r.len], r.nod, fun m a w h1 h2 => ?_, fun a l => ?_, fun m a h => ?_, fun a h => ?_⟩
  · have h1 : c.φ[m]? = some a := h1
    have h2 : (c.S.set n o')[m]? = some w := h2
    by_cases e : n = m
    · rw [← e, List.getElem?_set_self ln] at h2
      rw [← e, hφ] at h1
      cases h1
      cases h2
      exact new
    · rw [List.getElem?_set_ne e] at h2
      have ne : a ≠ p := fun z => e (phi_inj r hφ (by rw [← z]; exact h1))
      exact (r.obj m a w h1 h2).map _ _ rfl (show upd c.H p u a = c.H a from upd_ne ne) (Rp.mono x) (RpA.mono x)
  · obtain ⟨m, z, h1, h2, h3⟩ := l
    have h2 : (c.S.set n o')[m]? = some z := h2
    by_cases e : n = m
    · rw [← e] at h1
      exact r.apart a ⟨n, o, h1, hS, ho⟩
    · rw [List.getElem?_set_ne e] at h2
      exact r.apart a ⟨m, z, h1, h2, h3⟩
  · by_cases e : a = p
    · exact ⟨u, by rw [e]; exact upd_same⟩
    · obtain ⟨w, q⟩ := r.dom m a h
      exact ⟨w, by show upd c.H p u a = _; rw [upd_ne e]; exact q⟩
  · by_cases e : a = p
    · exact ⟨u, by rw [e]; exact upd_same⟩
    · obtain ⟨w, q⟩ := r.domA a h
      exact ⟨w, by show upd c.H p u a = _; rw [upd_ne e]; exact q⟩
/-- an object is given up: from now on it is data -/
theorem Ext.drop {c : Cfg} {n : Nat} : Ext c ⟨c.φ, c.S.set n .gone, c.H⟩ := by
  refine ⟨fun _ _ h => h, fun m h => ?_, fun a w l h => ⟨h, fun ⟨m, z, h1, h2, h3⟩ => ?_⟩, fun _ _ h => .inl h, fun _ o h => ⟨o, h⟩⟩
  · show (c.S.set n O.gone)[m]? = _
    by_cases e : n = m
    · rw [← e] at h ⊢
      rw [List.getElem?_set_self (List.getElem?_eq_some_iff.mp h).1]
    · rw [List.getElem?_set_ne e]
      exact h
  · have h2 : (c.S.set n O.gone)[m]? = some z := h2
    by_cases e : n = m
    · rw [← e] at h2
      by_cases ln : n < c.S.length
      · rw [List.getElem?_set_self ln] at h2
        exact h3 (Option.some.inj h2).symm
      · rw [List.getElem?_eq_none (by simp; omega)] at h2
        cases h2
    · rw [List.getElem?_set_ne e] at h2
      exact l ⟨m, z, h1, h2, h3⟩
theorem RelC.drop {G : Gam} {c : Cfg} (r : RelC G c) {n : Nat} : RelC G ⟨c.φ, c.S.set n .gone, c.H⟩ := by
  have x : Ext c ⟨c.φ, c.S.set n .gone, c.H⟩ := Ext.drop
  have lv : ∀ {a}, Live ⟨c.φ, c.S.set n .gone, c.H⟩ a → Live c a := fun {a} ⟨m, z, h1, h2, h3⟩ => by
    have h2 : (c.S.set n O.gone)[m]? = some z := h2
    by_cases e : n = m
    · rw [← e] at h2
      by_cases ln : n < c.S.length
      · rw [List.getElem?_set_self ln] at h2
        exact absurd (Option.some.inj h2).symm h3
      · rw [List.getElem?_eq_none (by simp; omega)] at h2
        cases h2
    · rw [List.getElem?_set_ne e] at h2
      exact ⟨m, z, h1, h2, h3⟩
  refine ⟨by simp [r.len], r.nod, fun m a w h1 h2 => ?_, fun a l => r.apart a (lv l), r.dom, r.domA⟩
  have h1 : c.φ[m]? = some a := h1
  have h2 : (c.S.set n O.gone)[m]? = some w := h2
  by_cases e : n = m
  · rw [← e] at h2
    by_cases ln : n < c.S.length
    · rw [List.getElem?_set_self ln] at h2
      cases h2
      exact True.intro
    · rw [List.getElem?_eq_none (by simp; omega)] at h2
      cases h2
  · rw [List.getElem?_set_ne e] at h2
    exact OOk.map (G := G) (c := c) G ⟨c.φ, c.S.set n .gone, c.H⟩ rfl rfl (Rp.mono x) (RpA.mono x) (r.obj m a w h1 h2)
/-- p, new, is kept apart for a while -/
theorem RelC.more {G : Gam} {c : Cfg} (r : RelC G c) {p : Addr} {o : HO} (hp : c.H p = none) : RelC ⟨G.K, G.cm, fun a => G.A a ∨ a = p⟩ ⟨c.φ, c.S, upd c.H p o⟩ := by
  have x : Ext c ⟨c.φ, c.S, upd c.H p o⟩ := Ext.lay r hp
  refine ⟨r.len, r.nod, fun n a u h1 h2 => ?_, fun a l z => ?_, fun n a h => ?_, fun a h => ?_⟩
  · have ne := phi_ne r hp h1
    exact (r.obj n a u h1 h2).map (G := G) ⟨G.K, G.cm, fun a => G.A a ∨ a = p⟩ ⟨c.φ, c.S, upd c.H p o⟩ rfl (show upd c.H p o a = c.H a from upd_ne ne) (fun d v q => Rp.mono x d v (Rp.more hp d v q)) (fun d v q => RpA.mono x d v (RpA.more hp d v q))
  · rcases z with z | z
    · exact r.apart a l z
    · obtain ⟨n, u, h, _⟩ := l
      exact phi_ne r hp h z
  · obtain ⟨u, q⟩ := r.dom n a h
    exact ⟨u, by show upd c.H p o a = _; rw [upd_ne (phi_ne r hp h)]; exact q⟩
  · rcases h with h | h
    · obtain ⟨u, q⟩ := r.domA a h
      exact ⟨u, by show upd c.H p o a = _; rw [upd_ne (ne_of_none q hp)]; exact q⟩
    · exact ⟨o, by rw [h]; exact upd_same⟩
theorem RelC.less {G : Gam} {c : Cfg} (r : RelC G c) {B : Addr → Prop} (x : ∀ a, B a → G.A a) : RelC ⟨G.K, G.cm, B⟩ c :=
  ⟨r.len, r.nod, fun n a u h1 h2 => OOk.map (G := G) ⟨G.K, G.cm, B⟩ (c := c) c rfl rfl (Rp.less x) (RpA.less x) (r.obj n a u h1 h2), fun a l z => r.apart a l (x a z), r.dom, fun a h => r.domA a (x a h)⟩
/-- what is kept apart is changed -/
theorem Ext.aside {c : Cfg} {p : Addr} {u : HO} (H0 : Hp) (c0 : Cfg) (x : Ext c0 c) (hp : c0.H p = none) : Ext c0 ⟨c.φ, c.S, upd c.H p u⟩ :=
  ⟨x.pre, x.gone, fun a o l h => let ⟨h1, n1⟩ := x.keep a o l h; ⟨by show upd c.H p u a = _; rw [upd_ne (ne_of_none h hp)]; exact h1, n1⟩, x.new, fun a o h => let ⟨_, h1⟩ := x.dom a o h; dom_upd h1⟩
mutual
theorem Rp.aside {G : Gam} {c : Cfg} {p : Addr} {u : HO} (hA : G.A p) : ∀ (d : D) (v : V), Rp G c d v → Rp G ⟨c.φ, c.S, upd c.H p u⟩ d v
  | .non, _, h => h
  | .bl _, _, h => h
  | .int _, _, h => h
  | .str _, _, h => h
  | .tup xs, _, ⟨a, vs, e, n, h, r⟩ => ⟨a, vs, e, n, by show upd c.H p u a = _; rw [upd_ne fun (z : a = p) => n (.inl (by rw [z]; exact hA))]; exact h, RpA.aside hA xs vs r⟩
  | .lst xs, _, ⟨a, vs, e, n, h, r⟩ => ⟨a, vs, e, n, by show upd c.H p u a = _; rw [upd_ne fun (z : a = p) => n (.inl (by rw [z]; exact hA))]; exact h, RpA.aside hA xs vs r⟩
  | .loc n, _, h => h
  | .ty _, _, h => h
  | .scr xs, _, ⟨a, vs, e, q, r⟩ => ⟨a, vs, e, q.elim (fun ⟨n, o, h⟩ => .inl ⟨n, o, by show upd c.H p u a = _; rw [upd_ne fun (z : a = p) => n (.inl (by rw [z]; exact hA))]; exact h⟩) .inr, RpA.aside hA xs vs r⟩
theorem RpA.aside {G : Gam} {c : Cfg} {p : Addr} {u : HO} (hA : G.A p) : ∀ (ds : List D) (vs : List V), RpA G c ds vs → RpA G ⟨c.φ, c.S, upd c.H p u⟩ ds vs
  | [], _, h => h
  | d :: ds, _, ⟨v, r, e, h, t⟩ => ⟨v, r, e, Rp.aside hA d v h, RpA.aside hA ds r t⟩
end
theorem RelC.aside {G : Gam} {c : Cfg} (r : RelC G c) {p : Addr} {u : HO} (hA : G.A p) (hl : ∀ n : Nat, c.φ[n]? ≠ some p) : RelC G ⟨c.φ, c.S, upd c.H p u⟩ := by
  refine ⟨r.len, r.nod, fun n a w h1 h2 => ?_, r.apart, fun n a h => ?_, fun a h => ?_⟩
  · have ne : a ≠ p := fun e => hl n (e ▸ h1)
    exact (r.obj n a w h1 h2).map _ _ rfl (show upd c.H p u a = c.H a from upd_ne ne) (Rp.aside hA) (RpA.aside hA)
  · obtain ⟨w, q⟩ := r.dom n a h
    exact ⟨w, by show upd c.H p u a = _; rw [upd_ne fun (e : a = p) => hl n (by rw [← e]; exact h)]; exact q⟩
  · by_cases e : a = p
    · exact ⟨u, by rw [e]; exact upd_same⟩
    · obtain ⟨w, q⟩ := r.domA a h
      exact ⟨w, by show upd c.H p u a = _; rw [upd_ne e]; exact q⟩

/-! ### ends, readings, judgements -/
def ErrR (G : Gam) (c : Cfg) (x : Err) (C : Value) (d : Option Addr) : Prop :=
  ∃ a, C = .ref a ∧ G.cm x.cls a ∧ (x.fs = [] ∨ ∃ p gs, d = some p ∧ ¬ Own G c p ∧ c.H p = some (.xd gs) ∧ RpK G c x.fs gs)
def Post {α β : Type} (G : Gam) (E : XK) (rp : Cfg → α → β → Prop) (c : Cfg) (Q : β → Hp → Prop) : R α → Prop
  | .ok a S => ∀ b c', c'.S = S → Ext c c' → RelC G c' → rp c' a b → Q b c'.H
  | .err x S => ∀ C d c', c'.S = S → Ext c c' → RelC G c' → ErrR G c' x C d → E C d c'.H
  | .no => False
theorem Post.trans {α β : Type} {G : Gam} {E : XK} {rp : Cfg → α → β → Prop} {c c1 : Cfg} {Q : β → Hp → Prop} (x : Ext c c1) : ∀ {r : R α}, Post G E rp c Q r → Post G E rp c1 Q r
  | .ok _ _, h => fun b c' e x' => h b c' e (x.trans x')
  | .err _ _, h => fun C d c' e x' => h C d c' e (x.trans x')
  | .no, h => h
/-- one after another -/
theorem Post.seq {α β γ δ : Type} {G : Gam} {E : XK} {rp : Cfg → α → β → Prop} {rq : Cfg → γ → δ → Prop} {c : Cfg} {Q : β → Hp → Prop} {Q' : δ → Hp → Prop} {r : R α} {f : α → Store → R γ} (h : Post G E rq c Q' (r.bind f))
    (k : ∀ a b c1, r = .ok a c1.S → Ext c c1 → RelC G c1 → rp c1 a b → Post G E rq c1 Q' (f a c1.S) → Q b c1.H) : Post G E rp c Q r := by
  cases r with
  | no => exact h
  | err x S => exact h
  | ok a S =>
    intro b c1 e x rel rb
    subst e
    exact k a b c1 rfl x rel rb (Post.trans x h)
theorem Post.ok {α β : Type} {G : Gam} {E : XK} {rp : Cfg → α → β → Prop} {c : Cfg} {Q : β → Hp → Prop} {a : α} {S : Store} {b : β} {c' : Cfg} (h : Post G E rp c Q (.ok a S)) (x : Ext c c') (rel : RelC G c') (e : c'.S = S) (r : rp c' a b) : Q b c'.H := h b c' e x rel r
theorem Post.here {α β : Type} {G : Gam} {E : XK} {rp : Cfg → α → β → Prop} {c : Cfg} {Q : β → Hp → Prop} {a : α} {b : β} (h : Post G E rp c Q (.ok a c.S)) (rel : RelC G c) (r : rp c a b) : Q b c.H := h b c rfl (.refl c) rel r
def LocR (G : Gam) (c : Cfg) (st : DSt) (σ : L2.St) : Prop := st.length = σ.length ∧ ∀ (i : Nat) (d : D), st[i]? = some (some d) → ∃ v, σ[i]? = some (some v) ∧ Rp G c d v
theorem LocR.mono {G : Gam} {c c' : Cfg} {st : DSt} {σ : L2.St} (x : Ext c c') (h : LocR G c st σ) : LocR G c' st σ := ⟨h.1, fun i d e => let ⟨v, e1, r⟩ := h.2 i d e; ⟨v, e1, Rp.mono x d v r⟩⟩
theorem LocR.more {G : Gam} {c : Cfg} {st : DSt} {σ : L2.St} {p : Addr} (hp : c.H p = none) (h : LocR G c st σ) : LocR ⟨G.K, G.cm, fun a => G.A a ∨ a = p⟩ c st σ := ⟨h.1, fun i d e => let ⟨v, e1, r⟩ := h.2 i d e; ⟨v, e1, Rp.more hp d v r⟩⟩
theorem LocR.less {G : Gam} {c : Cfg} {st : DSt} {σ : L2.St} {B : Addr → Prop} (x : ∀ a, B a → G.A a) (h : LocR G c st σ) : LocR ⟨G.K, G.cm, B⟩ c st σ := ⟨h.1, fun i d e => let ⟨v, e1, r⟩ := h.2 i d e; ⟨v, e1, Rp.less x d v r⟩⟩
theorem LocR.set {G : Gam} {c : Cfg} {st : DSt} {σ : L2.St} {i : Nat} {d : D} {v : V} (h : LocR G c st σ) (r : Rp G c d v) : LocR G c (st.set i (some d)) (σ.set i (some v)) := by
  refine ⟨by rw [List.length_set, List.length_set]; exact h.1, fun j x e => ?_⟩
  by_cases hj : i = j
  · subst hj
    by_cases hl : i < st.length
    · rw [List.getElem?_set_self hl] at e
      cases e
      exact ⟨v, List.getElem?_set_self (h.1 ▸ hl), r⟩
    · rw [List.getElem?_eq_none (by rw [List.length_set]; omega)] at e
      cases e
  · rw [List.getElem?_set_ne hj] at e
    rw [List.getElem?_set_ne hj]
    exact h.2 j x e
theorem LocR.wipe {G : Gam} {c : Cfg} {st : DSt} {σ : L2.St} {i : Nat} (h : LocR G c st σ) : LocR G c (st.set i none) (σ.set i none) := by
  refine ⟨by rw [List.length_set, List.length_set]; exact h.1, fun j x e => ?_⟩
  by_cases hj : i = j
  · subst hj
    by_cases hl : i < st.length
    · rw [List.getElem?_set_self hl] at e
      cases e
    · rw [List.getElem?_eq_none (by rw [List.length_set]; omega)] at e
      cases e
  · rw [List.getElem?_set_ne hj] at e
    rw [List.getElem?_set_ne hj]
    exact h.2 j x e
section
variable (K : PySem.W.Frag) (cm : String → Addr → Prop) (E : XK)
def Snd (t : TE) (e : DEv) : Prop := ∀ (A : Addr → Prop) (c : Cfg) (st : DSt) (σ : L2.St) (Q : VK), RelC ⟨K, cm, A⟩ c → LocR ⟨K, cm, A⟩ c st σ → Post ⟨K, cm, A⟩ E (Rp ⟨K, cm, A⟩) c Q (e st c.S) → t σ c.H Q
def SndT (t : TT) (e : DTv) : Prop := ∀ (A : Addr → Prop) (c : Cfg) (st : DSt) (σ : L2.St) (Q : Bool → Hp → Prop), RelC ⟨K, cm, A⟩ c → LocR ⟨K, cm, A⟩ c st σ → Post ⟨K, cm, A⟩ E (fun _ a b => a = b) c Q (e st c.S) → t σ c.H Q
def SndA (t : TA) (e : DAv) : Prop := ∀ (A : Addr → Prop) (c : Cfg) (st : DSt) (σ : L2.St) (Q : List V → Hp → Prop), RelC ⟨K, cm, A⟩ c → LocR ⟨K, cm, A⟩ c st σ → Post ⟨K, cm, A⟩ E (RpA ⟨K, cm, A⟩) c Q (e st c.S) → t σ c.H Q
/-- an operator by values -/
def OpS (r : R2) (f : D → D → Store → R D) : Prop := ∀ (A : Addr → Prop) (c : Cfg) (x y : D) (v w : V) (Q : VK), RelC ⟨K, cm, A⟩ c → Rp ⟨K, cm, A⟩ c x v → Rp ⟨K, cm, A⟩ c y w → Post ⟨K, cm, A⟩ (fun _ _ _ => False) (Rp ⟨K, cm, A⟩) c Q (f x y c.S) → r v w c.H Q
end
variable {X : Cx} {cm : String → Addr → Prop} {E : XK}
structure DE (X : Cx) (cm : String → Addr → Prop) (E : XK) (e : Expr) (d : DEv) : Prop where
  ex : ∃ t, PE X e t ∧ Snd X.K cm E t d
structure DT (X : Cx) (cm : String → Addr → Prop) (E : XK) (e : Expr) (d : DTv) : Prop where
  ex : ∃ t, PT X e t ∧ SndT X.K cm E t d
structure DW (X : Cx) (cm : String → Addr → Prop) (E : XK) (e : Expr) (d : DTv) : Prop where
  ex : ∃ t, PW X e t ∧ SndT X.K cm E t d
structure DA (X : Cx) (cm : String → Addr → Prop) (E : XK) (es : List Expr) (d : DAv) : Prop where
  ex : ∃ t, PA X es t ∧ SndA X.K cm E t d
/-- what a rule of the layer asks of where one stands -/
structure GX (X : Cx) (E : XK) (k : Nat) : Prop where
  calm : X.calm = true
  nd : X.N.Nodup
  room : Room k X.A
  pass : Passes (CX X.prog X.w) X E
  own : PassesOwn (model X.prog X.w) X.A X.env X.xe

/-! ### names, constants -/
def dVar (i : Nat) : DEv := fun st S => match st[i]? with
  | some (some d) => .ok d S
  | _ => .no
def dC (d : D) : DEv := fun _ S => .ok d S
theorem snd_var {K : PySem.W.Frag} {i : Nat} : Snd K cm E (tVar i) (dVar i) := fun A c st σ Q rel loc h => by
  have h : Post _ E (Rp ⟨K, cm, A⟩) c Q (match st[i]? with | some (some d) => .ok d c.S | _ => .no) := h
  match e : st[i]?, h with
  | some (some d), h =>
    obtain ⟨v, e1, r⟩ := loc.2 i d e
    exact ⟨v, e1, h.here rel r⟩
  | some none, h => exact h.elim
  | none, h => exact h.elim
theorem dv (i : Nat) {x : Str} {pos : Pos} (hN : X.N[i]? = some x := by rfl) (hv : Vis X.env.scope x := by first | exact Or.inl rfl | exact Or.inr (Or.inl rfl) | exact Or.inr (Or.inr rfl)) (hd : (x == ("__debug__" : Str)) = false := by decide)
    (hcd : (x == ("__classdict__" : Str)) = false := by decide) : DE X cm E (.Name x pos) (dVar i) := ⟨_, pv i hN hv hd hcd, snd_var⟩
theorem snd_c {K : PySem.W.Frag} {v : V} {d : D} (h : ∀ G c, Rp G c d v) : Snd K cm E (tC v) (dC d) := fun A c st σ Q rel loc q => Post.here q rel (h _ _)
theorem de_int {i j pos} : DE X cm E (.Constant (.int i) j pos) (dC (.int i)) := ⟨_, pe_int, snd_c fun _ _ => rfl⟩
theorem de_bl {b j pos} : DE X cm E (.Constant (.bool b) j pos) (dC (.bl b)) := ⟨_, pe_bl, snd_c fun _ _ => rfl⟩
theorem de_non {j pos} : DE X cm E (.Constant .none j pos) (dC .non) := ⟨_, pe_non, snd_c fun _ _ => rfl⟩
/-- a text of the program -/
def strG (x : Str) : Bool := PySem.PyData.strOk x && decide (x.length ≤ 100000)
theorem de_str {x j pos} (h : strG x = true := by decide +kernel) : DE X cm E (.Constant (.str x) j pos) (dC (.str x)) := ⟨_, pe_str, snd_c fun _ _ => ⟨rfl, (Bool.and_eq_true_iff.mp h).1, Nat.le_trans (of_decide_eq_true (Bool.and_eq_true_iff.mp h).2) (by decide)⟩⟩
/-- a constant of the module -/
theorem de_globI {x : Str} {i : Int} {u : Value} {pos : Pos} (hg : Gl X x) (hm : X.mg x = some u) (r : RelV (.int i) u) (hd : (x == ("__debug__" : Str)) = false := by decide) : DE X cm E (.Name x pos) (dC (.int i)) := ⟨_, pe_glob hg hm r hd, snd_c fun _ _ => rfl⟩
theorem de_globS {x y : Str} {u : Value} {pos : Pos} (hg : Gl X x) (hm : X.mg x = some u) (r : RelV (.str y) u) (h : strG y = true := by decide +kernel) (hd : (x == ("__debug__" : Str)) = false := by decide) : DE X cm E (.Name x pos) (dC (.str y)) :=
  ⟨_, pe_glob hg hm r hd, snd_c fun _ _ => ⟨rfl, (Bool.and_eq_true_iff.mp h).1, Nat.le_trans (of_decide_eq_true (Bool.and_eq_true_iff.mp h).2) (by decide)⟩⟩
theorem de_ty {x : Str} {n : String} {pos : Pos} (hg : Gl X x) (hm : X.mg x = none) (hv : bootBuiltins x = some (.type n)) (hn : x ≠ "__name__" := by decide) (hd : (x == ("__debug__" : Str)) = false := by decide) : DE X cm E (.Name x pos) (dC (.ty n)) :=
  ⟨_, pe_bltn (v := .ty n) hg hm hv rfl hn hd, snd_c fun _ _ => rfl⟩

/-! ### operators -/
def dOp (f : D → D → Store → R D) (a b : DEv) : DEv := fun st S => (a st S).bind fun x S1 => (b st S1).bind fun y S2 => f x y S2
theorem Post.imp {α β : Type} {G : Gam} {E E' : XK} {rp : Cfg → α → β → Prop} {c : Cfg} {Q Q' : β → Hp → Prop} {r : R α} (h : Post G E rp c Q r) (q : ∀ b c', RelC G c' → Ext c c' → Q b c'.H → Q' b c'.H) (e : ∀ C d H, E C d H → E' C d H) : Post G E' rp c Q' r := by
  cases r with
  | no => exact h
  | err x S => exact fun C d c' e1 x1 r1 rr => e _ _ _ (h C d c' e1 x1 r1 rr)
  | ok a S => exact fun b c' e1 x1 r1 rr => q _ _ r1 x1 (h b c' e1 x1 r1 rr)
/-- an operator's answer is no error -/
def NoErr (f : D → D → Store → R D) : Prop := ∀ x y S, R.calm (f x y S)
theorem Post.noerr {α β : Type} {G : Gam} {E E' : XK} {rp : Cfg → α → β → Prop} {c : Cfg} {Q : β → Hp → Prop} {r : R α} (h : Post G E rp c Q r) (n : R.calm r) : Post G E' rp c Q r := by
  cases r with
  | no => exact h
  | err x S => exact n.elim
  | ok a S => exact h
variable {a b : Expr} {da db : DEv} {pos : Pos}
theorem snd_op {K : PySem.W.Frag} {r : R2} {f : D → D → Store → R D} {ta tb : TE} (hs : OpS K cm r f) (ne : NoErr f) (sa : Snd K cm E ta da) (sb : Snd K cm E tb db) : Snd K cm E (tOp r ta tb) (dOp f da db) := fun A c st σ Q rel loc h =>
  sa A c st σ _ rel loc (Post.seq h fun x v c1 _ x1 rel1 rx h1 => sb A c1 st σ _ rel1 (loc.mono x1) (Post.seq h1 fun y w c2 _ x2 rel2 ry h2 => hs A c2 x y v w Q rel2 (Rp.mono x2 x v rx) ry (h2.noerr (ne x y c2.S))))
theorem de_op {op : Operator} {r : R2} {f : D → D → Store → R D} (ho : OpR X (binaryOp op) r) (hs : OpS X.K cm r f) (ne : NoErr f) (ha : DE X cm E a da) (hb : DE X cm E b db) : DE X cm E (.BinOp a op b pos) (dOp f da db) := by
  obtain ⟨ta, pa, sa⟩ := ha.ex
  obtain ⟨tb, pb, sb⟩ := hb.ex
  exact ⟨_, pe_op ho pa pb, snd_op hs ne sa sb⟩
theorem de_cmp {op : CmpOp} {r : R2} {f : D → D → Store → R D} (ho : OpR X (compareOp op) r) (hs : OpS X.K cm r f) (ne : NoErr f) (ha : DE X cm E a da) (hb : DE X cm E b db) (hm : behindInMarks op b = false) : DE X cm E (.Compare a [op] [b] pos) (dOp f da db) := by
  obtain ⟨ta, pa, sa⟩ := ha.ex
  obtain ⟨tb, pb, sb⟩ := hb.ex
  exact ⟨_, pe_cmpR ho pa pb hm, snd_op hs ne sa sb⟩
/-- a value that is a bool, as a test -/
def dTest (e : DEv) : DTv := fun st S => (e st S).bind fun x S1 => match x with
  | .bl k => .ok k S1
  | _ => .no
theorem Rp.bl_of {G : Gam} {c : Cfg} {k : Bool} {v : V} (h : Rp G c (.bl k) v) : v = .bl k := h
theorem snd_test {K : PySem.W.Frag} {t : TE} {d : DEv} (s : Snd K cm E t d) : SndT K cm E (tTest t) (dTest d) := fun A c st σ Q rel loc h =>
  s A c st σ _ rel loc (Post.seq h fun x v c1 _ x1 rel1 rx h1 => by
    cases x with
    | bl k => exact ⟨k, rx, h1.here rel1 rfl⟩
    | _ => exact h1.elim)
theorem dt_cmp {op : CmpOp} {r : R2} {f : D → D → Store → R D} (ho : OpR X (compareOp op) r) (hs : OpS X.K cm r f) (ne : NoErr f) (ha : DE X cm E a da) (hb : DE X cm E b db) (hm : behindInMarks op b = false) : DT X cm E (.Compare a [op] [b] pos) (dTest (dOp f da db)) := by
  obtain ⟨ta, pa, sa⟩ := ha.ex
  obtain ⟨tb, pb, sb⟩ := hb.ex
  exact ⟨_, pt_cmpR ho pa pb hm, snd_test (snd_op hs ne sa sb)⟩
theorem dt_val {e : Expr} {d : DEv} (h : DE X cm E e d) (he : ∀ whole, isTrue e X.env whole = (do let v ← whole; standAt e.pos; holding [v] (truthy v)) := by intro _; rfl) : DT X cm E e (dTest d) := by
  obtain ⟨t, p, s⟩ := h.ex
  exact ⟨_, pt_val p he, snd_test s⟩
/-- a op b op' c -/
def dChain (f g : D → D → Store → R D) (a b c : DEv) : DEv := fun st S => (a st S).bind fun x S1 => (b st S1).bind fun y S2 => (f x y S2).bind fun z S3 => match z with
  | .bl true => (c st S3).bind fun w S4 => g y w S4
  | .bl false => .ok (.bl false) S3
  | _ => .no
theorem snd_chain {K : PySem.W.Frag} {r r' : R2} {f g : D → D → Store → R D} {ta tb tc : TE} {dc : DEv} (hs : OpS K cm r f) (ne : NoErr f) (hs' : OpS K cm r' g) (ne' : NoErr g) (sa : Snd K cm E ta da) (sb : Snd K cm E tb db) (sc : Snd K cm E tc dc) :
    Snd K cm E (tChain r r' ta tb tc) (dChain f g da db dc) := fun A c st σ Q rel loc h =>
  sa A c st σ _ rel loc (Post.seq h fun x v c1 _ x1 rel1 rx h1 => sb A c1 st σ _ rel1 (loc.mono x1) (Post.seq h1 fun y w c2 _ x2 rel2 ry h2 => hs A c2 x y v w _ rel2 (Rp.mono x2 x v rx) ry ((Post.seq h2 fun z u c3 _ x3 rel3 rz h3 => by
    cases z with
    | bl k =>
      refine ⟨k, rz, ?_⟩
      cases k with
      | true => exact if_pos rfl ▸ sc A c3 st σ _ rel3 ((loc.mono (x1.trans x2)).mono x3) (Post.seq h3 fun w2 u2 c4 _ x4 rel4 rw4 h4 => hs' A c4 y w2 w u2 Q rel4 (Rp.mono x4 y w (Rp.mono x3 y w ry)) rw4 (h4.noerr (ne' y w2 c4.S)))
      | false => exact if_neg Bool.false_ne_true ▸ h3.here rel3 rfl
    | _ => exact h3.elim).noerr (ne x y c2.S))))
variable {e3 : Expr} {dc : DEv}
theorem de_chain {op op' : CmpOp} {r r' : R2} {f g : D → D → Store → R D} (ho : OpR X (compareOp op) r) (hs : OpS X.K cm r f) (ne : NoErr f) (ho' : OpR X (compareOp op') r') (hs' : OpS X.K cm r' g) (ne' : NoErr g) (ha : DE X cm E a da) (hb : DE X cm E b db) (hc : DE X cm E e3 dc)
    (hm : lastMarks [op, op'] [b, e3] = false := by with_unfolding_all rfl) : DE X cm E (.Compare a [op, op'] [b, e3] pos) (dChain f g da db dc) := by
  obtain ⟨ta, pa, sa⟩ := ha.ex
  obtain ⟨tb, pb, sb⟩ := hb.ex
  obtain ⟨tc, pc, sc⟩ := hc.ex
  exact ⟨_, pe_chain ho ho' pa pb pc hm, snd_chain hs ne hs' ne' sa sb sc⟩
theorem dt_chain {op op' : CmpOp} {r r' : R2} {f g : D → D → Store → R D} (ho : OpR X (compareOp op) r) (hs : OpS X.K cm r f) (ne : NoErr f) (ho' : OpR X (compareOp op') r') (hs' : OpS X.K cm r' g) (ne' : NoErr g) (ha : DE X cm E a da) (hb : DE X cm E b db) (hc : DE X cm E e3 dc)
    (hm : lastMarks [op, op'] [b, e3] = false := by with_unfolding_all rfl) : DT X cm E (.Compare a [op, op'] [b, e3] pos) (dTest (dChain f g da db dc)) := by
  obtain ⟨ta, pa, sa⟩ := ha.ex
  obtain ⟨tb, pb, sb⟩ := hb.ex
  obtain ⟨tc, pc, sc⟩ := hc.ex
  exact ⟨_, pt_chain ho ho' pa pb pc hm, snd_test (snd_chain hs ne hs' ne' sa sb sc)⟩
/-- and, or, not -/
def dAnd (t u : DTv) : DTv := fun st S => (t st S).bind fun k S1 => if k = true then u st S1 else .ok false S1
def dOr (t u : DTv) : DTv := fun st S => (t st S).bind fun k S1 => if k = true then .ok true S1 else u st S1
def dNot (t : DTv) : DTv := fun st S => (t st S).bind fun k S1 => .ok (!k) S1
theorem snd_and {K : PySem.W.Frag} {t u : TT} {x y : DTv} (s : SndT K cm E t x) (s' : SndT K cm E u y) : SndT K cm E (tAnd t u) (dAnd x y) := fun A c st σ Q rel loc h =>
  s A c st σ _ rel loc (Post.seq h fun k k' c1 _ x1 rel1 rk h1 => by
    cases rk
    cases k with
    | true => exact s' A c1 st σ Q rel1 (loc.mono x1) h1
    | false => exact h1.here rel1 rfl)
theorem snd_or {K : PySem.W.Frag} {t u : TT} {x y : DTv} (s : SndT K cm E t x) (s' : SndT K cm E u y) : SndT K cm E (tOr t u) (dOr x y) := fun A c st σ Q rel loc h =>
  s A c st σ _ rel loc (Post.seq h fun k k' c1 _ x1 rel1 rk h1 => by
    cases rk
    cases k with
    | false => exact s' A c1 st σ Q rel1 (loc.mono x1) h1
    | true => exact h1.here rel1 rfl)
theorem snd_not {K : PySem.W.Frag} {t : TT} {x : DTv} (s : SndT K cm E t x) : SndT K cm E (tNot t) (dNot x) := fun A c st σ Q rel loc h =>
  s A c st σ _ rel loc (Post.seq h fun k k' c1 _ x1 rel1 rk h1 => by
    cases rk
    exact h1.here rel1 rfl)
variable {rest : List Expr} {ua ub : DTv}
theorem dw_and1 (h : DT X cm E a ua) : DW X cm E (.BoolOp .And [a] pos) ua := let ⟨_, p, s⟩ := h.ex; ⟨_, pw_and1 p, s⟩
theorem dw_or1 (h : DT X cm E a ua) : DW X cm E (.BoolOp .Or [a] pos) ua := let ⟨_, p, s⟩ := h.ex; ⟨_, pw_or1 p, s⟩
theorem dw_and (h : DT X cm E a ua) (h' : DW X cm E (.BoolOp .And (b :: rest) pos) ub) : DW X cm E (.BoolOp .And (a :: b :: rest) pos) (dAnd ua ub) := let ⟨_, p, s⟩ := h.ex; let ⟨_, p', s'⟩ := h'.ex; ⟨_, pw_and p p', snd_and s s'⟩
theorem dw_or (h : DT X cm E a ua) (h' : DW X cm E (.BoolOp .Or (b :: rest) pos) ub) : DW X cm E (.BoolOp .Or (a :: b :: rest) pos) (dOr ua ub) := let ⟨_, p, s⟩ := h.ex; let ⟨_, p', s'⟩ := h'.ex; ⟨_, pw_or p p', snd_or s s'⟩
theorem DW.dt {e : Expr} {d : DTv} (h : DW X cm E e d) : DT X cm E e d := let ⟨_, p, s⟩ := h.ex; ⟨_, p.pt, s⟩
theorem dt_not (h : DT X cm E a ua) : DT X cm E (.UnaryOp .Not a pos) (dNot ua) := let ⟨_, p, s⟩ := h.ex; ⟨_, pt_not p, snd_not s⟩
/-- .. as values -/
def dAndV (a b : DEv) : DEv := fun st S => (a st S).bind fun x S1 => match x with
  | .bl true => b st S1
  | .bl false => .ok (.bl false) S1
  | _ => .no
def dOrV (a b : DEv) : DEv := fun st S => (a st S).bind fun x S1 => match x with
  | .bl true => .ok (.bl true) S1
  | .bl false => b st S1
  | _ => .no
def dNotV (a : DEv) : DEv := fun st S => (a st S).bind fun x S1 => match x with
  | .bl k => .ok (.bl (!k)) S1
  | _ => .no
theorem snd_andV {K : PySem.W.Frag} {ta tb : TE} (s : Snd K cm E ta da) (s' : Snd K cm E tb db) : Snd K cm E (tAndV ta tb) (dAndV da db) := fun A c st σ Q rel loc h =>
  s A c st σ _ rel loc (Post.seq h fun x v c1 _ x1 rel1 rx h1 => by
    cases x with
    | bl k =>
      refine ⟨k, rx, ?_⟩
      cases k with
      | true => exact if_pos rfl ▸ s' A c1 st σ Q rel1 (loc.mono x1) h1
      | false => exact if_neg Bool.false_ne_true ▸ h1.here rel1 rfl
    | _ => exact h1.elim)
theorem snd_orV {K : PySem.W.Frag} {ta tb : TE} (s : Snd K cm E ta da) (s' : Snd K cm E tb db) : Snd K cm E (tOrV ta tb) (dOrV da db) := fun A c st σ Q rel loc h =>
  s A c st σ _ rel loc (Post.seq h fun x v c1 _ x1 rel1 rx h1 => by
    cases x with
    | bl k =>
      refine ⟨k, rx, ?_⟩
      cases k with
      | false => exact if_neg Bool.false_ne_true ▸ s' A c1 st σ Q rel1 (loc.mono x1) h1
      | true => exact if_pos rfl ▸ h1.here rel1 rfl
    | _ => exact h1.elim)
theorem snd_notV {K : PySem.W.Frag} {ta : TE} (s : Snd K cm E ta da) : Snd K cm E (tNotV ta) (dNotV da) := fun A c st σ Q rel loc h =>
  s A c st σ _ rel loc (Post.seq h fun x v c1 _ x1 rel1 rx h1 => by
    cases x with
    | bl k => exact ⟨k, rx, h1.here rel1 rfl⟩
    | _ => exact h1.elim)
theorem de_one {op} (h : DE X cm E a da) : DE X cm E (.BoolOp op [a] pos) da := let ⟨_, p, s⟩ := h.ex; ⟨_, pe_one p, s⟩
theorem de_and (h : DE X cm E a da) (h' : DE X cm E (.BoolOp .And (b :: rest) pos) db) : DE X cm E (.BoolOp .And (a :: b :: rest) pos) (dAndV da db) := let ⟨_, p, s⟩ := h.ex; let ⟨_, p', s'⟩ := h'.ex; ⟨_, pe_and p p', snd_andV s s'⟩
theorem de_or (h : DE X cm E a da) (h' : DE X cm E (.BoolOp .Or (b :: rest) pos) db) : DE X cm E (.BoolOp .Or (a :: b :: rest) pos) (dOrV da db) := let ⟨_, p, s⟩ := h.ex; let ⟨_, p', s'⟩ := h'.ex; ⟨_, pe_or p p', snd_orV s s'⟩
theorem de_not (h : DE X cm E a da) : DE X cm E (.UnaryOp .Not a pos) (dNotV da) := let ⟨_, p, s⟩ := h.ex; ⟨_, pe_not p, snd_notV s⟩
/-- a if t else b -/
def dIf (t : DTv) (a b : DEv) : DEv := fun st S => (t st S).bind fun k S1 => if k = true then a st S1 else b st S1
theorem snd_if {K : PySem.W.Frag} {t : TT} {ta tb : TE} {x : DTv} (s : SndT K cm E t x) (s1 : Snd K cm E ta da) (s2 : Snd K cm E tb db) : Snd K cm E (tIf t ta tb) (dIf x da db) := fun A c st σ Q rel loc h =>
  s A c st σ _ rel loc (Post.seq h fun k k' c1 _ x1 rel1 rk h1 => by
    cases rk
    cases k with
    | true => exact s1 A c1 st σ Q rel1 (loc.mono x1) h1
    | false => exact s2 A c1 st σ Q rel1 (loc.mono x1) h1)
theorem de_if {t : Expr} {x : DTv} (h : DT X cm E t x) (h1 : DE X cm E a da) (h2 : DE X cm E b db) : DE X cm E (.IfExp t a b pos) (dIf x da db) :=
  let ⟨_, p, s⟩ := h.ex; let ⟨_, p1, s1⟩ := h1.ex; let ⟨_, p2, s2⟩ := h2.ex; ⟨_, pe_ifExp p p1 p2, snd_if s s1 s2⟩
/-- an operator with one operand -/
def UnS (K : PySem.W.Frag) (cm : String → Addr → Prop) (r : V → Hp → VK → Prop) (f : D → Store → R D) : Prop := ∀ (A : Addr → Prop) (c : Cfg) (x : D) (v : V) (Q : VK), RelC ⟨K, cm, A⟩ c → Rp ⟨K, cm, A⟩ c x v → Post ⟨K, cm, A⟩ (fun _ _ _ => False) (Rp ⟨K, cm, A⟩) c Q (f x c.S) → r v c.H Q
def NoErr1 (f : D → Store → R D) : Prop := ∀ x S, R.calm (f x S)
def dUn (f : D → Store → R D) (a : DEv) : DEv := fun st S => (a st S).bind fun x S1 => f x S1
theorem snd_un {K : PySem.W.Frag} {r : V → Hp → VK → Prop} {f : D → Store → R D} {ta : TE} (hs : UnS K cm r f) (ne : NoErr1 f) (sa : Snd K cm E ta da) : Snd K cm E (tUn r ta) (dUn f da) := fun A c st σ Q rel loc h =>
  sa A c st σ _ rel loc (Post.seq h fun x v c1 _ x1 rel1 rx h1 => hs A c1 x v Q rel1 rx (h1.noerr (ne x c1.S)))
theorem de_un {op : UnaryOp} {r : V → Hp → VK → Prop} {f : D → Store → R D} (ho : UnR X (unaryOp op) r) (hs : UnS X.K cm r f) (ne : NoErr1 f) (ha : DE X cm E a da) : DE X cm E (.UnaryOp op a pos) (dUn f da) := by
  obtain ⟨ta, pa, sa⟩ := ha.ex
  exact ⟨_, pe_un ho pa, snd_un hs ne sa⟩

/-! ### arguments, displays -/
def dNil : DAv := fun _ S => .ok [] S
def dCons (a : DEv) (r : DAv) : DAv := fun st S => (a st S).bind fun x S1 => (r st S1).bind fun xs S2 => .ok (x :: xs) S2
variable {es : List Expr} {dr : DAv}
theorem snd_nil {K : PySem.W.Frag} : SndA K cm E tNil dNil := fun A c st σ Q rel loc h => h.here rel rfl
theorem snd_cons {K : PySem.W.Frag} {ta : TE} {tr : TA} (sa : Snd K cm E ta da) (sr : SndA K cm E tr dr) : SndA K cm E (tCons ta tr) (dCons da dr) := fun A c st σ Q rel loc h =>
  sa A c st σ _ rel loc (Post.seq h fun x v c1 _ x1 rel1 rx h1 => sr A c1 st σ _ rel1 (loc.mono x1) (Post.seq h1 fun xs vs c2 _ x2 rel2 rxs h2 => h2.here rel2 ⟨v, vs, rfl, Rp.mono x2 x v rx, rxs⟩))
theorem da_nil : DA X cm E [] dNil := ⟨_, pa_nil, snd_nil⟩
theorem da_cons (ha : DE X cm E a da) (hr : DA X cm E es dr) (hs : starEach (a :: es) X.env = (false, eval a X.env) :: starEach es X.env := by rfl) : DA X cm E (a :: es) (dCons da dr) := let ⟨_, p, s⟩ := ha.ex; let ⟨_, p', s'⟩ := hr.ex; ⟨_, pa_cons p p' hs, snd_cons s s'⟩
theorem RpA.length {G : Gam} {c : Cfg} : ∀ {xs : List D} {vs : List V}, RpA G c xs vs → xs.length = vs.length
  | [], _, h => by cases h; rfl
  | _ :: _, _, ⟨v, r, e, _, t⟩ => by rw [e, List.length_cons, List.length_cons, RpA.length t]
/-- a display of items, at most so many -/
def dTup (r : DAv) : DEv := fun st S => (r st S).bind fun xs S1 => if xs.length ≤ 1000 then .ok (.tup xs) S1 else .no
def dLst (r : DAv) : DEv := fun st S => (r st S).bind fun xs S1 => if xs.length ≤ 1000 then .ok (.lst xs) S1 else .no
/-- .. that will be changed -/
def dLstM (r : DAv) : DEv := fun st S => (r st S).bind fun xs S1 => if xs.length ≤ 1000 then .ok (.loc S1.length) (S1 ++ [.lst xs]) else .no
theorem line1000 : (1000 : Nat) ≤ sizeLine := by decide
theorem snd_tup {K : PySem.W.Frag} {tr : TA} (sr : SndA K cm E tr dr) : Snd K cm E (tTup tr) (dTup dr) := fun A c st σ Q rel loc h =>
  sr A c st σ _ rel loc (Post.seq h fun xs vs c1 _ x1 rel1 rxs h1 => by
    split at h1
    · rename_i hl
      refine ⟨by rw [← rxs.length]; exact Nat.le_trans hl line1000, fun p hp => ?_⟩
      have x2 : Ext c1 ⟨c1.φ, c1.S, upd c1.H p (.tup vs)⟩ := Ext.lay rel1 hp
      exact h1 _ ⟨c1.φ, c1.S, upd c1.H p (.tup vs)⟩ rfl x2 (rel1.lay hp) ⟨p, vs, rfl, own_new rel1 hp, upd_same, RpA.mono x2 xs vs rxs⟩
    · exact h1.elim)
theorem snd_lst {K : PySem.W.Frag} {tr : TA} (sr : SndA K cm E tr dr) : Snd K cm E (tLst tr) (dLst dr) := fun A c st σ Q rel loc h =>
  sr A c st σ _ rel loc (Post.seq h fun xs vs c1 _ x1 rel1 rxs h1 => by
    split at h1
    · rename_i hl
      refine ⟨by rw [← rxs.length]; exact Nat.le_trans hl line1000, fun p hp => ?_⟩
      have x2 : Ext c1 ⟨c1.φ, c1.S, upd c1.H p (.lst vs)⟩ := Ext.lay rel1 hp
      exact h1 _ ⟨c1.φ, c1.S, upd c1.H p (.lst vs)⟩ rfl x2 (rel1.lay hp) ⟨p, vs, rfl, own_new rel1 hp, upd_same, RpA.mono x2 xs vs rxs⟩
    · exact h1.elim)
theorem snd_lstM {K : PySem.W.Frag} {tr : TA} (sr : SndA K cm E tr dr) : Snd K cm E (tLst tr) (dLstM dr) := fun A c st σ Q rel loc h =>
  sr A c st σ _ rel loc (Post.seq h fun xs vs c1 _ x1 rel1 rxs h1 => by
    split at h1
    · rename_i hl
      refine ⟨by rw [← rxs.length]; exact Nat.le_trans hl line1000, fun p hp => ?_⟩
      have x2 : Ext c1 ⟨c1.φ ++ [p], c1.S ++ [.lst xs], upd c1.H p (.lst vs)⟩ := Ext.push rel1 hp
      exact h1 _ ⟨c1.φ ++ [p], c1.S ++ [.lst xs], upd c1.H p (.lst vs)⟩ rfl x2 (rel1.push (o := .lst xs) hp (notA_new rel1 hp) ⟨vs, upd_same, RpA.mono x2 xs vs rxs⟩) ⟨p, rfl, by show (c1.φ ++ [p])[c1.S.length]? = _; rw [← rel1.len]; simp⟩
    · exact h1.elim)
theorem de_tup {x1} (h : DA X cm E es dr) : DE X cm E (.Tuple es x1 pos) (dTup dr) := let ⟨_, p, s⟩ := h.ex; ⟨_, pe_tup p, snd_tup s⟩
theorem de_lst (h : DA X cm E es dr) : DE X cm E (.List es pos) (dLst dr) := let ⟨_, p, s⟩ := h.ex; ⟨_, pe_lst p, snd_lst s⟩
theorem de_lstM (h : DA X cm E es dr) : DE X cm E (.List es pos) (dLstM dr) := let ⟨_, p, s⟩ := h.ex; ⟨_, pe_lst p, snd_lstM s⟩

/-! ### operators by values -/
variable {K : PySem.W.Frag}
theorem Post.newT {G : Gam} {E : XK} {c : Cfg} {Q : VK} {xs : List D} {vs : List V} (h : Post G E (Rp G) c Q (.ok (.tup xs) c.S)) (rel : RelC G c) (r : RpA G c xs vs) (p : Addr) (hp : c.H p = none) : Q (.ref p) (upd c.H p (.tup vs)) :=
  have x : Ext c ⟨c.φ, c.S, upd c.H p (.tup vs)⟩ := Ext.lay rel hp
  h _ ⟨c.φ, c.S, upd c.H p (.tup vs)⟩ rfl x (rel.lay hp) ⟨p, vs, rfl, own_new rel hp, upd_same, RpA.mono x xs vs r⟩
theorem Post.newL {G : Gam} {E : XK} {c : Cfg} {Q : VK} {xs : List D} {vs : List V} (h : Post G E (Rp G) c Q (.ok (.lst xs) c.S)) (rel : RelC G c) (r : RpA G c xs vs) (p : Addr) (hp : c.H p = none) : Q (.ref p) (upd c.H p (.lst vs)) :=
  have x : Ext c ⟨c.φ, c.S, upd c.H p (.lst vs)⟩ := Ext.lay rel hp
  h _ ⟨c.φ, c.S, upd c.H p (.lst vs)⟩ rfl x (rel.lay hp) ⟨p, vs, rfl, own_new rel hp, upd_same, RpA.mono x xs vs r⟩
/-- what stands at an address of the store -/
theorem Rp.obj {G : Gam} {c : Cfg} {n : Nat} {v : V} {o : O} (rel : RelC G c) (r : Rp G c (.loc n) v) (e : c.S[n]? = some o) : ∃ a, v = .ref a ∧ c.φ[n]? = some a ∧ OOk G c a o := let ⟨a, e1, h⟩ := r; ⟨a, e1, h, rel.obj n a o h e⟩
/-- the items of a list -/
def lsOf (S : Store) : D → Option (List D)
  | .lst xs => some xs
  | .scr xs => some xs
  | .loc n => match S[n]? with
    | some (.lst xs) => some xs
    | some (.frz xs) => some xs
    | _ => none
  | _ => none
/-- .. that is no locked one -/
def lsOfH (S : Store) : D → Option (List D)
  | .lst xs => some xs
  | .loc n => match S[n]? with
    | some (.lst xs) => some xs
    | _ => none
  | _ => none
theorem lsOf_rep {G : Gam} {c : Cfg} {d : D} {v : V} {xs : List D} (rel : RelC G c) (r : Rp G c d v) (e : lsOf c.S d = some xs) : ∃ a vs, v = .ref a ∧ SqL G.K c.H a vs ∧ RpA G c xs vs := by
  cases d with
  | lst ys =>
    cases e
    obtain ⟨a, vs, e1, _, h, t⟩ := r
    exact ⟨a, vs, e1, .inl (.inl h), t⟩
  | scr ys =>
    cases e
    obtain ⟨a, vs, e1, q, t⟩ := r
    refine ⟨a, vs, e1, ?_, t⟩
    rcases q with ⟨_, o, h⟩ | h
    · exact .inl (.inr ⟨o, h⟩)
    · rcases h with (h | ⟨o, h⟩) | h
      · cases h
      · cases h
      · exact .inr h
  | loc n =>
    have e : (match c.S[n]? with
      | some (.lst xs) => some xs
      | some (.frz xs) => some xs
      | _ => none) = some xs := e
    split at e
    · rename_i ys hy
      cases e
      obtain ⟨a, e1, _, vs, h, t⟩ := Rp.obj rel r hy
      exact ⟨a, vs, e1, .inl (.inl h), t⟩
    · rename_i ys hy
      cases e
      obtain ⟨a, e1, _, o, vs, h, t⟩ := Rp.obj rel r hy
      exact ⟨a, vs, e1, .inl (.inr ⟨o, h⟩), t⟩
    · cases e
  | _ => cases e
theorem lsOfH_rep {G : Gam} {c : Cfg} {d : D} {v : V} {xs : List D} (rel : RelC G c) (r : Rp G c d v) (e : lsOfH c.S d = some xs) : ∃ a vs, v = .ref a ∧ c.H a = some (.lst vs) ∧ RpA G c xs vs := by
  cases d with
  | lst ys =>
    cases e
    obtain ⟨a, vs, e1, _, h, t⟩ := r
    exact ⟨a, vs, e1, h, t⟩
  | loc n =>
    have e : (match c.S[n]? with
      | some (.lst xs) => some xs
      | _ => none) = some xs := e
    split at e
    · rename_i ys hy
      cases e
      obtain ⟨a, e1, _, vs, h, t⟩ := Rp.obj rel r hy
      exact ⟨a, vs, e1, h, t⟩
    · cases e
  | _ => cases e
/-- the items of a list or tuple -/
def sqOf (S : Store) : D → Option (List D)
  | .tup xs => some xs
  | d => lsOf S d
theorem sqOf_rep {G : Gam} {c : Cfg} {d : D} {v : V} {xs : List D} (rel : RelC G c) (r : Rp G c d v) (e : sqOf c.S d = some xs) : ∃ a vs, v = .ref a ∧ (SqL G.K c.H a vs ∨ SqT G.K c.H a vs) ∧ RpA G c xs vs := by
  have go : lsOf c.S d = some xs → ∃ a vs, v = .ref a ∧ (SqL G.K c.H a vs ∨ SqT G.K c.H a vs) ∧ RpA G c xs vs := fun e => let ⟨a, vs, e1, h, t⟩ := lsOf_rep rel r e; ⟨a, vs, e1, .inl h, t⟩
  cases d with
  | tup ys =>
    cases e
    obtain ⟨a, vs, e1, _, h, t⟩ := r
    exact ⟨a, vs, e1, .inr (.inl (.inl h)), t⟩
  | _ => exact go e
theorem RpA.nil_iff {G : Gam} {c : Cfg} {xs : List D} {vs : List V} (r : RpA G c xs vs) : vs = [] ↔ xs = [] := by
  have := RpA.length r
  constructor <;> intro h <;> rw [h] at this
  · exact List.eq_nil_of_length_eq_zero this
  · exact List.eq_nil_of_length_eq_zero this.symm
theorem RpA.append {G : Gam} {c : Cfg} : ∀ {xs ys : List D} {vs ws : List V}, RpA G c xs vs → RpA G c ys ws → RpA G c (xs ++ ys) (vs ++ ws)
  | [], _, _, _, h, h' => by cases h; exact h'
  | _ :: _, _, _, _, ⟨v, r, e, h, t⟩, h' => ⟨v, r ++ _, by rw [e]; rfl, h, RpA.append t h'⟩
theorem RpA.drop {G : Gam} {c : Cfg} : ∀ {xs : List D} {vs : List V} (n : Nat), RpA G c xs vs → RpA G c (xs.drop n) (vs.drop n)
  | [], _, n, h => by cases h; simp; exact rfl
  | _ :: _, _, 0, h => h
  | _ :: _, _, n + 1, ⟨v, r, e, h, t⟩ => by rw [e]; exact RpA.drop n t
theorem RpA.take {G : Gam} {c : Cfg} : ∀ {xs : List D} {vs : List V} (n : Nat), RpA G c xs vs → RpA G c (xs.take n) (vs.take n)
  | [], _, n, h => by cases h; simp; exact rfl
  | _ :: _, _, 0, h => by simp; exact rfl
  | _ :: _, _, n + 1, ⟨v, r, e, h, t⟩ => by rw [e]; exact ⟨v, _, rfl, h, RpA.take n t⟩
theorem RpA.get {G : Gam} {c : Cfg} : ∀ {xs : List D} {vs : List V} {i : Nat} {x : D}, RpA G c xs vs → xs[i]? = some x → ∃ v, vs[i]? = some v ∧ Rp G c x v
  | [], _, _, _, _, e => by simp at e
  | _ :: _, _, 0, _, ⟨v, r, e, h, t⟩, e1 => by
    simp at e1
    subst e1
    exact ⟨v, by rw [e]; rfl, h⟩
  | _ :: _, _, i + 1, _, ⟨v, r, e, h, t⟩, e1 => by
    obtain ⟨w, h1, h2⟩ := RpA.get (i := i) t (by simpa using e1)
    exact ⟨w, by rw [e]; simpa using h1, h2⟩
theorem RpA.set {G : Gam} {c : Cfg} {x : D} {v : V} (rx : Rp G c x v) : ∀ {xs : List D} {vs : List V} (i : Nat), RpA G c xs vs → RpA G c (xs.set i x) (vs.set i v)
  | [], _, _, h => by cases h; exact rfl
  | _ :: _, _, 0, ⟨_, r, e, _, t⟩ => by rw [e]; exact ⟨v, r, rfl, rx, t⟩
  | _ :: _, _, i + 1, ⟨u, r, e, h, t⟩ => by rw [e]; exact ⟨u, _, rfl, h, RpA.set rx i t⟩
theorem RpA.at {G : Gam} {c : Cfg} {xs : List D} {vs : List V} {i : Int} {x : D} (h : RpA G c xs vs) (e : atI xs i = some x) : ∃ v, atI vs i = some v ∧ Rp G c x v := by
  unfold atI at e ⊢
  rw [← h.length]
  cases q : ixN xs.length i with
  | none => rw [q] at e; cases e
  | some j =>
    rw [q] at e
    exact h.get e
/-- + -/
def addV : D → D → Store → R D
  | .int i, .int j, S => .ok (.int (i + j)) S
  | .str x, .str y, S => if x.length + y.length ≤ 1000000 then .ok (.str (x ++ y)) S else .no
  | .tup xs, .tup ys, S => if xs.length + ys.length ≤ 1000000 then .ok (.tup (xs ++ ys)) S else .no
  | x, y, S => match lsOfH S x, lsOfH S y with
    | some xs, some ys => if xs.length + ys.length ≤ 1000000 then .ok (.lst (xs ++ ys)) S else .no
    | _, _ => .no
def rAddU (K : PySem.W.Frag) : R2 := fun x y H Q => (∃ i j, x = .int i ∧ y = .int j ∧ Q (.int (i + j)) H) ∨ (∃ i j, x = .str i ∧ y = .str j ∧ i.length + j.length ≤ sizeLine ∧ Q (.str (i ++ j)) H) ∨ rCatA K x y H Q ∨ rCat x y H Q
theorem op_addU : OpR X (binaryOp .Add) (rAddU X.K) := op_add.or (op_add_str.or (op_catA.or op_cat))
theorem million : (1000000 : Nat) ≤ sizeLine := by decide
theorem strOk_app {x y : Str} (hx : PySem.PyData.strOk x = true) (hy : PySem.PyData.strOk y = true) : PySem.PyData.strOk (x ++ y) = true := by
  show (x.cps ++ y.cps).all _ = true
  rw [Array.all_append]
  exact Bool.and_eq_true_iff.mpr ⟨hx, hy⟩
theorem str_app_len (x y : Str) : (x ++ y).length = x.length + y.length := by
  show (x.cps ++ y.cps).size = _
  rw [Array.size_append]
  rfl
theorem addV_s : OpS K cm (rAddU K) addV := fun A c x y v w Q rel rx ry h => by
  have lists : ∀ {x y : D}, Rp ⟨K, cm, A⟩ c x v → Rp ⟨K, cm, A⟩ c y w → Post ⟨K, cm, A⟩ (fun _ _ _ => False) (Rp ⟨K, cm, A⟩) c Q (match lsOfH c.S x, lsOfH c.S y with
    | some xs, some ys => if xs.length + ys.length ≤ 1000000 then .ok (.lst (xs ++ ys)) c.S else .no
    | _, _ => .no) → rAddU K v w c.H Q := fun {x y} rx ry h => by
    split at h
    · rename_i xs ys h1 h2
      obtain ⟨a, vs, e1, g1, t1⟩ := lsOfH_rep rel rx h1
      obtain ⟨b, ws, e2, g2, t2⟩ := lsOfH_rep rel ry h2
      split at h
      · rename_i hl
        exact .inr (.inr (.inr ⟨a, b, vs, ws, e1, e2, g1, g2, by rw [← t1.length, ← t2.length]; exact Nat.le_trans hl million, h.newL rel (t1.append t2)⟩))
      · exact h.elim
    · exact h.elim
  unfold addV at h
  split at h
  · exact .inl ⟨_, _, rx, ry, h.here rel rfl⟩
  · split at h
    · rename_i hl
      exact .inr (.inl ⟨_, _, rx.1, ry.1, Nat.le_trans hl million, h.here rel ⟨rfl, strOk_app rx.2.1 ry.2.1, by rw [str_app_len]; exact Nat.le_trans hl million⟩⟩)
    · exact h.elim
  · rename_i xs ys
    split at h
    · rename_i hl
      obtain ⟨a, vs, e1, n1, g1, t1⟩ := id rx
      obtain ⟨b, ws, e2, n2, g2, t2⟩ := id ry
      refine .inr (.inr (.inl ⟨a, b, vs, ws, e1, e2, .inl (.inl g1), .inl (.inl g2), by rw [← t1.length, ← t2.length]; exact Nat.le_trans hl million, fun z => ?_, fun z z' => ?_, fun _ _ => h.newT rel (t1.append t2)⟩))
      · have : xs = [] := t1.nil_iff.mp z
        rw [this] at h
        rw [← e2]
        exact h.here rel ry
      · have : ys = [] := t2.nil_iff.mp z'
        rw [this, List.append_nil] at h
        rw [← e1]
        exact h.here rel rx
    · exact h.elim
  · exact lists rx ry h
theorem addV_n : NoErr addV := fun x y S => by
  unfold addV
  split <;> (try split) <;> (try split) <;> exact True.intro
theorem de_add (ha : DE X cm E a da) (hb : DE X cm E b db) : DE X cm E (.BinOp a .Add b pos) (dOp addV da db) := de_op op_addU addV_s addV_n ha hb
def subV : D → D → Store → R D
  | .int i, .int j, S => .ok (.int (i - j)) S
  | _, _, _ => .no
theorem intOp_s {f : D → D → Store → R D} {g : Int → Int → V} (hf : ∀ x y S, f x y S = match x, y with | .int i, .int j => (match g i j with | .int k => .ok (.int k) S | .bl k => .ok (.bl k) S | _ => .no) | _, _ => .no) : OpS K cm (rI0 g) f := fun A c x y v w Q rel rx ry h => by
  rw [hf] at h
  split at h
  · split at h
    · rename_i k e
      exact ⟨_, _, rx, ry, by rw [e]; exact h.here rel rfl⟩
    · rename_i k e
      exact ⟨_, _, rx, ry, by rw [e]; exact h.here rel rfl⟩
    · exact h.elim
  · exact h.elim
theorem subV_s : OpS K cm (rI0 fun i j => .int (i - j)) subV := intOp_s fun x y S => by cases x <;> cases y <;> rfl
theorem subV_n : NoErr subV := fun x y S => by unfold subV; split <;> exact True.intro
theorem de_sub (ha : DE X cm E a da) (hb : DE X cm E b db) : DE X cm E (.BinOp a .Sub b pos) (dOp subV da db) := de_op op_sub subV_s subV_n ha hb
/-- * of ints: one of them within 2 ^ 64 -/
def CMulB (i j : Int) : Bool := (decide (-(2 ^ 64) < i) && decide (i < 2 ^ 64)) || (decide (-(2 ^ 64) < j) && decide (j < 2 ^ 64))
def mulV : D → D → Store → R D
  | .int i, .int j, S => if CMulB i j = true then .ok (.int (i * j)) S else .no
  | _, _, _ => .no
theorem mulV_s : OpS K cm (rI CMul fun i j => .int (i * j)) mulV := fun A c x y v w Q rel rx ry h => by
  unfold mulV at h
  split at h
  · split at h
    · rename_i hl
      refine ⟨_, _, rx, ry, ?_, h.here rel rfl⟩
      unfold CMulB at hl
      rcases Bool.or_eq_true_iff.mp hl with z | z
      · exact .inl ⟨of_decide_eq_true (Bool.and_eq_true_iff.mp z).1, of_decide_eq_true (Bool.and_eq_true_iff.mp z).2⟩
      · exact .inr ⟨of_decide_eq_true (Bool.and_eq_true_iff.mp z).1, of_decide_eq_true (Bool.and_eq_true_iff.mp z).2⟩
    · exact h.elim
  · exact h.elim
theorem mulV_n : NoErr mulV := fun x y S => by unfold mulV; split <;> (try split) <;> exact True.intro
theorem de_mul (ha : DE X cm E a da) (hb : DE X cm E b db) : DE X cm E (.BinOp a .Mult b pos) (dOp mulV da db) := de_op op_mul mulV_s mulV_n ha hb
def huge : Int := 10 ^ 1000
theorem lt_huge {i : Int} (h : i < 10 ^ 60) : i < huge := Int.lt_trans h (by decide +kernel)
def divV : D → D → Store → R D
  | .int i, .int j, S => if 0 < j ∧ j < huge then .ok (.int (i / j)) S else .no
  | _, _, _ => .no
theorem ten1000 {j : Int} (h0 : 0 < j) (h : j < huge) : j.natAbs < 2 ^ 8000 := by
  have e : huge = ((10 ^ 1000 : Nat) : Int) := by decide +kernel
  rw [e] at h
  have h1 : j.natAbs < 10 ^ 1000 := by
    generalize (10 ^ 1000 : Nat) = x at h ⊢
    omega
  exact Nat.lt_trans h1 (by decide +kernel)
theorem divV_s : OpS K cm (rI CDivW fun i j => .int (i / j)) divV := fun A c x y v w Q rel rx ry h => by
  unfold divV at h
  split at h
  · split at h
    · rename_i hl
      exact ⟨_, _, rx, ry, wide_div hl.1 (ten1000 hl.1 hl.2) (by decide) (by decide), h.here rel rfl⟩
    · exact h.elim
  · exact h.elim
theorem divV_n : NoErr divV := fun x y S => by unfold divV; split <;> (try split) <;> exact True.intro
theorem de_div (ha : DE X cm E a da) (hb : DE X cm E b db) : DE X cm E (.BinOp a .FloorDiv b pos) (dOp divV da db) := de_op op_fdivW divV_s divV_n ha hb
def modV : D → D → Store → R D
  | .int i, .int j, S => if 0 < j then .ok (.int (i % j)) S else .no
  | _, _, _ => .no
theorem modV_s : OpS K cm (rI (fun _ j => 0 < j) fun i j => .int (i % j)) modV := fun A c x y v w Q rel rx ry h => by
  unfold modV at h
  split at h
  · split at h
    · rename_i hl
      exact ⟨_, _, rx, ry, hl, h.here rel rfl⟩
    · exact h.elim
  · exact h.elim
theorem modV_n : NoErr modV := fun x y S => by unfold modV; split <;> (try split) <;> exact True.intro
theorem de_mod (ha : DE X cm E a da) (hb : DE X cm E b db) : DE X cm E (.BinOp a .Mod b pos) (dOp modV da db) := de_op op_mod modV_s modV_n ha hb
def powV : D → D → Store → R D
  | .int i, .int j, S => if 0 ≤ j ∧ j ≤ 1000 ∧ 0 ≤ i ∧ i ≤ 1000 then .ok (.int (i ^ j.toNat)) S else .no
  | _, _, _ => .no
theorem powV_s : OpS K cm (rI CPow fun i j => .int (i ^ j.toNat)) powV := fun A c x y v w Q rel rx ry h => by
  unfold powV at h
  split at h
  · split at h
    · rename_i hl
      exact ⟨_, _, rx, ry, ⟨hl.1, by omega, Nat.lt_of_le_of_lt (show _ ≤ 1000 by omega) (by decide)⟩, h.here rel rfl⟩
    · exact h.elim
  · exact h.elim
theorem powV_n : NoErr powV := fun x y S => by unfold powV; split <;> (try split) <;> exact True.intro
theorem de_pow (ha : DE X cm E a da) (hb : DE X cm E b db) : DE X cm E (.BinOp a .Pow b pos) (dOp powV da db) := de_op op_pow powV_s powV_n ha hb
def negV : D → Store → R D
  | .int i, S => .ok (.int (-i)) S
  | _, _ => .no
theorem de_neg (ha : DE X cm E a da) : DE X cm E (.UnaryOp .USub a pos) (dUn negV da) := de_un un_neg (fun A c x v Q rel rx h => by
  unfold negV at h
  split at h
  · exact ⟨_, rx, h.here rel rfl⟩
  · exact h.elim) (fun x S => by unfold negV; split <;> exact True.intro) ha

/-! ### comparisons -/
/-- <, <=, >, >= of ints and of texts -/
def cmpV (f : Int → Int → Bool) (g : List Nat → List Nat → Bool) : D → D → Store → R D
  | .int i, .int j, S => .ok (.bl (f i j)) S
  | .str x, .str y, S => .ok (.bl (g x.cps.toList y.cps.toList)) S
  | _, _, _ => .no
def ltN (x y : List Nat) : Bool := decide (x < y)
abbrev ltV := cmpV (fun i j => decide (i < j)) ltN
abbrev leV := cmpV (fun i j => decide (i ≤ j)) fun x y => !ltN y x
abbrev gtV := cmpV (fun i j => decide (j < i)) fun x y => ltN y x
abbrev geV := cmpV (fun i j => decide (j ≤ i)) fun x y => !ltN x y
def rCmpU (f : Int → Int → Bool) (g : List Nat → List Nat → Bool) : R2 := fun x y H Q => (∃ i j, x = .int i ∧ y = .int j ∧ Q (.bl (f i j)) H) ∨ (∃ i j : Str, x = .str i ∧ y = .str j ∧ Q (.bl (g i.cps.toList j.cps.toList)) H)
theorem cmpV_s {f : Int → Int → Bool} {g : List Nat → List Nat → Bool} : OpS K cm (rCmpU f g) (cmpV f g) := fun A c x y v w Q rel rx ry h => by
  unfold cmpV at h
  split at h
  · exact .inl ⟨_, _, rx, ry, h.here rel rfl⟩
  · exact .inr ⟨_, _, rx.1, ry.1, h.here rel rfl⟩
  · exact h.elim
theorem cmpV_n {f : Int → Int → Bool} {g : List Nat → List Nat → Bool} : NoErr (cmpV f g) := fun x y S => by unfold cmpV; split <;> exact True.intro
theorem op_ltU : OpR X (compareOp .Lt) (rCmpU (fun i j => decide (i < j)) ltN) := op_lt.or op_lt_str
theorem op_leU : OpR X (compareOp .LtE) (rCmpU (fun i j => decide (i ≤ j)) fun x y => !ltN y x) := op_le.or op_le_str
theorem op_gtU : OpR X (compareOp .Gt) (rCmpU (fun i j => decide (j < i)) fun x y => ltN y x) := op_gt.or op_gt_str
theorem op_geU : OpR X (compareOp .GtE) (rCmpU (fun i j => decide (j ≤ i)) fun x y => !ltN x y) := op_ge.or op_ge_str
/-! data that can be compared: no lists of the store within -/
mutual
def toPy : D → Option PyData
  | .non => some .none
  | .bl b => some (.bool b)
  | .int i => some (.int i)
  | .str x => some (.str x)
  | .tup xs => (toPyA xs).map .tuple
  | .lst xs => (toPyA xs).map .list
  | .loc _ => none
  | .ty _ => none
  | .scr _ => none
def toPyA : List D → Option (List PyData)
  | [] => some []
  | x :: xs => match toPy x, toPyA xs with
    | some d, some ds => some (d :: ds)
    | _, _ => none
end
def toPyS (S : Store) : D → Option PyData
  | .loc n => match S[n]? with
    | some (.lst xs) => (toPyA xs).map .list
    | some (.frz xs) => (toPyA xs).map .list
    | _ => none
  | d => toPy d
mutual
theorem toPy_rep {G : Gam} {c : Cfg} : ∀ (d : D) (v : V) (p : PyData), Rp G c d v → toPy d = some p → Dp G.K c.H v p ∧ p.canLay0 = true
  | .non, _, _, r, e => by
    cases r
    cases e
    exact ⟨.non, rfl⟩
  | .bl b, _, _, r, e => by
    cases r
    cases e
    exact ⟨.bl b, rfl⟩
  | .int i, _, _, r, e => by
    cases r
    cases e
    exact ⟨.int i, rfl⟩
  | .str x, _, _, r, e => by
    obtain ⟨r, h, _⟩ := r
    cases r
    cases e
    exact ⟨.str x, h⟩
  | .tup xs, _, _, ⟨a, vs, e1, _, h, t⟩, e => by
    subst e1
    unfold toPy at e
    obtain ⟨ps, e2, e3⟩ := Option.map_eq_some_iff.mp e
    subst e3
    obtain ⟨q, k⟩ := toPyA_rep xs vs ps t e2
    exact ⟨.tup (.inl (.inl h)) q, k⟩
  | .lst xs, _, _, ⟨a, vs, e1, _, h, t⟩, e => by
    subst e1
    unfold toPy at e
    obtain ⟨ps, e2, e3⟩ := Option.map_eq_some_iff.mp e
    subst e3
    obtain ⟨q, k⟩ := toPyA_rep xs vs ps t e2
    exact ⟨.lst (.inl (.inl h)) q, k⟩
  | .loc _, _, _, _, e => by cases e
  | .ty _, _, _, _, e => by cases e
  | .scr _, _, _, _, e => by cases e
theorem toPyA_rep {G : Gam} {c : Cfg} : ∀ (ds : List D) (vs : List V) (ps : List PyData), RpA G c ds vs → toPyA ds = some ps → DpAll G.K c.H vs ps ∧ PyData.canLayAll0 ps = true
  | [], _, _, r, e => by
    cases r
    cases e
    exact ⟨.nil, rfl⟩
  | d :: ds, _, ps, ⟨v, vs, e1, h, t⟩, e => by
    subst e1
    unfold toPyA at e
    split at e
    · rename_i p qs e2 e3
      cases e
      obtain ⟨h1, h2⟩ := toPy_rep d v p h e2
      obtain ⟨h3, h4⟩ := toPyA_rep ds vs qs t e3
      refine ⟨.cons h1 h3, ?_⟩
      show (p.canLay0 && PyData.canLayAll0 qs) = true
      rw [h2, h4]
      rfl
    · cases e
end
theorem toPyS_rep {G : Gam} {c : Cfg} {d : D} {v : V} {p : PyData} (rel : RelC G c) (r : Rp G c d v) (e : toPyS c.S d = some p) : Dp G.K c.H v p ∧ p.canLay0 = true := by
  have list : ∀ {xs : List D}, lsOf c.S d = some xs → (toPyA xs).map PyData.list = some p → Dp G.K c.H v p ∧ p.canLay0 = true := fun {xs} h1 h2 => by
    obtain ⟨a, vs, e1, g, t⟩ := lsOf_rep rel r h1
    obtain ⟨ps, e2, e3⟩ := Option.map_eq_some_iff.mp h2
    subst e3
    obtain ⟨q, k⟩ := toPyA_rep xs vs ps t e2
    rw [e1]
    exact ⟨.lst g q, k⟩
  cases d with
  | loc n =>
    have e : (match c.S[n]? with
      | some (.lst xs) => (toPyA xs).map PyData.list
      | some (.frz xs) => (toPyA xs).map PyData.list
      | _ => none) = some p := e
    split at e
    · rename_i xs hx
      exact list (xs := xs) (by simp only [lsOf, hx]) e
    · rename_i xs hx
      exact list (xs := xs) (by simp only [lsOf, hx]) e
    · cases e
  | _ => exact toPy_rep _ v p r e
/-- ==, != of data -/
def eqV (x y : D) (S : Store) : R D := match toPyS S x, toPyS S y with
  | some d, some e => if min d.depth e.depth ≤ 64 then .ok (.bl (PyData.eqv d e)) S else .no
  | _, _ => .no
def neV (x y : D) (S : Store) : R D := match toPyS S x, toPyS S y with
  | some d, some e => if min d.depth e.depth ≤ 64 then .ok (.bl (!PyData.eqv d e)) S else .no
  | _, _ => .no
def rEqM (K : PySem.W.Frag) (f : Bool → Bool) : R2 := fun x y H Q => ∃ d e, Dp K H x d ∧ Dp K H y e ∧ d.canLay0 = true ∧ e.canLay0 = true ∧ min d.depth e.depth ≤ 64 ∧ Q (.bl (f (PyData.eqv d e))) H
theorem op_eqM (hu : X.A.units + 64 < cLine) : OpR X (compareOp .Eq) (rEqM X.K id) := by
  intro pins s σ H x y v u Q I rx ry h
  obtain ⟨d, e, hd, he, sd, se, m, q⟩ := h
  obtain ⟨as, r1⟩ := Dp.reads I d x v hd rx
  obtain ⟨bs, r2⟩ := Dp.reads I e y u he ry
  exact SeqAt.compareEq_reads r1 r2 sd se (by omega) ⟨.bl _, H, I, rfl, q⟩
theorem op_neM (hu : X.A.units + 64 < cLine) : OpR X (compareOp .NotEq) (rEqM X.K not) := by
  intro pins s σ H x y v u Q I rx ry h
  obtain ⟨d, e, hd, he, sd, se, m, q⟩ := h
  obtain ⟨as, r1⟩ := Dp.reads I d x v hd rx
  obtain ⟨bs, r2⟩ := Dp.reads I e y u he ry
  exact SeqAt.compareNe_reads r1 r2 sd se (by omega) ⟨.bl _, H, I, rfl, q⟩
theorem eqV_s : OpS K cm (rEqM K id) eqV := fun A c x y v w Q rel rx ry h => by
  unfold eqV at h
  split at h
  · rename_i d e h1 h2
    split at h
    · rename_i hl
      obtain ⟨a1, a2⟩ := toPyS_rep rel rx h1
      obtain ⟨b1, b2⟩ := toPyS_rep rel ry h2
      exact ⟨d, e, a1, b1, a2, b2, hl, h.here rel rfl⟩
    · exact h.elim
  · exact h.elim
theorem neV_s : OpS K cm (rEqM K not) neV := fun A c x y v w Q rel rx ry h => by
  unfold neV at h
  split at h
  · rename_i d e h1 h2
    split at h
    · rename_i hl
      obtain ⟨a1, a2⟩ := toPyS_rep rel rx h1
      obtain ⟨b1, b2⟩ := toPyS_rep rel ry h2
      exact ⟨d, e, a1, b1, a2, b2, hl, h.here rel rfl⟩
    · exact h.elim
  · exact h.elim
theorem eqV_n : NoErr eqV := fun x y S => by unfold eqV; split <;> (try split) <;> exact True.intro
theorem neV_n : NoErr neV := fun x y S => by unfold neV; split <;> (try split) <;> exact True.intro
/-- is None -/
def isNon : D → Bool
  | .non => true
  | _ => false
theorem isNon_rep {G : Gam} {c : Cfg} {d : D} {v : V} (r : Rp G c d v) : decide (v = .non) = isNon d := by
  cases d with
  | non => rw [show v = .non from r]; rfl
  | bl b => rw [show v = .bl b from r]; rfl
  | int i => rw [show v = .int i from r]; rfl
  | str x => rw [show v = .str x from r.1]; rfl
  | tup xs => obtain ⟨a, vs, e, _⟩ := r; rw [e]; rfl
  | lst xs => obtain ⟨a, vs, e, _⟩ := r; rw [e]; rfl
  | loc n => obtain ⟨a, e, _⟩ := r; rw [e]; rfl
  | ty n => rw [show v = .ty n from r]; rfl
  | scr xs => obtain ⟨a, vs, e, _⟩ := r; rw [e]; rfl
def isV : D → D → Store → R D
  | x, .non, S => .ok (.bl (isNon x)) S
  | _, _, _ => .no
def isNotV : D → D → Store → R D
  | x, .non, S => .ok (.bl (!isNon x)) S
  | _, _, _ => .no
theorem isV_s : OpS K cm (fun x y H Q => y = .non ∧ Q (.bl (decide (x = .non))) H) isV := fun A c x y v w Q rel rx ry h => by
  unfold isV at h
  split at h
  · exact ⟨ry, by rw [isNon_rep rx]; exact h.here rel rfl⟩
  · exact h.elim
theorem isNotV_s : OpS K cm (fun x y H Q => y = .non ∧ Q (.bl (!decide (x = .non))) H) isNotV := fun A c x y v w Q rel rx ry h => by
  unfold isNotV at h
  split at h
  · exact ⟨ry, by rw [isNon_rep rx]; exact h.here rel rfl⟩
  · exact h.elim
theorem isV_n : NoErr isV := fun x y S => by unfold isV; split <;> exact True.intro
theorem isNotV_n : NoErr isNotV := fun x y S => by unfold isNotV; split <;> exact True.intro

/-! ### dicts by values -/
def keyOf : D → Option Key
  | .int i => some (.inl i)
  | .str x => some (.inr x)
  | _ => none
def keysOf : List D → Option (List Key)
  | [] => some []
  | x :: xs => match keyOf x, keysOf xs with
    | some k, some ks => some (k :: ks)
    | _, _ => none
def tkeyOf : D → Option (List Key)
  | .tup xs => keysOf xs
  | _ => none
theorem keyOf_rep {G : Gam} {c : Cfg} {d : D} {v : V} {k : Key} (r : Rp G c d v) (e : keyOf d = some k) : v = kV k := by
  cases d with
  | int i => cases e; exact r
  | str x => cases e; exact r.1
  | _ => cases e
theorem keysOf_rep {G : Gam} {c : Cfg} : ∀ {ds : List D} {vs : List V} {ks : List Key}, RpA G c ds vs → keysOf ds = some ks → vs = ks.map kV
  | [], _, _, r, e => by
    cases r
    cases e
    rfl
  | d :: ds, _, _, ⟨v, r, e1, h, t⟩, e => by
    subst e1
    unfold keysOf at e
    split at e
    · rename_i k ks h1 h2
      cases e
      rw [keyOf_rep h h1, keysOf_rep t h2]
      rfl
    · cases e
theorem tkeyOf_rep {G : Gam} {c : Cfg} {d : D} {v : V} {k : List Key} (r : Rp G c d v) (e : tkeyOf d = some k) : ∃ a, v = .ref a ∧ c.H a = some (.tup (k.map kV)) := by
  cases d with
  | tup xs =>
    obtain ⟨a, vs, e1, _, h, t⟩ := r
    exact ⟨a, e1, by rw [h, keysOf_rep t e]⟩
  | _ => cases e
section
variable {κ : Type} [DecidableEq κ] {α : Type}
def lookA (kvs : List (κ × α)) (k : κ) : Option α := (kvs.find? fun kv => decide (kv.1 = k)).map (·.2)
def putA (kvs : List (κ × α)) (k : κ) (v : α) : List (κ × α) := if (kvs.any fun kv => decide (kv.1 = k)) = true then kvs.map (fun kv => if kv.1 = k then (kv.1, v) else kv) else kvs ++ [(k, v)]
def dropA (kvs : List (κ × α)) (k : κ) : List (κ × α) := kvs.filter fun kv => decide (kv.1 ≠ k)
end
section
variable {κ : Type} [DecidableEq κ] {G : Gam} {c : Cfg} {kvs : List (κ × D)} {kws : List (κ × V)}
theorem RpK.look (r : RpK G c kvs kws) (k : κ) : (lookA kvs k = none ∧ valV kws k = none) ∨ ∃ d v, lookA kvs k = some d ∧ valV kws k = some v ∧ Rp G c d v := by
  unfold RpK at r
  induction r with
  | nil => exact .inl ⟨rfl, rfl⟩
  | @cons p q ps qs h t ih =>
    obtain ⟨h1, h2⟩ := h
    by_cases e : p.1 = k
    · have e' : q.1 = k := h1.symm.trans e
      exact .inr ⟨p.2, q.2, by simp [lookA, List.find?_cons, e], by simp [valV, List.find?_cons, e'], h2⟩
    · have e' : ¬ q.1 = k := fun z => e (h1.trans z)
      have a1 : lookA (p :: ps) k = lookA ps k := by simp [lookA, List.find?_cons, e]
      have a2 : valV (q :: qs) k = valV qs k := by simp [valV, List.find?_cons, e']
      rw [a1, a2]
      exact ih
theorem RpK.any (r : RpK G c kvs kws) (k : κ) : (kvs.any fun kv => decide (kv.1 = k)) = kws.any fun kv => decide (kv.1 = k) := by
  unfold RpK at r
  induction r with
  | nil => rfl
  | cons h t ih => rw [List.any_cons, List.any_cons, ih, h.1]
theorem RpK.repl (r : RpK G c kvs kws) (k : κ) {d : D} {v : V} (rd : Rp G c d v) : RpK G c (kvs.map fun kv => if kv.1 = k then (kv.1, d) else kv) (kws.map fun kv => if kv.1 = k then (kv.1, v) else kv) := by
  unfold RpK at r ⊢
  induction r with
  | nil => exact .nil
  | @cons p q ps qs h t ih =>
    rw [List.map_cons, List.map_cons]
    refine .cons ?_ ih
    obtain ⟨h1, h2⟩ := h
    by_cases e : p.1 = k
    · rw [if_pos e, if_pos (h1.symm.trans e)]
      exact ⟨h1, rd⟩
    · rw [if_neg e, if_neg fun z => e (h1.trans z)]
      exact ⟨h1, h2⟩
theorem RpK.put (r : RpK G c kvs kws) (k : κ) {d : D} {v : V} (rd : Rp G c d v) : RpK G c (putA kvs k d) (putK kws k v) := by
  unfold putA putK
  rw [r.any k]
  split
  · exact r.repl k rd
  · unfold RpK at r ⊢
    exact Paired.snoc r ⟨rfl, rd⟩
theorem RpK.drop (r : RpK G c kvs kws) (k : κ) : RpK G c (dropA kvs k) (dropK kws k) := by
  unfold RpK at r ⊢
  unfold dropA dropK
  induction r with
  | nil => exact .nil
  | @cons p q ps qs h t ih =>
    obtain ⟨h1, h2⟩ := h
    rw [List.filter_cons, List.filter_cons]
    by_cases e : p.1 = k
    · have a : ¬ decide (p.1 ≠ k) = true := by simp [e]
      have b : ¬ decide (q.1 ≠ k) = true := by simp [h1.symm.trans e]
      rw [if_neg a, if_neg b]
      exact ih
    · have e' : ¬ q.1 = k := fun z => e (h1.trans z)
      have a : decide (p.1 ≠ k) = true := by simp [e]
      have b : decide (q.1 ≠ k) = true := by simp [e']
      rw [if_pos a, if_pos b]
      exact .cons ⟨h1, h2⟩ ih
theorem RpK.length (r : RpK G c kvs kws) : kvs.length = kws.length := Paired.length r
end
/-- what a dict holds at a key -/
def dGetO (S : Store) (d k : D) : Option (Option D) := match d with
  | .loc n => match S[n]? with
    | some (.dK kvs) => (keyOf k).map fun q => lookA kvs q
    | some (.dT kvs) => (tkeyOf k).map fun q => lookA kvs q
    | _ => none
  | _ => none
theorem dGetO_rep {G : Gam} {c : Cfg} {d k : D} {v w : V} {r : Option D} (rel : RelC G c) (rd : Rp G c d v) (rk : Rp G c k w) (e : dGetO c.S d k = some r) :
    ∃ a, v = .ref a ∧ ((r = none ∧ DGet c.H a w none) ∨ ∃ x u, r = some x ∧ DGet c.H a w (some u) ∧ Rp G c x u) := by
  cases d with
  | loc n =>
    have e : (match c.S[n]? with
      | some (.dK kvs) => (keyOf k).map fun q => lookA kvs q
      | some (.dT kvs) => (tkeyOf k).map fun q => lookA kvs q
      | _ => none) = some r := e
    split at e
    · rename_i kvs hk
      obtain ⟨a, e1, _, kws, h, t⟩ := Rp.obj rel rd hk
      obtain ⟨q, e2, e3⟩ := Option.map_eq_some_iff.mp e
      have ew := keyOf_rep rk e2
      refine ⟨a, e1, ?_⟩
      rcases t.look q with ⟨z1, z2⟩ | ⟨x, u, z1, z2, z3⟩
      · exact .inl ⟨by rw [← e3, z1], by rw [ew, ← z2]; exact .k h⟩
      · exact .inr ⟨x, u, by rw [← e3, z1], by rw [ew, ← z2]; exact .k h, z3⟩
    · rename_i kvs hk
      obtain ⟨a, e1, _, kws, h, t⟩ := Rp.obj rel rd hk
      obtain ⟨q, e2, e3⟩ := Option.map_eq_some_iff.mp e
      obtain ⟨b, ew, hb⟩ := tkeyOf_rep rk e2
      refine ⟨a, e1, ?_⟩
      rcases t.look q with ⟨z1, z2⟩ | ⟨x, u, z1, z2, z3⟩
      · exact .inl ⟨by rw [← e3, z1], by rw [ew, ← z2]; exact .t h hb⟩
      · exact .inr ⟨x, u, by rw [← e3, z1], by rw [ew, ← z2]; exact .t h hb, z3⟩
    · cases e
  | _ => cases e

/-! ### in, not in -/
def flatD : D → Bool
  | .non => true
  | .bl _ => true
  | .int _ => true
  | .str _ => true
  | _ => false
def eqF : D → D → Bool
  | .non, .non => true
  | .bl a, .bl b => a == b
  | .bl a, .int b => (if a then 1 else 0) == b
  | .int a, .bl b => a == (if b then 1 else 0)
  | .int a, .int b => a == b
  | .str a, .str b => a == b
  | _, _ => false
theorem flatD_rep {G : Gam} {c : Cfg} {d : D} {v : V} (r : Rp G c d v) (f : flatD d = true) : flatV v = true := by
  cases d with
  | non => rw [show v = .non from r]; rfl
  | bl b => rw [show v = .bl b from r]; rfl
  | int i => rw [show v = .int i from r]; rfl
  | str x => rw [show v = .str x from r.1]; rfl
  | _ => cases f
theorem eqF_rep {G : Gam} {c : Cfg} {d e : D} {v w : V} (r : Rp G c d v) (s : Rp G c e w) (f : flatD d = true) (g : flatD e = true) : L2.eqV v w = eqF d e := by
  cases d with
  | non => rw [show v = .non from r]; cases e with
    | non => rw [show w = .non from s]; rfl
    | bl b => rw [show w = .bl b from s]; rfl
    | int i => rw [show w = .int i from s]; rfl
    | str x => rw [show w = .str x from s.1]; rfl
    | _ => cases g
  | bl b => rw [show v = .bl b from r]; cases e with
    | non => rw [show w = .non from s]; rfl
    | bl b => rw [show w = .bl b from s]; rfl
    | int i => rw [show w = .int i from s]; rfl
    | str x => rw [show w = .str x from s.1]; rfl
    | _ => cases g
  | int i => rw [show v = .int i from r]; cases e with
    | non => rw [show w = .non from s]; rfl
    | bl b => rw [show w = .bl b from s]; rfl
    | int i => rw [show w = .int i from s]; rfl
    | str x => rw [show w = .str x from s.1]; rfl
    | _ => cases g
  | str x => rw [show v = .str x from r.1]; cases e with
    | non => rw [show w = .non from s]; rfl
    | bl b => rw [show w = .bl b from s]; rfl
    | int i => rw [show w = .int i from s]; rfl
    | str x => rw [show w = .str x from s.1]; rfl
    | _ => cases g
  | _ => cases f
theorem inF_rep {G : Gam} {c : Cfg} {d : D} {v : V} (r : Rp G c d v) (f : flatD d = true) : ∀ {xs : List D} {vs : List V}, RpA G c xs vs → xs.all flatD = true → vs.all flatV = true ∧ inV v vs = xs.any fun y => eqF y d
  | [], _, h, _ => by cases h; exact ⟨rfl, rfl⟩
  | x :: xs, _, ⟨w, ws, e, h, t⟩, g => by
    subst e
    rw [List.all_cons, Bool.and_eq_true] at g
    obtain ⟨q1, q2⟩ := inF_rep r f t g.2
    refine ⟨by rw [List.all_cons, flatD_rep h g.1, q1]; rfl, ?_⟩
    show ((w :: ws).any fun y => L2.eqV y v) = _
    rw [List.any_cons, List.any_cons, eqF_rep h r g.1 f]
    congr 1
/-- in: a sign of a text, an item of a list or tuple of plain things, a key of a dict -/
def signIn (s z : Str) : Option Bool := match s.cps.toList with
  | [k] => some (decide (k ∈ z.cps.toList))
  | _ => none
theorem signIn_is {s z : Str} {b : Bool} (h : signIn s z = some b) : ∃ k, s = ⟨#[k]⟩ ∧ b = decide (k ∈ z.cps.toList) := by
  unfold signIn at h
  split at h
  · rename_i k hk
    refine ⟨k, ?_, (Option.some.inj h).symm⟩
    obtain ⟨cps⟩ := s
    show Str.mk cps = Str.mk #[k]
    congr 1
    exact Array.ext' hk
  · cases h
def inC (x y : D) (S : Store) : Option Bool := match x, y with
  | .str s, .str z => signIn s z
  | _, .str _ => none
  | _, _ => match sqOf S y with
    | some xs => if flatD x = true ∧ xs.all flatD = true then some (xs.any fun u => eqF u x) else none
    | none => (dGetO S y x).map Option.isSome
def inV' (x y : D) (S : Store) : R D := match inC x y S with
  | some k => .ok (.bl k) S
  | none => .no
def notInV' (x y : D) (S : Store) : R D := match inC x y S with
  | some k => .ok (.bl (!k)) S
  | none => .no
def rInU (K : PySem.W.Frag) (f : Bool → Bool) : R2 := fun x y H Q => (∃ (c : Nat) (z : Str), x = .str ⟨#[c]⟩ ∧ y = .str z ∧ Q (.bl (f (decide (c ∈ z.cps.toList)))) H) ∨
  (∃ p xs, y = .ref p ∧ (SqL K H p xs ∨ SqT K H p xs) ∧ flatV x = true ∧ xs.all flatV = true ∧ Q (.bl (f (inV x xs))) H) ∨ ∃ a o, y = .ref a ∧ DGet H a x o ∧ Q (.bl (f o.isSome)) H
theorem op_inU (hu : X.A.units + 1 < cLine) : OpR X (compareOp .In) (rInU X.K id) := by
  refine op_in_sign.or (OpR.or op_in_seq ?_)
  intro pins s σ H x y v u Q I rx ry h
  obtain ⟨a, o, e, g, q⟩ := h
  subst e
  obtain rfl : u = Value.ref a := ry
  exact d_in hu I g rx fun s' I' => ⟨.bl o.isSome, H, I', rfl, q⟩
theorem op_notInU (hu : X.A.units + 1 < cLine) : OpR X (compareOp .NotIn) (rInU X.K not) := by
  refine op_notIn_sign.or (OpR.or op_notIn_seq ?_)
  intro pins s σ H x y v u Q I rx ry h
  obtain ⟨a, o, e, g, q⟩ := h
  subst e
  obtain rfl : u = Value.ref a := ry
  exact d_notIn hu I g rx fun s' I' => ⟨.bl (!o.isSome), H, I', rfl, q⟩
theorem inC_s {f : Bool → Bool} {g : D → D → Store → R D} (hg : ∀ x y S, g x y S = match inC x y S with | some k => .ok (.bl (f k)) S | none => .no) : OpS K cm (rInU K f) g := fun A c x y v w Q rel rx ry h => by
  rw [hg] at h
  split at h
  · rename_i k e
    unfold inC at e
    split at e
    · rename_i s z
      obtain ⟨n, e1, e2⟩ := signIn_is e
      subst e1 e2
      exact .inl ⟨n, z, rx.1, ry.1, h.here rel rfl⟩
    · cases e
    · split at e
      · rename_i xs hx
        split at e
        · rename_i hf
          cases e
          obtain ⟨p, vs, e1, hs, t⟩ := sqOf_rep rel ry hx
          obtain ⟨q1, q2⟩ := inF_rep rx hf.1 t hf.2
          exact .inr (.inl ⟨p, vs, e1, hs, flatD_rep rx hf.1, q1, by rw [q2]; exact h.here rel rfl⟩)
        · cases e
      · obtain ⟨r, e1, e2⟩ := Option.map_eq_some_iff.mp e
        obtain ⟨a, e3, z⟩ := dGetO_rep rel ry rx e1
        refine .inr (.inr ?_)
        rcases z with ⟨z1, z2⟩ | ⟨x', u, z1, z2, _⟩
        · exact ⟨a, none, e3, z2, by rw [z1] at e2; rw [← e2] at h; exact h.here rel rfl⟩
        · exact ⟨a, some u, e3, z2, by rw [z1] at e2; rw [← e2] at h; exact h.here rel rfl⟩
  · exact h.elim
theorem inV_s : OpS K cm (rInU K id) inV' := inC_s fun _ _ _ => rfl
theorem notInV_s : OpS K cm (rInU K not) notInV' := inC_s fun _ _ _ => rfl
theorem inV_n : NoErr inV' := fun x y S => by unfold inV'; split <;> exact True.intro
theorem notInV_n : NoErr notInV' := fun x y S => by unfold notInV'; split <;> exact True.intro

/-! ### a[i] -/
def ixV (x y : D) (S : Store) : R D := match x, y with
  | .str z, .int i => match atI z.cps.toList i with
    | some k => .ok (.str ⟨#[k]⟩) S
    | none => .no
  | _, _ => match sqOf S x, y with
    | some xs, .int i => match atI xs i with
      | some d => .ok d S
      | none => .no
    | some _, _ => .no
    | none, _ => match dGetO S x y with
      | some (some d) => .ok d S
      | _ => .no
def rIxU (K : PySem.W.Frag) : R2 := fun x y H Q => rIx K x y H Q ∨ ∃ a v, x = .ref a ∧ DGet H a y (some v) ∧ Q v H
theorem ix_any (hu : X.A.units + 1 < cLine) : IxR X (rIxU X.K) := by
  refine ix_seq.or ?_
  intro value slice pins s σ H x y v u Q I rx ry h hs
  obtain ⟨a, z, e, g, q⟩ := h
  subst e
  obtain rfl : v = Value.ref a := rx
  exact tail_any (dict_typeIs I g) PySem.F.slot_dict_getitem.lookup (d_getItem hu I g ry fun w' s' I' rw' => ⟨z, H, I', rw', q⟩) hs
theorem strOk_one {x : Str} {i : Int} {k : Nat} (h : PySem.PyData.strOk x = true) (e : atI x.cps.toList i = some k) : PySem.PyData.strOk ⟨#[k]⟩ = true := by
  obtain ⟨j, _, h2, _⟩ := atI_get e
  have hm : k ∈ x.cps.toList := List.mem_of_getElem? h2
  have h' : (x.cps.all fun n => decide (n < 1114112)) = true := h
  rw [← Array.all_toList, List.all_eq_true] at h'
  show (#[k].all fun n => decide (n < 1114112)) = true
  simpa using h' k hm
theorem ixV_s : OpS K cm (rIxU K) ixV := fun A c x y v w Q rel rx ry h => by
  have seqs : ∀ {x : D} {y : D}, Rp ⟨K, cm, A⟩ c x v → Rp ⟨K, cm, A⟩ c y w → Post ⟨K, cm, A⟩ (fun _ _ _ => False) (Rp ⟨K, cm, A⟩) c Q (match sqOf c.S x, y with
    | some xs, .int i => match atI xs i with
      | some d => .ok d c.S
      | none => .no
    | some _, _ => .no
    | none, _ => match dGetO c.S x y with
      | some (some d) => .ok d c.S
      | _ => .no) → rIxU K v w c.H Q := fun {x y} rx ry h => by
    split at h
    · rename_i xs i hx
      split at h
      · rename_i d hd
        obtain ⟨p, vs, e1, hs, t⟩ := sqOf_rep rel rx hx
        obtain ⟨u, e2, ru⟩ := t.at hd
        rcases hs with hs | hs
        · exact .inl (.inl ⟨p, vs, i, u, e1, ry, hs, e2, h.here rel ru⟩)
        · exact .inl (.inr (.inl ⟨p, vs, i, u, e1, ry, hs, e2, h.here rel ru⟩))
      · exact h.elim
    · exact h.elim
    · split at h
      · rename_i d hd
        obtain ⟨a, e3, z⟩ := dGetO_rep rel rx ry hd
        rcases z with ⟨z1, _⟩ | ⟨x', u, z1, z2, z3⟩
        · cases z1
        · cases z1
          exact .inr ⟨a, u, e3, z2, h.here rel z3⟩
      · exact h.elim
  unfold ixV at h
  split at h
  · split at h
    · rename_i k hk
      exact .inl (.inr (.inr ⟨_, _, k, rx.1, ry, rx.2.2, hk, h.here rel ⟨rfl, strOk_one rx.2.1 hk, Nat.le_trans (show (1 : Nat) ≤ 1000 by decide) line1000⟩⟩))
    · exact h.elim
  · exact seqs rx ry h
theorem ixV_n : NoErr ixV := fun x y S => by
  unfold ixV
  split <;> (try split) <;> (try split) <;> exact True.intro
theorem de_ix (G : GX X E k) (ha : DE X cm E a da) (hb : DE X cm E b db) (hs : PlainIx b := by exact fun _ _ => rfl) : DE X cm E (.Subscript a b pos) (dOp ixV da db) := by
  obtain ⟨ta, pa, sa⟩ := ha.ex
  obtain ⟨tb, pb, sb⟩ := hb.ex
  exact ⟨_, pe_ix (ix_any (hu_of G.room)) pa pb hs, snd_op ixV_s ixV_n sa sb⟩

/-! ### slices -/
abbrev DPv := DSt → Store → R (Option Int)
structure DP (X : Cx) (cm : String → Addr → Prop) (E : XK) (e : Option Expr) (d : DPv) : Prop where
  ex : ∃ t, PO X e t ∧ ∀ (A : Addr → Prop) (c : Cfg) (st : DSt) (σ : L2.St) (Q : Option Int → Hp → Prop), RelC ⟨X.K, cm, A⟩ c → LocR ⟨X.K, cm, A⟩ c st σ → Post ⟨X.K, cm, A⟩ E (fun _ a b => a = b) c Q (d st c.S) → t σ c.H Q
def dPNone : DPv := fun _ S => .ok none S
def dPart (a : DEv) : DPv := fun st S => (a st S).bind fun x S1 => match x with
  | .int i => .ok (some i) S1
  | _ => .no
theorem dp_none : DP X cm E none dPNone := ⟨_, po_none, fun A c st σ Q rel loc h => h.here rel rfl⟩
theorem dp_some (ha : DE X cm E a da) : DP X cm E (some a) (dPart da) := by
  obtain ⟨t, p, s⟩ := ha.ex
  refine ⟨_, po_some p, fun A c st σ Q rel loc h => s A c st σ _ rel loc (Post.seq h fun x v c1 _ x1 rel1 rx h1 => ?_)⟩
  cases x with
  | int i => exact ⟨i, rx, h1.here rel1 rfl⟩
  | _ => exact h1.elim
def cutD (xs : List D) (lo hi : Option Int) : List D := (xs.drop (HT.sIx xs.length 0 lo)).take (HT.sIx xs.length xs.length hi - HT.sIx xs.length 0 lo)
theorem RpA.cut {G : Gam} {c : Cfg} {xs : List D} {vs : List V} (h : RpA G c xs vs) (lo hi : Option Int) : RpA G c (cutD xs lo hi) (cutV vs lo hi) := by
  unfold cutD cutV
  rw [← h.length]
  exact (h.drop _).take _
theorem cutD_all {xs : List D} {lo hi : Option Int} (h : HT.sIx xs.length 0 lo = 0 ∧ HT.sIx xs.length xs.length hi = xs.length) : cutD xs lo hi = xs := by
  unfold cutD
  rw [h.1, h.2]
  simp
def slV (x : D) (lo hi : Option Int) (S : Store) : R D := match x with
  | .str z => .ok (.str (cutS z lo hi)) S
  | .tup xs => .ok (.tup (cutD xs lo hi)) S
  | _ => match lsOf S x with
    | some xs => .ok (.lst (cutD xs lo hi)) S
    | none => .no
def dSl (a : DEv) (l u : DPv) : DEv := fun st S => (a st S).bind fun x S1 => (l st S1).bind fun i S2 => (u st S2).bind fun j S3 => slV x i j S3
def rSlU (K : PySem.W.Frag) : V → Option Int → Option Int → Hp → VK → Prop := fun x lo hi H Q => rSlL K x lo hi H Q ∨ rSlA K x lo hi H Q ∨ rSlS x lo hi H Q
theorem sl_any : SlR X (rSlU X.K) := sl_list.or (sl_tupA.or sl_str)
theorem strOk_cut {z : Str} (h : PySem.PyData.strOk z = true) (lo hi : Option Int) : PySem.PyData.strOk (cutS z lo hi) = true := by
  have h' : (z.cps.all fun n => decide (n < 1114112)) = true := h
  rw [← Array.all_toList, List.all_eq_true] at h'
  show (Array.all (List.toArray _) fun n => decide (n < 1114112)) = true
  rw [← Array.all_toList, List.all_eq_true]
  intro x hx
  exact h' x (List.mem_of_mem_drop (List.mem_of_mem_take (by simpa using hx)))
theorem slV_s (A : Addr → Prop) (c : Cfg) (x : D) (v : V) (lo hi : Option Int) (Q : VK) (rel : RelC ⟨K, cm, A⟩ c) (rx : Rp ⟨K, cm, A⟩ c x v) (h : Post ⟨K, cm, A⟩ E (Rp ⟨K, cm, A⟩) c Q (slV x lo hi c.S)) : rSlU K v lo hi c.H Q := by
  have lists : ∀ {x : D}, Rp ⟨K, cm, A⟩ c x v → Post ⟨K, cm, A⟩ E (Rp ⟨K, cm, A⟩) c Q (match lsOf c.S x with
    | some xs => .ok (.lst (cutD xs lo hi)) c.S
    | none => .no) → rSlU K v lo hi c.H Q := fun {x} rx h => by
    split at h
    · rename_i xs hx
      obtain ⟨a, vs, e, hs, t⟩ := lsOf_rep rel rx hx
      exact .inl ⟨a, vs, e, hs, h.newL rel (t.cut lo hi)⟩
    · exact h.elim
  unfold slV at h
  split at h
  · rename_i z
    exact .inr (.inr ⟨z, rx.1, rx.2.2, h.here rel ⟨rfl, strOk_cut rx.2.1 lo hi, Nat.le_trans (cutS_length z lo hi) rx.2.2⟩⟩)
  · rename_i xs
    obtain ⟨a, vs, e, n, hs, t⟩ := id rx
    refine .inr (.inl ⟨a, vs, e, .inl (.inl hs), fun z => ?_, fun _ => h.newT rel (t.cut lo hi)⟩)
    rw [← t.length] at z
    rw [cutD_all z] at h
    rw [← e]
    exact h.here rel rx
  · exact lists rx h
theorem de_sl {lo hi : Option Expr} {dl du : DPv} {p2 : Pos} (ha : DE X cm E a da) (hl : DP X cm E lo dl) (hu : DP X cm E hi du) : DE X cm E (.Subscript a (.Slice lo hi none p2) pos) (dSl da dl du) := by
  obtain ⟨t, p, s⟩ := ha.ex
  obtain ⟨tl, pl, sl⟩ := hl.ex
  obtain ⟨tu, pu, su⟩ := hu.ex
  refine ⟨_, pe_slice sl_any p pl pu, fun A c st σ Q rel loc h => s A c st σ _ rel loc (Post.seq h fun x v c1 _ x1 rel1 rx h1 => sl A c1 st σ _ rel1 (loc.mono x1) (Post.seq h1 fun i i' c2 _ x2 rel2 ri h2 =>
    su A c2 st σ _ rel2 ((loc.mono x1).mono x2) (Post.seq h2 fun j j' c3 _ x3 rel3 rj h3 => ?_)))⟩
  cases ri
  cases rj
  exact slV_s A c3 x v i j Q rel3 (Rp.mono x3 x v (Rp.mono x2 x v rx)) h3

/-! ### statements -/
inductive Fl where
  | nx (st : DSt) | rt (d : D) | bk (st : DSt) | ct (st : DSt)
abbrev DSv := DSt → Store → R Fl
def PostS (G : Gam) (E : XK) (c : Cfg) (Ds : Ends) : R Fl → Prop
  | .ok (.nx st) S => ∀ σ c', c'.S = S → Ext c c' → RelC G c' → LocR G c' st σ → Ds.nx σ c'.H
  | .ok (.rt d) S => ∀ v c', c'.S = S → Ext c c' → RelC G c' → Rp G c' d v → Ds.rt v c'.H
  | .ok (.bk st) S => ∀ σ c', c'.S = S → Ext c c' → RelC G c' → LocR G c' st σ → Ds.bk σ c'.H
  | .ok (.ct st) S => ∀ σ c', c'.S = S → Ext c c' → RelC G c' → LocR G c' st σ → Ds.ct σ c'.H
  | .err x S => ∀ C d c', c'.S = S → Ext c c' → RelC G c' → ErrR G c' x C d → E C d c'.H
  | .no => False
theorem PostS.trans {G : Gam} {E : XK} {c c1 : Cfg} {Ds : Ends} (x : Ext c c1) : ∀ {r : R Fl}, PostS G E c Ds r → PostS G E c1 Ds r
  | .ok (.nx _) _, h => fun σ c' e x' => h σ c' e (x.trans x')
  | .ok (.rt _) _, h => fun σ c' e x' => h σ c' e (x.trans x')
  | .ok (.bk _) _, h => fun σ c' e x' => h σ c' e (x.trans x')
  | .ok (.ct _) _, h => fun σ c' e x' => h σ c' e (x.trans x')
  | .err _ _, h => fun C d c' e x' => h C d c' e (x.trans x')
  | .no, h => h
theorem Post.seqS {α β : Type} {G : Gam} {E : XK} {rp : Cfg → α → β → Prop} {c : Cfg} {Q : β → Hp → Prop} {Ds : Ends} {r : R α} {f : α → Store → R Fl} (h : PostS G E c Ds (r.bind f))
    (k : ∀ a b c1, r = .ok a c1.S → Ext c c1 → RelC G c1 → rp c1 a b → PostS G E c1 Ds (f a c1.S) → Q b c1.H) : Post G E rp c Q r := by
  cases r with
  | no => exact h
  | err x S => exact h
  | ok a S =>
    intro b c1 e x rel rb
    subst e
    exact k a b c1 rfl x rel rb (PostS.trans x h)
def SndS (K : PySem.W.Frag) (cm : String → Addr → Prop) (E : XK) (t : TS) (d : DSv) : Prop := ∀ (A : Addr → Prop) (c : Cfg) (st : DSt) (σ : L2.St) (Ds : Ends), RelC ⟨K, cm, A⟩ c → LocR ⟨K, cm, A⟩ c st σ → PostS ⟨K, cm, A⟩ E c Ds (d st c.S) → t Ds σ c.H
structure DS (X : Cx) (cm : String → Addr → Prop) (E : XK) (s : Stmt) (d : DSv) : Prop where
  ex : ∃ t, PS X s t ∧ SndS X.K cm E t d
structure DSs (X : Cx) (cm : String → Addr → Prop) (E : XK) (s : List Stmt) (d : DSv) : Prop where
  ex : ∃ t, PSs X s t ∧ SndS X.K cm E t d
def dNext : DSv := fun st S => .ok (.nx st) S
def dSeq (a b : DSv) : DSv := fun st S => match a st S with
  | .ok (.nx st') S' => b st' S'
  | r => r
theorem snd_seq {ta tb : TS} {a b : DSv} (sa : SndS K cm E ta a) (sb : SndS K cm E tb b) : SndS K cm E (tSeq ta tb) (dSeq a b) := fun A c st σ Ds rel loc h => by
  refine sa A c st σ _ rel loc ?_
  unfold dSeq at h
  split at h
  · rename_i st' S' e
    rw [e]
    intro σ' c' e' x' rel' loc'
    subst e'
    exact sb A c' st' σ' Ds rel' loc' (PostS.trans x' h)
  · rename_i r hr
    cases e : a st c.S with
    | no => rw [e] at h; exact h
    | err x S => rw [e] at h; exact h
    | ok fl S =>
      rw [e] at h
      cases fl with
      | nx st' => exact absurd e (hr st' S)
      | rt d => exact h
      | bk st' => exact h
      | ct st' => exact h
variable {s1 : Stmt} {ss : List Stmt} {p q : DSv}
theorem dss_nil : DSs X cm E [] dNext := ⟨_, pss_nil, fun A c st σ Ds rel loc h => h σ c rfl (.refl c) rel loc⟩
theorem dss_cons (h1 : DS X cm E s1 p) (h2 : DSs X cm E ss q) : DSs X cm E (s1 :: ss) (dSeq p q) := let ⟨_, a, b⟩ := h1.ex; let ⟨_, a', b'⟩ := h2.ex; ⟨_, pss_cons a a', snd_seq b b'⟩
theorem dss_one (h1 : DS X cm E s1 p) : DSs X cm E [s1] p := let ⟨_, a, b⟩ := h1.ex; ⟨_, pss_one a, b⟩
theorem ds_pass : DS X cm E (.Pass pos) dNext := ⟨_, ps_pass, fun A c st σ Ds rel loc h => h σ c rfl (.refl c) rel loc⟩
theorem ds_doc {x j pos pos'} : DS X cm E (.Expr (.Constant (.str x) j pos) pos') dNext := ⟨_, ps_doc, fun A c st σ Ds rel loc h => h σ c rfl (.refl c) rel loc⟩
def dBreak : DSv := fun st S => .ok (.bk st) S
def dCont : DSv := fun st S => .ok (.ct st) S
theorem ds_break : DS X cm E (.Break pos) dBreak := ⟨_, ps_break, fun A c st σ Ds rel loc h => h σ c rfl (.refl c) rel loc⟩
theorem ds_cont : DS X cm E (.Continue pos) dCont := ⟨_, ps_continue, fun A c st σ Ds rel loc h => h σ c rfl (.refl c) rel loc⟩
def dDrop (e : DEv) : DSv := fun st S => (e st S).bind fun _ S1 => .ok (.nx st) S1
def dRet (e : DEv) : DSv := fun st S => (e st S).bind fun x S1 => .ok (.rt x) S1
def dRetN : DSv := fun _ S => .ok (.rt .non) S
theorem ds_expr {e : Expr} {d : DEv} (h : DE X cm E e d) (hs : swapsWith e none pos.line X.env = pure false := by rfl) : DS X cm E (.Expr e pos) (dDrop d) := by
  obtain ⟨t, p, s⟩ := h.ex
  exact ⟨_, ps_expr p hs, fun A c st σ Ds rel loc h => s A c st σ _ rel loc (Post.seqS h fun x v c1 _ x1 rel1 rx h1 => h1 σ c1 rfl (.refl c1) rel1 (loc.mono x1))⟩
theorem ds_ret {e : Expr} {d : DEv} (h : DE X cm E e d) : DS X cm E (.Return (some e) pos) (dRet d) := by
  obtain ⟨t, p, s⟩ := h.ex
  exact ⟨_, ps_ret p, fun A c st σ Ds rel loc h => s A c st σ _ rel loc (Post.seqS h fun x v c1 _ x1 rel1 rx h1 => h1 v c1 rfl (.refl c1) rel1 rx)⟩
theorem ds_retN : DS X cm E (.Return none pos) dRetN := ⟨_, ps_retN, fun A c st σ Ds rel loc h => h .non c rfl (.refl c) rel rfl⟩
def dIfS (t : DTv) (a b : DSv) : DSv := fun st S => (t st S).bind fun k S1 => if k = true then a st S1 else b st S1
theorem ds_if {t : Expr} {aa bb : List Stmt} {x : DTv} (h : DT X cm E t x) (h1 : DSs X cm E aa p) (h2 : DSs X cm E bb q) : DS X cm E (.If t aa bb pos) (dIfS x p q) := by
  obtain ⟨_, a1, b1⟩ := h.ex
  obtain ⟨_, a2, b2⟩ := h1.ex
  obtain ⟨_, a3, b3⟩ := h2.ex
  refine ⟨_, ps_if a1 a2 a3, fun A c st σ Ds rel loc h => b1 A c st σ _ rel loc (Post.seqS h fun k k' c1 _ x1 rel1 rk h1 => ?_)⟩
  cases rk
  cases k with
  | true => exact b2 A c1 st σ Ds rel1 (loc.mono x1) h1
  | false => exact b3 A c1 st σ Ds rel1 (loc.mono x1) h1

/-! ### targets -/
abbrev DGv := D → DSt → Store → R DSt
abbrev DGsv := List D → DSt → Store → R DSt
def SndG (K : PySem.W.Frag) (cm : String → Addr → Prop) (E : XK) (t : TG) (g : DGv) : Prop := ∀ (A : Addr → Prop) (c : Cfg) (st : DSt) (σ : L2.St) (d : D) (v : V) (Q : L2.St → Hp → Prop), RelC ⟨K, cm, A⟩ c → LocR ⟨K, cm, A⟩ c st σ → Rp ⟨K, cm, A⟩ c d v → Post ⟨K, cm, A⟩ E (LocR ⟨K, cm, A⟩) c Q (g d st c.S) → t v σ c.H Q
def SndGs (K : PySem.W.Frag) (cm : String → Addr → Prop) (E : XK) (t : TGs) (g : DGsv) : Prop := ∀ (A : Addr → Prop) (c : Cfg) (st : DSt) (σ : L2.St) (d : List D) (v : List V) (Q : L2.St → Hp → Prop), RelC ⟨K, cm, A⟩ c → LocR ⟨K, cm, A⟩ c st σ → RpA ⟨K, cm, A⟩ c d v → Post ⟨K, cm, A⟩ E (LocR ⟨K, cm, A⟩) c Q (g d st c.S) → t v σ c.H Q
/-- a target touches the slots vs alone -/
def OnlyG (vs : List Nat) (t : TG) : Prop := ∀ v σ H Q Q', (∀ σ2 H2, wipe σ2 vs = wipe σ vs → Q σ2 H2 → Q' σ2 H2) → t v σ H Q → t v σ H Q'
def OnlyGs (vs : List Nat) (t : TGs) : Prop := ∀ v σ H Q Q', (∀ σ2 H2, wipe σ2 vs = wipe σ vs → Q σ2 H2 → Q' σ2 H2) → t v σ H Q → t v σ H Q'
structure DG (X : Cx) (cm : String → Addr → Prop) (E : XK) (e : Expr) (g : DGv) : Prop where
  ex : ∃ t, PG X e t ∧ SndG X.K cm E t g
structure DGs (X : Cx) (cm : String → Addr → Prop) (E : XK) (e : List Expr) (g : DGsv) : Prop where
  ex : ∃ t, PGs X e t ∧ SndGs X.K cm E t g
/-- a comprehension's target -/
structure DGo (X : Cx) (cm : String → Addr → Prop) (E : XK) (e : Expr) (vs : List Nat) (g : DGv) (t : TG) : Prop where
  pg : PG X e t
  snd : SndG X.K cm E t g
  only : OnlyG vs t
structure DGos (X : Cx) (cm : String → Addr → Prop) (E : XK) (e : List Expr) (vs : List Nat) (g : DGsv) (t : TGs) : Prop where
  pg : PGs X e t
  snd : SndGs X.K cm E t g
  only : OnlyGs vs t
def dgName (i : Nat) : DGv := fun d st S => .ok (st.set i (some d)) S
theorem wipe_set {σ : L2.St} {i : Nat} {x : Option V} : ∀ {vs : List Nat}, i ∈ vs → wipe (σ.set i x) vs = wipe σ vs
  | v :: vs, h => by
    unfold wipe
    by_cases hv : i ∈ vs
    · rw [wipe_set hv]
    · have e : i = v := by
        rcases List.mem_cons.mp h with h | h
        · exact h
        · exact absurd h hv
      have w : ∀ {vs : List Nat}, i ∉ vs → wipe (σ.set i x) vs = (wipe σ vs).set i x := by
        intro vs
        induction vs with
        | nil => intro _; rfl
        | cons u us ih =>
          intro hn
          unfold wipe
          rw [ih fun z => hn (List.mem_cons_of_mem _ z)]
          have ne : i ≠ u := fun z => hn (z ▸ List.mem_cons_self)
          rw [List.set_comm _ _ ne]
      rw [w hv, ← e, List.set_set]
theorem snd_gname {K : PySem.W.Frag} {i : Nat} : SndG K cm E (gName i) (dgName i) := fun A c st σ d v Q rel loc rd h => Post.here h rel (loc.set rd)
theorem dg_name {i : Nat} {x : Str} (G : GX X E k) (hi : X.N[i]? = some x := by rfl) (hx : Loc X.env.scope x := by first | exact Or.inl rfl | exact Or.inr rfl) (hf : X.fn x = true ∨ X.env.scope.names.lookup x = some .local := by first | exact .inl rfl | exact .inr rfl | assumption) :
    DG X cm E (.Name x pos) (dgName i) := ⟨_, pg_name G.nd hi hx hf, snd_gname⟩
theorem dgo_name {i : Nat} {x : Str} {vs : List Nat} (G : GX X E k) (hi : X.N[i]? = some x := by rfl) (hx : Loc X.env.scope x := by first | exact Or.inl rfl | exact Or.inr rfl) (hv : i ∈ vs := by decide) (hf : X.fn x = true ∨ X.env.scope.names.lookup x = some .local := by first | exact .inl rfl | exact .inr rfl | assumption) :
    DGo X cm E (.Name x pos) vs (dgName i) (gName i) := ⟨pg_name G.nd hi hx hf, snd_gname, fun v σ H Q Q' m h => m _ _ (wipe_set hv) h⟩
def dgNil : DGsv := fun ds st S => match ds with
  | [] => .ok st S
  | _ => .no
def dgCons (g : DGv) (gs : DGsv) : DGsv := fun ds st S => match ds with
  | d :: r => (g d st S).bind fun st1 S1 => gs r st1 S1
  | [] => .no
theorem snd_gnil {K : PySem.W.Frag} : SndGs K cm E gNil dgNil := fun A c st σ d v Q rel loc rd h => by
  unfold dgNil at h
  split at h
  · exact ⟨rd, h.here rel loc⟩
  · exact h.elim
theorem snd_gcons {K : PySem.W.Frag} {g : DGv} {gs : DGsv} {t : TG} {u : TGs} (h1 : SndG K cm E t g) (h2 : SndGs K cm E u gs) : SndGs K cm E (gCons t u) (dgCons g gs) := fun A c st σ d v Q rel loc rd h => by
  unfold dgCons at h
  split at h
  · rename_i d r
    obtain ⟨w, ws, e1, rw1, rws⟩ := rd
    exact ⟨w, ws, e1, h1 A c st σ d w _ rel loc rw1 (Post.seq h fun st1 σ1 c1 _ x1 rel1 loc1 q1 => h2 A c1 st1 σ1 r ws Q rel1 loc1 (RpA.mono x1 r ws rws) q1)⟩
  · exact h.elim
theorem dgs_nil : DGs X cm E [] dgNil := ⟨_, pgs_nil, snd_gnil⟩
theorem dgs_cons {e : Expr} {es : List Expr} {g : DGv} {gs : DGsv} (h1 : DG X cm E e g) (h2 : DGs X cm E es gs)
    (hs : (assignEach (e :: es) X.env).map (·.2) = assign e X.env :: (assignEach es X.env).map (·.2) := by rfl) : DGs X cm E (e :: es) (dgCons g gs) :=
  let ⟨_, a, b⟩ := h1.ex; let ⟨_, a', b'⟩ := h2.ex; ⟨_, pgs_cons a a' hs, snd_gcons b b'⟩
theorem dgos_nil {vs : List Nat} : DGos X cm E [] vs dgNil gNil := ⟨pgs_nil, snd_gnil, fun v σ H Q Q' m h => ⟨h.1, m _ _ rfl h.2⟩⟩
theorem dgos_cons {e : Expr} {es : List Expr} {vs : List Nat} {g : DGv} {gs : DGsv} {t : TG} {u : TGs} (h1 : DGo X cm E e vs g t) (h2 : DGos X cm E es vs gs u)
    (hs : (assignEach (e :: es) X.env).map (·.2) = assign e X.env :: (assignEach es X.env).map (·.2) := by rfl) : DGos X cm E (e :: es) vs (dgCons g gs) (gCons t u) :=
  ⟨pgs_cons h1.pg h2.pg hs, snd_gcons h1.snd h2.snd, fun v σ H Q Q' m h => let ⟨w, r, e, q⟩ := h; ⟨w, r, e, h1.only w σ H _ _ (fun σ2 H2 e2 z => h2.only r σ2 H2 _ _ (fun σ3 H3 e3 => m σ3 H3 (e3.trans e2)) z) q⟩⟩
def dgTup (n : Nat) (gs : DGsv) : DGv := fun d st S => match d with
  | .tup xs => if xs.length = n then gs xs st S else .no
  | _ => .no
theorem snd_gtup {K : PySem.W.Frag} {n : Nat} {gs : DGsv} {t : TGs} (h : SndGs K cm E t gs) : SndG K cm E (gTup K n t) (dgTup n gs) := fun A c st σ d v Q rel loc rd q => by
  unfold dgTup at q
  split at q
  · rename_i xs
    split at q
    · rename_i hl
      obtain ⟨a, vs, e, _, h1, t1⟩ := rd
      exact ⟨a, vs, e, .inl (.inl h1), by rw [← t1.length]; exact hl, h A c st σ xs vs Q rel loc t1 q⟩
    · exact q.elim
  · exact q.elim
theorem dg_tup {es : List Expr} {kk : Nat} {gs : DGsv} {n : Nat} (G : GX X E k) (h : DGs X cm E es gs) (hn : (assignEach es X.env).length = n := by rfl) (hst : (assignEach es X.env).findIdx? (·.1) = none := by rfl) : DG X cm E (.Tuple es kk pos) (dgTup n gs) :=
  let ⟨_, a, b⟩ := h.ex; ⟨_, pg_tup G.calm a hn hst, snd_gtup b⟩
theorem dgo_tup {es : List Expr} {kk : Nat} {vs : List Nat} {gs : DGsv} {t : TGs} {n : Nat} (G : GX X E k) (h : DGos X cm E es vs gs t) (hn : (assignEach es X.env).length = n := by rfl) (hst : (assignEach es X.env).findIdx? (·.1) = none := by rfl) : DGo X cm E (.Tuple es kk pos) vs (dgTup n gs) (gTup X.K n t) :=
  ⟨pg_tup G.calm h.pg hn hst, snd_gtup h.snd, fun v σ H Q Q' m q => let ⟨a, xs, e, h1, h2, q1⟩ := q; ⟨a, xs, e, h1, h2, h.only xs σ H Q Q' m q1⟩⟩
/-- o[i] = v -/
def setO (o i v : D) (S : Store) : R Unit := match o with
  | .loc n => match S[n]?, i with
    | some (.lst xs), .int j => match ixN xs.length j with
      | some m => .ok () (S.set n (.lst (xs.set m v)))
      | none => .no
    | some (.dK kvs), _ => match keyOf i with
      | some q => if kvs.length < 1000000 then .ok () (S.set n (.dK (putA kvs q v))) else .no
      | none => .no
    | some (.dT kvs), _ => match tkeyOf i with
      | some q => if kvs.length < 1000000 then .ok () (S.set n (.dT (putA kvs q v))) else .no
      | none => .no
    | _, _ => .no
  | _ => .no
def rSetU : V → V → V → Hp → (Hp → Prop) → Prop := fun o i v H Q => rSetL o i v H Q ∨ ∃ a H', o = .ref a ∧ DPut H a i v H' ∧ Q H'
theorem set_any (hu : X.A.units + 1 < cLine) : PSet X rSetU := by
  intro pins s σ H o i v ov iv u Q I ro ri rv h
  rcases h with h | ⟨a, H', e, g, q⟩
  · exact set_list pins s σ H o i v ov iv u Q I ro ri rv h
  · subst e
    obtain rfl : ov = Value.ref a := ro
    exact d_setItem hu I g ri rv fun s' I' => ⟨H', I', q⟩
theorem setO_s {K : PySem.W.Frag} {A : Addr → Prop} {c : Cfg} {o i d : D} {v w u : V} {Q : Hp → Prop} (rel : RelC ⟨K, cm, A⟩ c) (ro : Rp ⟨K, cm, A⟩ c o v) (ri : Rp ⟨K, cm, A⟩ c i w) (rd : Rp ⟨K, cm, A⟩ c d u)
    (h : Post ⟨K, cm, A⟩ E (fun _ _ _ => True) c (fun (_ : Unit) H => Q H) (setO o i d c.S)) : rSetU v w u c.H Q := by
  cases o with
  | loc n =>
    replace h : Post ⟨K, cm, A⟩ E (fun _ _ _ => True) c (fun (_ : Unit) H => Q H) (match c.S[n]?, i with
    | some (.lst xs), .int j => match ixN xs.length j with
      | some m => .ok () (c.S.set n (.lst (xs.set m d)))
      | none => .no
    | some (.dK kvs), _ => match keyOf i with
      | some q => if kvs.length < 1000000 then .ok () (c.S.set n (.dK (putA kvs q d))) else .no
      | none => .no
    | some (.dT kvs), _ => match tkeyOf i with
      | some q => if kvs.length < 1000000 then .ok () (c.S.set n (.dT (putA kvs q d))) else .no
      | none => .no
    | _, _ => .no) := h
    split at h
    · rename_i xs j hx
      split at h
      · rename_i m hm
        obtain ⟨a, e, hφ, vs, hH, t⟩ := Rp.obj rel ro hx
        have x : Ext c ⟨c.φ, c.S.set n (.lst (xs.set m d)), upd c.H a (.lst (vs.set m u))⟩ := Ext.put rel hφ hx (by simp)
        exact .inl ⟨a, vs, j, m, e, ri, hH, by rw [← t.length]; exact hm, h () ⟨c.φ, c.S.set n (.lst (xs.set m d)), upd c.H a (.lst (vs.set m u))⟩ rfl x (rel.put (o' := .lst (xs.set m d)) hφ hx (by simp) ⟨_, upd_same, RpA.mono x _ _ (t.set rd m)⟩) True.intro⟩
      · exact h.elim
    · rename_i kvs hx
      split at h
      · rename_i q hq
        split at h
        · rename_i hl
          obtain ⟨a, e, hφ, kws, hH, t⟩ := Rp.obj rel ro hx
          have x : Ext c ⟨c.φ, c.S.set n (.dK (putA kvs q d)), upd c.H a (.dK (putK kws q u))⟩ := Ext.put rel hφ hx (by simp)
          refine .inr ⟨a, _, e, by rw [keyOf_rep ri hq]; exact .k hH (by rw [← t.length]; exact Nat.lt_of_lt_of_le hl million), h () ⟨c.φ, c.S.set n (.dK (putA kvs q d)), upd c.H a (.dK (putK kws q u))⟩ rfl x (rel.put (o' := .dK (putA kvs q d)) hφ hx (by simp) ⟨_, upd_same, (t.put q rd).map (Rp.mono x)⟩) True.intro⟩
        · exact h.elim
      · exact h.elim
    · rename_i kvs hx
      split at h
      · rename_i q hq
        split at h
        · rename_i hl
          obtain ⟨a, e, hφ, kws, hH, t⟩ := Rp.obj rel ro hx
          obtain ⟨b, ew, hb⟩ := tkeyOf_rep ri hq
          have x : Ext c ⟨c.φ, c.S.set n (.dT (putA kvs q d)), upd c.H a (.dT (putK kws q u))⟩ := Ext.put rel hφ hx (by simp)
          refine .inr ⟨a, _, e, by rw [ew]; exact .t hH hb (by rw [← t.length]; exact Nat.lt_of_lt_of_le hl million), h () ⟨c.φ, c.S.set n (.dT (putA kvs q d)), upd c.H a (.dT (putK kws q u))⟩ rfl x (rel.put (o' := .dT (putA kvs q d)) hφ hx (by simp) ⟨_, upd_same, (t.put q rd).map (Rp.mono x)⟩) True.intro⟩
        · exact h.elim
      · exact h.elim
    · exact h.elim
  | _ => exact h.elim
def dgSub (o i : DEv) : DGv := fun d st S => (o st S).bind fun x S1 => (i st S1).bind fun y S2 => (setO x y d S2).bind fun _ S3 => .ok st S3
theorem dg_sub {o i : Expr} {dO dI : DEv} (G : GX X E k) (ho : DE X cm E o dO) (hi : DE X cm E i dI) (ha : ∀ v, assign (.Subscript o i pos) X.env v = (do
      let ov ← holding [v] (eval o X.env)
      let iv ← holding [v, ov] (eval i X.env)
      standAt pos
      holding [v, ov, iv] (setItem ov iv v)
      release [v, ov, iv] []) := by intro _; rfl) : DG X cm E (.Subscript o i pos) (dgSub dO dI) := by
  obtain ⟨_, a1, b1⟩ := ho.ex
  obtain ⟨_, a2, b2⟩ := hi.ex
  refine ⟨_, pg_sub a1 a2 (set_any (hu_of G.room)) ha, fun A c st σ d v Q rel loc rd h => b1 A c st σ _ rel loc (Post.seq h fun x v1 c1 _ x1 rel1 r1 h1 => b2 A c1 st σ _ rel1 (loc.mono x1) (Post.seq h1 fun y v2 c2 _ x2 rel2 r2 h2 =>
    setO_s rel2 (Rp.mono x2 x v1 r1) r2 (Rp.mono x2 d v (Rp.mono x1 d v rd)) (Post.seq h2 fun _ _ c3 _ x3 rel3 _ h3 => h3.here rel3 (((loc.mono x1).mono x2).mono x3))))⟩
def dAsg (e : DEv) (g : DGv) : DSv := fun st S => (e st S).bind fun x S1 => (g x st S1).bind fun st1 S2 => .ok (.nx st1) S2
theorem ds_asg {tg e : Expr} {d : DEv} {g : DGv} (he : DE X cm E e d) (hg : DG X cm E tg g) (hs : swapsWithSole [tg] e pos.line X.env = pure false := by rfl) (hw : swappedStores [tg] e X.env = pure none := by rfl)
    (h1 : (assignEach [tg] X.env).map (·.2) = [assign tg X.env] := by rfl) : DS X cm E (.Assign [tg] e pos) (dAsg d g) := by
  obtain ⟨_, a, b⟩ := he.ex
  obtain ⟨_, a', b'⟩ := hg.ex
  exact ⟨_, ps_asg a a' hs hw h1, fun A c st σ Ds rel loc h => b A c st σ _ rel loc (Post.seqS h fun x v c1 _ x1 rel1 rx h1 => b' A c1 st σ x v _ rel1 (loc.mono x1) rx (Post.seqS h1 fun st1 σ1 c2 _ x2 rel2 loc2 h2 => h2 σ1 c2 rfl (.refl c2) rel2 loc2))⟩
def dSet (i : Nat) (e : DEv) : DSv := fun st S => (e st S).bind fun x S1 => .ok (.nx (st.set i (some x))) S1
theorem ds_set {i : Nat} {x : Str} {e : Expr} {d : DEv} {pos' : Pos} (G : GX X E k) (he : DE X cm E e d) (hi : X.N[i]? = some x := by rfl) (hx : Loc X.env.scope x := by first | exact Or.inl rfl | exact Or.inr rfl) (hs : swapsWith e (some (.Name x pos')) pos.line X.env = pure false := by rfl)
    (hf : X.fn x = true ∨ X.env.scope.names.lookup x = some .local := by first | exact .inl rfl | exact .inr rfl | assumption) : DS X cm E (.Assign [.Name x pos'] e pos) (dSet i d) := by
  obtain ⟨_, a, b⟩ := he.ex
  exact ⟨_, ps_set G.nd hi hx a hs hf, fun A c st σ Ds rel loc h => b A c st σ _ rel loc (Post.seqS h fun x v c1 _ x1 rel1 rx h1 => h1 _ c1 rfl (.refl c1) rel1 ((loc.mono x1).set rx))⟩
def dAug (i : Nat) (f : D → D → Store → R D) (e : DEv) : DSv := fun st S => match st[i]? with
  | some (some x) => (e st S).bind fun y S1 => (f x y S1).bind fun z S2 => .ok (.nx (st.set i (some z))) S2
  | _ => .no
theorem ds_aug {i : Nat} {x : Str} {e : Expr} {d : DEv} {op : Operator} {ti : TIp} {f : D → D → Store → R D} {pos' : Pos} (G : GX X E k) (ho : PIp X op ti) (hf0 : OpS X.K cm ti f) (ne : NoErr f) (he : DE X cm E e d) (hi : X.N[i]? = some x := by rfl) (hx : Loc X.env.scope x := by first | exact Or.inl rfl | exact Or.inr rfl)
    (hf : X.fn x = true ∨ X.env.scope.names.lookup x = some .local := by first | exact .inl rfl | exact .inr rfl | assumption) : DS X cm E (.AugAssign (.Name x pos') op e pos) (dAug i f d) := by
  obtain ⟨_, a, b⟩ := he.ex
  refine ⟨_, ps_aug G.nd hi hx a ho hf, fun A c st σ Ds rel loc h => ?_⟩
  unfold dAug at h
  split at h
  · rename_i x0 e0
    obtain ⟨v, e1, r0⟩ := loc.2 i x0 e0
    refine ⟨v, e1, b A c st σ _ rel loc (Post.seqS h fun y w c1 _ x1 rel1 ry h1 => hf0 A c1 x0 y v w _ rel1 (Rp.mono x1 x0 v r0) ry ((Post.seqS (E := E) (rp := Rp ⟨X.K, cm, A⟩) h1 fun z u c2 _ x2 rel2 rz h2 => h2 _ c2 rfl (.refl c2) rel2 (((loc.mono x1).mono x2).set rz)).noerr (ne x0 y c1.S)))⟩
  · exact h.elim
def addI : D → D → Store → R D
  | .int i, .int j, S => .ok (.int (i + j)) S
  | _, _, _ => .no
theorem addI_s {K : PySem.W.Frag} : OpS K cm (ipI fun i j => i + j) addI := fun A c x y v w Q rel rx ry h => by
  unfold addI at h
  split at h
  · exact ⟨_, _, rx, ry, h.here rel rfl⟩
  · exact h.elim
theorem subI_s {K : PySem.W.Frag} : OpS K cm (ipI fun i j => i - j) subV := fun A c x y v w Q rel rx ry h => by
  unfold subV at h
  split at h
  · exact ⟨_, _, rx, ry, h.here rel rfl⟩
  · exact h.elim
theorem addI_n : NoErr addI := fun x y S => by unfold addI; split <;> exact True.intro

/-! ### loops -/
/-- what is walked: the items; lists of the store that must stay as they are meanwhile -/
structure Src where
  xs : List D
  at_ : List (Nat × List D)
def Src.held (s : Src) (S : Store) : Prop := ∀ p ∈ s.at_, S[p.1]? = some (.lst p.2) ∨ S[p.1]? = some (.frz p.2)
theorem held_nil {xs : List D} {S : Store} : Src.held ⟨xs, []⟩ S := fun _ h => nomatch h
theorem held_one {xs ys : List D} {n : Nat} {S : Store} : Src.held ⟨xs, [(n, ys)]⟩ S ↔ (S[n]? = some (.lst ys) ∨ S[n]? = some (.frz ys)) := by simp [Src.held]
def WalkD (K : PySem.W.Frag) (cm : String → Addr → Prop) (A : Addr → Prop) (c0 : Cfg) (J : It) (s : Src) : Prop :=
  ∀ (B : Addr → Prop), (∀ a, B a → A a ∨ c0.H a = none) → ∀ c, Ext c0 c → RelC ⟨K, cm, B⟩ c → s.held c.S → ∀ i,
    (∀ x, s.xs[i]? = some x → J.go i c.H ∧ ∀ v H', J.yld i c.H v H' → ∃ c', c'.H = H' ∧ c'.S = c.S ∧ Ext c c' ∧ RelC ⟨K, cm, B⟩ c' ∧ Rp ⟨K, cm, B⟩ c' x v) ∧ (s.xs.length ≤ i → J.stop i c.H)
abbrev DIv := DSt → Store → R Src
def SndI (K : PySem.W.Frag) (cm : String → Addr → Prop) (E : XK) (t : TI) (d : DIv) : Prop := ∀ (A : Addr → Prop) (c : Cfg) (st : DSt) (σ : L2.St) (Q : It → Hp → Prop), RelC ⟨K, cm, A⟩ c → LocR ⟨K, cm, A⟩ c st σ → Post ⟨K, cm, A⟩ E (fun c' s J => WalkD K cm A c' J s ∧ s.held c'.S) c Q (d st c.S) → t σ c.H Q
structure DI (X : Cx) (cm : String → Addr → Prop) (E : XK) (tg e : Expr) (d : DIv) : Prop where
  ex : ∃ t, PI X tg e t ∧ SndI X.K cm E t d
mutual
theorem Rp.more' {G : Gam} {c : Cfg} {B : Addr → Prop} (hB : ∀ a, B a → G.A a ∨ c.H a = none) : ∀ (d : D) (v : V), Rp G c d v → Rp ⟨G.K, G.cm, B⟩ c d v
  | .non, _, h => h
  | .bl _, _, h => h
  | .int _, _, h => h
  | .str _, _, h => h
  | .tup xs, _, ⟨a, vs, e, n, h, r⟩ => ⟨a, vs, e, fun z => z.elim (fun z => (hB a z).elim (fun z => n (.inl z)) fun z => by rw [z] at h; cases h) fun z => n (.inr z), h, RpA.more' hB xs vs r⟩
  | .lst xs, _, ⟨a, vs, e, n, h, r⟩ => ⟨a, vs, e, fun z => z.elim (fun z => (hB a z).elim (fun z => n (.inl z)) fun z => by rw [z] at h; cases h) fun z => n (.inr z), h, RpA.more' hB xs vs r⟩
  | .loc n, _, h => h
  | .ty _, _, h => h
  | .scr xs, _, ⟨a, vs, e, q, r⟩ => ⟨a, vs, e, q.elim (fun ⟨n, o, h⟩ => .inl ⟨fun z => z.elim (fun z => (hB a z).elim (fun z => n (.inl z)) fun z => by rw [z] at h; cases h) fun z => n (.inr z), o, h⟩) .inr, RpA.more' hB xs vs r⟩
theorem RpA.more' {G : Gam} {c : Cfg} {B : Addr → Prop} (hB : ∀ a, B a → G.A a ∨ c.H a = none) : ∀ (ds : List D) (vs : List V), RpA G c ds vs → RpA ⟨G.K, G.cm, B⟩ c ds vs
  | [], _, h => h
  | d :: ds, _, ⟨v, r, e, h, t⟩ => ⟨v, r, e, Rp.more' hB d v h, RpA.more' hB ds r t⟩
end
section
variable {K : PySem.W.Frag} {A : Addr → Prop}
/-- a list (a tuple) that is seen as it is, as long as its guard holds -/
def SeeL (K : PySem.W.Frag) (cm : String → Addr → Prop) (A : Addr → Prop) (c0 : Cfg) (a : Addr) (s : Src) : Prop := ∀ (B : Addr → Prop), (∀ a, B a → A a ∨ c0.H a = none) → ∀ c, Ext c0 c → RelC ⟨K, cm, B⟩ c → s.held c.S → ∃ vs, SqL K c.H a vs ∧ RpA ⟨K, cm, B⟩ c s.xs vs
def SeeT (K : PySem.W.Frag) (cm : String → Addr → Prop) (A : Addr → Prop) (c0 : Cfg) (a : Addr) (s : Src) : Prop := ∀ (B : Addr → Prop), (∀ a, B a → A a ∨ c0.H a = none) → ∀ c, Ext c0 c → RelC ⟨K, cm, B⟩ c → s.held c.S → ∃ vs, SqT K c.H a vs ∧ RpA ⟨K, cm, B⟩ c s.xs vs
theorem see_tup {c0 : Cfg} {a : Addr} {xs : List D} {vs : List V} (n : ¬ Own ⟨K, cm, A⟩ c0 a) (h : c0.H a = some (.tup vs)) (r : RpA ⟨K, cm, A⟩ c0 xs vs) : SeeT K cm A c0 a ⟨xs, []⟩ := fun B hB c x rel _ =>
  ⟨vs, .inl (.inl (x.keep a _ (Own.not n) h).1), RpA.mono x xs vs (RpA.more' (G := ⟨K, cm, A⟩) hB xs vs r)⟩
theorem see_lst {c0 : Cfg} {a : Addr} {xs : List D} {vs : List V} (n : ¬ Own ⟨K, cm, A⟩ c0 a) (h : c0.H a = some (.lst vs)) (r : RpA ⟨K, cm, A⟩ c0 xs vs) : SeeL K cm A c0 a ⟨xs, []⟩ := fun B hB c x rel _ =>
  ⟨vs, .inl (.inl (x.keep a _ (Own.not n) h).1), RpA.mono x xs vs (RpA.more' (G := ⟨K, cm, A⟩) hB xs vs r)⟩
theorem see_loc {c0 : Cfg} {a : Addr} {m : Nat} {xs : List D} (hφ : c0.φ[m]? = some a) : SeeL K cm A c0 a ⟨xs, [(m, xs)]⟩ := fun B hB c x rel held => by
  have hφ' := x.pre m a hφ
  rcases held_one.mp held with e | e
  · obtain ⟨vs, h, r⟩ := rel.obj m a _ hφ' e
    exact ⟨vs, .inl (.inl h), r⟩
  · obtain ⟨o, vs, h, r⟩ := rel.obj m a _ hφ' e
    exact ⟨vs, .inl (.inr ⟨o, h⟩), r⟩
theorem walk_lst {c0 : Cfg} {a : Addr} {s : Src} (see : SeeL K cm A c0 a s) : WalkD K cm A c0 (Itl K a) s := fun B hB c x rel held i => by
  obtain ⟨vs, q, r1⟩ := see B hB c x rel held
  refine ⟨fun y hy => ?_, fun hl => ⟨vs, q, by rw [← r1.length]; exact hl⟩⟩
  obtain ⟨v, hv, rv⟩ := r1.get hy
  refine ⟨⟨vs, v, q, hv⟩, fun u H' hu => ?_⟩
  obtain ⟨e, hu⟩ := hu
  have := hu vs q
  rw [hv] at this
  cases this
  exact ⟨c, e.symm, rfl, .refl c, rel, rv⟩
theorem walk_tup {c0 : Cfg} {a : Addr} {s : Src} (see : SeeT K cm A c0 a s) : WalkD K cm A c0 (Itt K a) s := fun B hB c x rel held i => by
  obtain ⟨vs, q, r1⟩ := see B hB c x rel held
  refine ⟨fun y hy => ?_, fun hl => ⟨vs, q, by rw [← r1.length]; exact hl⟩⟩
  obtain ⟨v, hv, rv⟩ := r1.get hy
  refine ⟨⟨vs, v, q, hv⟩, fun u H' hu => ?_⟩
  obtain ⟨e, hu⟩ := hu
  have := hu vs q
  rw [hv] at this
  cases this
  exact ⟨c, e.symm, rfl, .refl c, rel, rv⟩
theorem new_pair {B : Addr → Prop} {c : Cfg} (rel : RelC ⟨K, cm, B⟩ c) {T : Addr} {d e : D} {v w : V} (hT : c.H T = none) (r : Rp ⟨K, cm, B⟩ c d v) (s : Rp ⟨K, cm, B⟩ c e w) :
    ∃ c', c'.H = upd c.H T (.tup [v, w]) ∧ c'.S = c.S ∧ Ext c c' ∧ RelC ⟨K, cm, B⟩ c' ∧ Rp ⟨K, cm, B⟩ c' (.tup [d, e]) (.ref T) :=
  have x : Ext c ⟨c.φ, c.S, upd c.H T (.tup [v, w])⟩ := Ext.lay rel hT
  ⟨⟨c.φ, c.S, upd c.H T (.tup [v, w])⟩, rfl, rfl, x, rel.lay hT, T, [v, w], rfl, own_new rel hT, upd_same, v, [w], rfl, Rp.mono x d v r, w, [], rfl, Rp.mono x e w s, rfl⟩
theorem walk_enum {c0 : Cfg} {a : Addr} {s : Src} (see : SeeL K cm A c0 a s) : WalkD K cm A c0 (Ite K a) ⟨(List.range s.xs.length).map fun (k : Nat) => .tup [.int (k : Int), s.xs.getD k .non], s.at_⟩ := fun B hB c x rel held i => by
  obtain ⟨vs, q, r1⟩ := see B hB c x rel held
  refine ⟨fun y hy => ?_, fun hl => ⟨vs, q, ?_⟩⟩
  · have hy : ((List.range s.xs.length).map fun (k : Nat) => D.tup [.int (k : Int), s.xs.getD k .non])[i]? = some y := hy
    rw [List.getElem?_map] at hy
    have hi : i < s.xs.length := by
      by_cases hi : i < s.xs.length
      · exact hi
      · rw [List.getElem?_eq_none (by simpa using Nat.le_of_not_lt hi)] at hy
        cases hy
    rw [List.getElem?_range hi] at hy
    cases hy
    obtain ⟨v, hv, rv⟩ := r1.get (List.getElem?_eq_getElem hi)
    refine ⟨⟨vs, v, q, hv⟩, fun u H' hu => ?_⟩
    obtain ⟨T, z, e, hT, eH, hu⟩ := hu
    have := hu vs q
    rw [hv] at this
    cases this
    have gd : s.xs.getD i .non = s.xs[i] := by rw [List.getD_eq_getElem?_getD, List.getElem?_eq_getElem hi]; rfl
    rw [eH, e]
    show ∃ c', _ ∧ _ ∧ _ ∧ _ ∧ Rp _ c' (.tup [.int (i : Int), s.xs.getD i .non]) _
    rw [gd]
    exact new_pair (d := .int (i : Int)) (v := .int (i : Nat)) rel hT rfl rv
  · have hl : ((List.range s.xs.length).map fun (k : Nat) => D.tup [.int (k : Int), s.xs.getD k .non]).length ≤ i := hl
    rw [List.length_map, List.length_range] at hl
    rw [← r1.length]
    exact hl
def zipD (xs ys : List D) : List D := (xs.zip ys).map fun p => .tup [p.1, p.2]
theorem zipD_get {xs ys : List D} {i : Nat} {y : D} (h : (zipD xs ys)[i]? = some y) : ∃ a b, xs[i]? = some a ∧ ys[i]? = some b ∧ y = .tup [a, b] := by
  unfold zipD at h
  rw [List.getElem?_map] at h
  obtain ⟨p, hp, e⟩ := Option.map_eq_some_iff.mp h
  rw [List.getElem?_zip_eq_some] at hp
  exact ⟨p.1, p.2, hp.1, hp.2, e.symm⟩
theorem walk_zip {c0 : Cfg} {a b : Addr} {s s' : Src} (see : SeeL K cm A c0 a s) (see' : SeeL K cm A c0 b s') : WalkD K cm A c0 (Itz K a b) ⟨zipD s.xs s'.xs, s.at_ ++ s'.at_⟩ := fun B hB c x rel held i => by
  obtain ⟨vs, q, r1⟩ := see B hB c x rel fun p hp => held p (List.mem_append_left _ hp)
  obtain ⟨ws, q', r2⟩ := see' B hB c x rel fun p hp => held p (List.mem_append_right _ hp)
  refine ⟨fun y hy => ?_, fun hl => ⟨vs, ws, q, q', ?_⟩⟩
  · obtain ⟨d, e, h1, h2, rfl⟩ := zipD_get hy
    obtain ⟨v, hv, rv⟩ := r1.get h1
    obtain ⟨w, hw, rw⟩ := r2.get h2
    refine ⟨⟨vs, ws, v, w, q, q', hv, hw⟩, fun u H' hu => ?_⟩
    obtain ⟨T, z, z', e, hT, eH, hu, hu'⟩ := hu
    have h3 := hu vs q
    rw [hv] at h3
    cases h3
    have h4 := hu' ws q'
    rw [hw] at h4
    cases h4
    rw [eH, e]
    exact new_pair rel hT rv rw
  · have hl : (zipD s.xs s'.xs).length ≤ i := hl
    unfold zipD at hl
    rw [List.length_map, List.length_zip] at hl
    rw [← r1.length, ← r2.length]
    omega
theorem walk_zipT {c0 : Cfg} {a b : Addr} {s s' : Src} (see : SeeT K cm A c0 a s) (see' : SeeT K cm A c0 b s') : WalkD K cm A c0 (RZ.ItzT K a b) ⟨zipD s.xs s'.xs, s.at_ ++ s'.at_⟩ := fun B hB c x rel held i => by
  obtain ⟨vs, q, r1⟩ := see B hB c x rel fun p hp => held p (List.mem_append_left _ hp)
  obtain ⟨ws, q', r2⟩ := see' B hB c x rel fun p hp => held p (List.mem_append_right _ hp)
  refine ⟨fun y hy => ?_, fun hl => ⟨vs, ws, q, q', ?_⟩⟩
  · obtain ⟨d, e, h1, h2, rfl⟩ := zipD_get hy
    obtain ⟨v, hv, rv⟩ := r1.get h1
    obtain ⟨w, hw, rw⟩ := r2.get h2
    refine ⟨⟨vs, ws, v, w, q, q', hv, hw⟩, fun u H' hu => ?_⟩
    obtain ⟨T, z, z', e, hT, eH, hu, hu'⟩ := hu
    have h3 := hu vs q
    rw [hv] at h3
    cases h3
    have h4 := hu' ws q'
    rw [hw] at h4
    cases h4
    rw [eH, e]
    exact new_pair rel hT rv rw
  · have hl : (zipD s.xs s'.xs).length ≤ i := hl
    unfold zipD at hl
    rw [List.length_map, List.length_zip] at hl
    rw [← r1.length, ← r2.length]
    omega
theorem walk_rng {c0 : Cfg} {lo : Int} {n : Nat} : WalkD K cm A c0 (Itr lo n) ⟨(List.range n).map fun (k : Nat) => D.int (lo + (k : Int)), []⟩ := fun B hB c x rel _ i => by
  refine ⟨fun y hy => ?_, fun hl => by
    have hl : ((List.range n).map fun (k : Nat) => D.int (lo + (k : Int))).length ≤ i := hl
    rw [List.length_map, List.length_range] at hl
    exact hl⟩
  rw [List.getElem?_map] at hy
  have hi : i < n := by
    by_cases hi : i < n
    · exact hi
    · rw [List.getElem?_eq_none (by simpa using Nat.le_of_not_lt hi)] at hy
      cases hy
  rw [List.getElem?_range hi] at hy
  cases hy
  refine ⟨hi, fun u H' hu => ?_⟩
  obtain ⟨e, hu⟩ := hu
  exact ⟨c, e.symm, rfl, .refl c, rel, hu⟩
end
/-- the things that one can walk as they are -/
def srcOf (S : Store) : D → Option Src
  | .lst xs => some ⟨xs, []⟩
  | .scr xs => some ⟨xs, []⟩
  | .loc n => match S[n]? with
    | some (.lst xs) => some ⟨xs, [(n, xs)]⟩
    | some (.frz xs) => some ⟨xs, [(n, xs)]⟩
    | _ => none
  | _ => none
theorem srcOf_rep {K : PySem.W.Frag} {A : Addr → Prop} {c : Cfg} {d : D} {v : V} {s : Src} (rel : RelC ⟨K, cm, A⟩ c) (r : Rp ⟨K, cm, A⟩ c d v) (e : srcOf c.S d = some s) : ∃ a, v = .ref a ∧ (∃ vs, SqL K c.H a vs) ∧ SeeL K cm A c a s ∧ s.held c.S := by
  cases d with
  | lst xs =>
    cases e
    obtain ⟨a, vs, e1, n, hH, r⟩ := r
    exact ⟨a, e1, ⟨vs, .inl (.inl hH)⟩, see_lst n hH r, held_nil⟩
  | scr xs =>
    cases e
    obtain ⟨a, vs, e1, q, r⟩ := r
    have all : ∀ {H : Hp}, SqL K (fun _ => none) a vs → SqL K H a vs := fun {H} h => by
      rcases h with (h | ⟨o, h⟩) | h
      · cases h
      · cases h
      · exact .inr h
    rcases q with ⟨n, o, h⟩ | h
    · exact ⟨a, e1, ⟨vs, .inl (.inr ⟨o, h⟩)⟩, fun B hB c' x rel' _ => ⟨vs, .inl (.inr ⟨o, (x.keep a _ (Own.not n) h).1⟩), RpA.mono x xs vs (RpA.more' (G := ⟨K, cm, A⟩) hB xs vs r)⟩, held_nil⟩
    · exact ⟨a, e1, ⟨vs, all h⟩, fun B hB c' x rel' _ => ⟨vs, all h, RpA.mono x xs vs (RpA.more' (G := ⟨K, cm, A⟩) hB xs vs r)⟩, held_nil⟩
  | loc m =>
    replace e : (match c.S[m]? with
      | some (.lst xs) => some (Src.mk xs [(m, xs)])
      | some (.frz xs) => some (Src.mk xs [(m, xs)])
      | _ => none) = some s := e
    split at e
    · rename_i xs hx
      cases e
      obtain ⟨a, e1, hφ, vs, hH, r⟩ := Rp.obj rel r hx
      exact ⟨a, e1, ⟨vs, .inl (.inl hH)⟩, see_loc hφ, held_one.mpr (.inl hx)⟩
    · rename_i xs hx
      cases e
      obtain ⟨a, e1, hφ, o, vs, hH, r⟩ := Rp.obj rel r hx
      exact ⟨a, e1, ⟨vs, .inl (.inr ⟨o, hH⟩)⟩, see_loc hφ, held_one.mpr (.inr hx)⟩
    · cases e
  | _ => cases e
def diList (e : DEv) : DIv := fun st S => (e st S).bind fun x S1 => match srcOf S1 x with
  | some s => .ok s S1
  | none => .no
theorem snd_ilist {K : PySem.W.Frag} {t : TE} {d : DEv} (s : Snd K cm E t d) : SndI K cm E (iList K t) (diList d) := fun A c st σ Q rel loc h => s A c st σ _ rel loc (Post.seq h fun x v c1 _ x1 rel1 rx h1 => by
  split at h1
  · rename_i s hs
    obtain ⟨a, e1, ex, see, held⟩ := srcOf_rep rel1 rx hs
    exact ⟨a, e1, ex, h1.here rel1 ⟨walk_lst see, held⟩⟩
  · exact h1.elim)
theorem di_list {tg e : Expr} {d : DEv} (h : DE X cm E e d) : DI X cm E tg e (diList d) := let ⟨_, p, s⟩ := h.ex; ⟨_, pi_list p, snd_ilist s⟩
def diTup (e : DEv) : DIv := fun st S => (e st S).bind fun x S1 => match x with
  | .tup xs => .ok ⟨xs, []⟩ S1
  | _ => .no
theorem snd_itup {K : PySem.W.Frag} {t : TE} {d : DEv} (s : Snd K cm E t d) : SndI K cm E (iTup K t) (diTup d) := fun A c st σ Q rel loc h => s A c st σ _ rel loc (Post.seq h fun x v c1 _ x1 rel1 rx h1 => by
  split at h1
  · obtain ⟨a, vs, e1, n, hH, r⟩ := rx
    exact ⟨a, e1, ⟨vs, .inl (.inl hH)⟩, h1.here rel1 ⟨walk_tup (see_tup n hH r), held_nil⟩⟩
  · exact h1.elim)
theorem di_tup {tg e : Expr} {d : DEv} (h : DE X cm E e d) : DI X cm E tg e (diTup d) := let ⟨_, p, s⟩ := h.ex; ⟨_, pi_tup p, snd_itup s⟩
/-- the signs of a text -/
def signsOf (x : Str) : List D := x.cps.toList.map fun k => .str ⟨#[k]⟩
def diStr (e : DEv) : DIv := fun st S => (e st S).bind fun x S1 => match x with
  | .str x => .ok ⟨signsOf x, []⟩ S1
  | _ => .no
theorem snd_istr {K : PySem.W.Frag} {t : TE} {d : DEv} (s : Snd K cm E t d) : SndI K cm E (iStr t) (diStr d) := fun A c st σ Q rel loc h => s A c st σ _ rel loc (Post.seq h fun x v c1 _ x1 rel1 rx h1 => by
  split at h1
  · rename_i x _
    refine ⟨x, rx.1, h1.here rel1 ⟨fun B hB c x' rel _ i => ⟨fun y hy => ?_, fun hl => ?_⟩, held_nil⟩⟩
    · have hy : (x.cps.toList.map fun k => D.str ⟨#[k]⟩)[i]? = some y := hy
      rw [List.getElem?_map] at hy
      obtain ⟨k, hk, e⟩ := Option.map_eq_some_iff.mp hy
      subst e
      have hi : i < x.cps.size := by
        have := (List.getElem?_eq_some_iff.mp hk).1
        simpa using this
      have hk' : x.cps[i]? = some k := by simpa using hk
      refine ⟨hi, fun u H' hu => ?_⟩
      obtain ⟨e, k', hk2, hu⟩ := hu
      rw [hk'] at hk2
      cases hk2
      have hm : k ∈ x.cps.toList := List.mem_of_getElem? hk
      have h' : (x.cps.all fun n => decide (n < 1114112)) = true := rx.2.1
      rw [← Array.all_toList, List.all_eq_true] at h'
      refine ⟨c, e.symm, rfl, .refl c, rel, hu, ?_, Nat.le_trans (show (1 : Nat) ≤ 1000 by decide) line1000⟩
      show (#[k].all fun n => decide (n < 1114112)) = true
      simpa using h' k hm
    · have hl : (x.cps.toList.map fun k => D.str ⟨#[k]⟩).length ≤ i := hl
      rw [List.length_map, Array.length_toList] at hl
      exact hl
  · exact h1.elim)
theorem di_str {tg e : Expr} {d : DEv} (h : DE X cm E e d) : DI X cm E tg e (diStr d) := let ⟨_, p, s⟩ := h.ex; ⟨_, pi_str p, snd_istr s⟩
theorem pi_or {tg e : Expr} {w w' : TI} (h : PI X tg e w) (h' : PI X tg e w') : PI X tg e (fun σ H R => w σ H R ∨ w' σ H R) := ⟨fun pins s σ H R I q => q.elim (h.run pins s σ H R I) (h'.run pins s σ H R I)⟩
/-- a list, a tuple, a text -/
def diAny (e : DEv) : DIv := fun st S => (e st S).bind fun x S1 => match x with
  | .tup xs => .ok ⟨xs, []⟩ S1
  | .str x => .ok ⟨signsOf x, []⟩ S1
  | x => match srcOf S1 x with
    | some s => .ok s S1
    | none => .no
theorem di_any {tg e : Expr} {d : DEv} (h : DE X cm E e d) : DI X cm E tg e (diAny d) := by
  obtain ⟨t, p, s⟩ := h.ex
  refine ⟨_, pi_or (pi_tup p) (pi_or (pi_str p) (pi_list p)), fun A c st σ Q rel loc h => ?_⟩
  have e1 : (diTup d st c.S = match d st c.S with | .ok (.tup xs) S1 => .ok ⟨xs, []⟩ S1 | .err x S => .err x S | _ => .no) := by
    unfold diTup
    cases d st c.S with
    | ok x S1 => cases x <;> rfl
    | _ => rfl
  cases q : d st c.S with
  | no => exact (show False by unfold diAny at h; rw [q] at h; exact h).elim
  | err x S =>
    refine .inl (snd_itup s A c st σ Q rel loc ?_)
    unfold diAny at h
    unfold diTup
    rw [q] at h ⊢
    exact h
  | ok x S1 =>
    have go : Post ⟨X.K, cm, A⟩ E (fun c' s J => WalkD X.K cm A c' J s ∧ s.held c'.S) c Q (diList d st c.S) → (iTup X.K t σ c.H Q ∨ (iStr t σ c.H Q ∨ iList X.K t σ c.H Q)) := fun z => .inr (.inr (snd_ilist s A c st σ Q rel loc z))
    cases x with
    | tup xs =>
      refine .inl (snd_itup s A c st σ Q rel loc ?_)
      unfold diAny at h
      unfold diTup
      rw [q] at h ⊢
      exact h
    | str x =>
      refine .inr (.inl (snd_istr s A c st σ Q rel loc ?_))
      unfold diAny at h
      unfold diStr
      rw [q] at h ⊢
      exact h
    | _ =>
      refine go ?_
      unfold diAny at h
      unfold diList
      rw [q] at h ⊢
      exact h
def rangeD (lo : Int) (n : Nat) : List D := (List.range n).map fun (k : Nat) => D.int (lo + (k : Int))
def diRng1 (a : DAv) : DIv := fun st S => (a st S).bind fun ds S1 => match ds with
  | [.int j] => if j < 2 ^ 60 ∧ -(2 ^ 60) ≤ j then .ok ⟨rangeD 0 j.toNat, []⟩ S1 else .no
  | _ => .no
def diRng2 (a : DAv) : DIv := fun st S => (a st S).bind fun ds S1 => match ds with
  | [.int i, .int j] => if j < 2 ^ 60 ∧ -(2 ^ 60) ≤ j ∧ i < 2 ^ 60 ∧ -(2 ^ 60) ≤ i then .ok ⟨rangeD i (j - i).toNat, []⟩ S1 else .no
  | _ => .no
theorem RpA.one {G : Gam} {c : Cfg} {x : D} {vs : List V} (h : RpA G c [x] vs) : ∃ v, vs = [v] ∧ Rp G c x v := let ⟨v, r, e, h1, t⟩ := h; ⟨v, by rw [e, show r = [] from t], h1⟩
theorem RpA.two {G : Gam} {c : Cfg} {x y : D} {vs : List V} (h : RpA G c [x, y] vs) : ∃ v w, vs = [v, w] ∧ Rp G c x v ∧ Rp G c y w := let ⟨v, r, e, h1, t⟩ := h; let ⟨w, e2, h2⟩ := RpA.one t; ⟨v, w, by rw [e, e2], h1, h2⟩
theorem RpA.three {G : Gam} {c : Cfg} {x y z : D} {vs : List V} (h : RpA G c [x, y, z] vs) : ∃ v w u, vs = [v, w, u] ∧ Rp G c x v ∧ Rp G c y w ∧ Rp G c z u := let ⟨v, r, e, h1, t⟩ := h; let ⟨w, u, e2, h2, h3⟩ := RpA.two t; ⟨v, w, u, by rw [e, e2], h1, h2, h3⟩
theorem di_rng1 {tg : Expr} {d : DAv} {p : Pos} (hg : Gl X "range") (hm : X.mg "range" = none) (h : DA X cm E [a] d) (hs : starEach [a] X.env = [(false, eval a X.env)] := by rfl) : DI X cm E tg (.Call (.Name "range" p) [a] [] pos) (diRng1 d) := by
  obtain ⟨t, p, s⟩ := h.ex
  refine ⟨_, pi_range1 hg hm p hs, fun A c st σ Q rel loc h => s A c st σ _ rel loc (Post.seq h fun ds vs c1 _ x1 rel1 rx h1 => ?_)⟩
  split at h1
  · split at h1
    · rename_i j _ hj
      obtain ⟨v, e, rv⟩ := RpA.one rx
      exact ⟨j, by rw [e, show v = .int j from rv], by omega, by omega, h1.here rel1 ⟨walk_rng, held_nil⟩⟩
    · exact h1.elim
  · exact h1.elim
theorem di_rng2 {tg : Expr} {d : DAv} {p : Pos} (hg : Gl X "range") (hm : X.mg "range" = none) (h : DA X cm E [a, b] d) (hs : starEach [a, b] X.env = [(false, eval a X.env), (false, eval b X.env)] := by rfl) (hs2 : starEach [b] X.env = [(false, eval b X.env)] := by rfl) :
    DI X cm E tg (.Call (.Name "range" p) [a, b] [] pos) (diRng2 d) := by
  obtain ⟨t, p, s⟩ := h.ex
  refine ⟨_, pi_range2 hg hm p hs hs2, fun A c st σ Q rel loc h => s A c st σ _ rel loc (Post.seq h fun ds vs c1 _ x1 rel1 rx h1 => ?_)⟩
  split at h1
  · split at h1
    · rename_i i j _ hj
      obtain ⟨v, w, e, rv, rw⟩ := RpA.two rx
      exact ⟨i, j, by rw [e, show v = .int i from rv, show w = .int j from rw], ⟨by omega, by omega, by omega, by omega⟩, h1.here rel1 ⟨walk_rng, held_nil⟩⟩
    · exact h1.elim
  · exact h1.elim
def diEnumerate (a : DAv) : DIv := fun st S => (a st S).bind fun ds S1 => match ds with
  | [x] => match srcOf S1 x with
    | some s => .ok ⟨(List.range s.xs.length).map fun (k : Nat) => .tup [.int (k : Int), s.xs.getD k .non], s.at_⟩ S1
    | none => .no
  | _ => .no
theorem di_enumerate {elts : List Expr} {kk : Nat} {tpos : Pos} {d : DAv} {p : Pos} (hg : Gl X "enumerate") (hm : X.mg "enumerate" = none) (h : DA X cm E [a] d) (hs : starEach [a] X.env = [(false, eval a X.env)] := by rfl) : DI X cm E (.Tuple elts kk tpos) (.Call (.Name "enumerate" p) [a] [] pos) (diEnumerate d) := by
  obtain ⟨t, p, s⟩ := h.ex
  refine ⟨_, pi_enum hg hm p hs, fun A c st σ Q rel loc h => s A c st σ _ rel loc (Post.seq h fun ds vs c1 _ x1 rel1 rx h1 => ?_)⟩
  split at h1
  · split at h1
    · rename_i s hs
      obtain ⟨v, e, rv⟩ := RpA.one rx
      obtain ⟨a, e1, ⟨vs', ex⟩, see, held⟩ := srcOf_rep rel1 rv hs
      exact ⟨a, vs', by rw [e, e1], ex, h1.here rel1 ⟨walk_enum see, held⟩⟩
    · exact h1.elim
  · exact h1.elim
def diZip (a : DAv) : DIv := fun st S => (a st S).bind fun ds S1 => match ds with
  | [.tup xs, .tup ys] => .ok ⟨zipD xs ys, []⟩ S1
  | [x, y] => match srcOf S1 x, srcOf S1 y with
    | some s, some s' => .ok ⟨zipD s.xs s'.xs, s.at_ ++ s'.at_⟩ S1
    | _, _ => .no
  | _ => .no
theorem di_zip {elts : List Expr} {kk : Nat} {tpos : Pos} {d : DAv} {p : Pos} (hg : Gl X "zip") (hm : X.mg "zip" = none) (h : DA X cm E [a, b] d) (hs : starEach [a, b] X.env = (false, eval a X.env) :: starEach [b] X.env := by rfl) (hpl : (backTo pos (starEach [b] X.env)).any (·.1) = false := by rfl) :
    DI X cm E (.Tuple elts kk tpos) (.Call (.Name "zip" p) [a, b] [] pos) (diZip d) := by
  obtain ⟨t, p, s⟩ := h.ex
  refine ⟨_, RZ.pi_zipA hg hm p hs hpl, fun A c st σ Q rel loc h => s A c st σ _ rel loc (Post.seq h fun ds vs c1 _ x1 rel1 rx h1 => ?_)⟩
  split at h1
  · obtain ⟨v, w, e, rv, rw⟩ := RpA.two rx
    obtain ⟨a, vs1, e1, n1, hH1, r1⟩ := rv
    obtain ⟨b, vs2, e2, n2, hH2, r2⟩ := rw
    exact ⟨a, b, vs1, vs2, by rw [e, e1, e2], .inr ⟨.inl (.inl hH1), .inl (.inl hH2), h1.here rel1 ⟨walk_zipT (see_tup n1 hH1 r1) (see_tup n2 hH2 r2), held_nil⟩⟩⟩
  · split at h1
    · rename_i s s' hs1 hs2
      obtain ⟨v, w, e, rv, rw⟩ := RpA.two rx
      obtain ⟨a, e1, ⟨vs1, ex1⟩, see1, held1⟩ := srcOf_rep rel1 rv hs1
      obtain ⟨b, e2, ⟨vs2, ex2⟩, see2, held2⟩ := srcOf_rep rel1 rw hs2
      exact ⟨a, b, vs1, vs2, by rw [e, e1, e2], .inl ⟨ex1, ex2, h1.here rel1 ⟨walk_zip see1 see2, fun p hp => (List.mem_append.mp hp).elim (held1 p) (held2 p)⟩⟩⟩
    · exact h1.elim
  · exact h1.elim
open Classical in
noncomputable def forD (s : Src) (g : DGv) (b : DSv) : List D → DSt → Store → R Fl
  | [], st, S => if s.held S then .ok (.nx st) S else .no
  | x :: xs, st, S => if s.held S then (g x st S).bind fun st1 S1 => match b st1 S1 with
      | .ok (.nx st2) S2 => forD s g b xs st2 S2
      | .ok (.ct st2) S2 => forD s g b xs st2 S2
      | .ok (.bk st2) S2 => .ok (.nx st2) S2
      | .ok (.rt d) S2 => .ok (.rt d) S2
      | .err x S2 => .err x S2
      | .no => .no
    else .no
noncomputable def dFor (i : DIv) (g : DGv) (b : DSv) : DSv := fun st S => (i st S).bind fun s S1 => forD s g b s.xs st S1
theorem snd_for {K : PySem.W.Frag} {wi : TI} {g : TG} {tb : TS} {di : DIv} {dg : DGv} {db : DSv} (si : SndI K cm E wi di) (sg : SndG K cm E g dg) (sb : SndS K cm E tb db) : SndS K cm E (tFor wi g tb) (dFor di dg db) := fun A c0 st σ Ds rel loc h => by
  refine si A c0 st σ _ rel loc (Post.seqS h fun s J c1 _ x1 rel1 ⟨wk, held1⟩ h1 => ?_)
  refine ⟨fun i m σ H => m = s.xs.length - i ∧ i ≤ s.xs.length ∧ ∃ c st, c.H = H ∧ Ext c1 c ∧ RelC ⟨K, cm, A⟩ c ∧ LocR ⟨K, cm, A⟩ c st σ ∧ PostS ⟨K, cm, A⟩ E c Ds (forD s dg db (s.xs.drop i) st c.S),
    ⟨_, rfl, Nat.zero_le _, c1, st, rfl, .refl c1, rel1, loc.mono x1, h1⟩, ?_⟩
  rintro i m σ H ⟨rfl, hi, c, st, rfl, x, relc, locc, hc⟩
  by_cases hlt : i < s.xs.length
  · rw [List.drop_eq_getElem_cons hlt] at hc
    unfold forD at hc
    split at hc
    · rename_i held
      obtain ⟨w1, _⟩ := wk A (fun a z => .inl z) c x relc held i
      obtain ⟨go, yld⟩ := w1 _ (List.getElem?_eq_getElem hlt)
      refine .inr ⟨go, fun σ' H' => ∃ c' st', c'.H = H' ∧ Ext c1 c' ∧ RelC ⟨K, cm, A⟩ c' ∧ LocR ⟨K, cm, A⟩ c' st' σ' ∧ PostS ⟨K, cm, A⟩ E c' Ds (forD s dg db (s.xs.drop (i + 1)) st' c'.S), fun σ' H' ⟨c', st', e1, e2, e3, e4, e5⟩ =>
        ⟨s.xs.length - (i + 1), by omega, rfl, hlt, c', st', e1, e2, e3, e4, e5⟩, fun v H' hy => ?_⟩
      obtain ⟨c2, e2, eS, x2, rel2, rv⟩ := yld v H' hy
      subst e2
      rw [← eS] at hc
      refine sg A c2 st σ _ v _ rel2 (locc.mono x2) rv (Post.seqS (PostS.trans x2 hc) fun st1 σ1 c3 _ x3 rel3 loc3 h3 => ?_)
      refine sb A c3 st1 σ1 _ rel3 loc3 ?_
      cases e : db st1 c3.S with
      | no => rw [e] at h3; exact h3
      | err z S => rw [e] at h3; exact h3
      | ok fl S =>
        rw [e] at h3
        cases fl with
        | nx st2 => exact fun σ' c' e' x' r' l' => ⟨c', st2, rfl, ((x.trans x2).trans x3).trans x', r', l', by rw [e']; exact PostS.trans x' h3⟩
        | ct st2 => exact fun σ' c' e' x' r' l' => ⟨c', st2, rfl, ((x.trans x2).trans x3).trans x', r', l', by rw [e']; exact PostS.trans x' h3⟩
        | bk st2 => exact h3
        | rt d => exact h3
    · exact hc.elim
  · have e : i = s.xs.length := by omega
    subst e
    rw [List.drop_length] at hc
    unfold forD at hc
    split at hc
    · rename_i held
      obtain ⟨_, w2⟩ := wk A (fun a z => .inl z) c x relc held s.xs.length
      exact .inl ⟨w2 (Nat.le_refl _), hc σ c rfl (.refl c) relc locc⟩
    · exact hc.elim
theorem ds_for {tg iter : Expr} {body : List Stmt} {di : DIv} {dg : DGv} {db : DSv} (G : GX X E k) (hi : DI X cm E tg iter di) (hg : DG X cm E tg dg) (hb : DSs X cm E body db) (hs : ∀ x, foldedSetIterable iter X.env x = pure x := by intro _; rfl) : DS X cm E (.For tg iter body [] pos) (dFor di dg db) := by
  obtain ⟨_, a1, b1⟩ := hi.ex
  obtain ⟨_, a2, b2⟩ := hg.ex
  obtain ⟨_, a3, b3⟩ := hb.ex
  exact ⟨_, ps_for G.own G.calm a1 a2 a3 hs, snd_for b1 b2 b3⟩
/-- while, at most n turns -/
def whileD (t : DTv) (b : DSv) : Nat → DSv
  | 0 => fun _ _ => .no
  | n + 1 => fun st S => (t st S).bind fun k S1 => if k = true then (match b st S1 with
      | .ok (.nx st2) S2 => whileD t b n st2 S2
      | .ok (.ct st2) S2 => whileD t b n st2 S2
      | .ok (.bk st2) S2 => .ok (.nx st2) S2
      | .ok (.rt d) S2 => .ok (.rt d) S2
      | .err x S2 => .err x S2
      | .no => .no) else .ok (.nx st) S1
theorem snd_while {K : PySem.W.Frag} {tc : TT} {tb : TS} {dt : DTv} {db : DSv} (st' : SndT K cm E tc dt) (sb : SndS K cm E tb db) (n : Nat) : SndS K cm E (tWhile tc tb) (whileD dt db n) := fun A c0 st σ Ds rel loc h => by
  refine ⟨fun m σ H => ∃ c st, c.H = H ∧ RelC ⟨K, cm, A⟩ c ∧ LocR ⟨K, cm, A⟩ c st σ ∧ PostS ⟨K, cm, A⟩ E c Ds (whileD dt db m st c.S), ⟨n, c0, st, rfl, rel, loc, h⟩, ?_⟩
  rintro m σ H ⟨c, st, rfl, relc, locc, hc⟩
  cases m with
  | zero => exact hc.elim
  | succ m =>
    refine st' A c st σ _ relc locc (Post.seqS hc fun k k' c1 _ x1 rel1 rk h1 => ?_)
    cases rk
    cases k with
    | false => exact h1 σ c1 rfl (.refl c1) rel1 (locc.mono x1)
    | true =>
      rw [if_pos rfl]
      rw [if_pos rfl] at h1
      refine ⟨fun σ' H' => ∃ c st, c.H = H' ∧ RelC ⟨K, cm, A⟩ c ∧ LocR ⟨K, cm, A⟩ c st σ' ∧ PostS ⟨K, cm, A⟩ E c Ds (whileD dt db m st c.S), fun σ' H' q => ⟨m, Nat.lt_succ_self _, q⟩, sb A c1 st σ _ rel1 (locc.mono x1) ?_⟩
      cases e : db st c1.S with
      | no => rw [e] at h1; exact h1
      | err z S => rw [e] at h1; exact h1
      | ok fl S =>
        rw [e] at h1
        cases fl with
        | nx st2 => exact fun σ' c' e' x' r' l' => ⟨c', st2, rfl, r', l', by rw [e']; exact PostS.trans x' h1⟩
        | ct st2 => exact fun σ' c' e' x' r' l' => ⟨c', st2, rfl, r', l', by rw [e']; exact PostS.trans x' h1⟩
        | bk st2 => exact h1
        | rt d => exact h1
theorem ds_while {t : Expr} {body : List Stmt} {dt : DTv} {db : DSv} (n : Nat) (G : GX X E k) (ht : DT X cm E t dt) (hb : DSs X cm E body db) : DS X cm E (.While t body [] pos) (whileD dt db n) := by
  obtain ⟨_, a2, b2⟩ := ht.ex
  obtain ⟨_, a3, b3⟩ := hb.ex
  exact ⟨_, ps_while G.own a2 a3, snd_while b2 b3 n⟩

/-! ### calls -/
def dCall (F : List D → Store → R D) (n : Nat) (a : DAv) : DEv := fun st S => (a st S).bind fun ds S1 => if ds.length = n then F ds S1 else .no
/-- what a def promises: it does as F does -/
def spD (K : PySem.W.Frag) (cm : String → Addr → Prop) (n : Nat) (F : List D → Store → R D) : Sp := fun vs H Q E => vs.length = n ∧ ∃ (A : Addr → Prop) (c : Cfg) (ds : List D), c.H = H ∧ RelC ⟨K, cm, A⟩ c ∧ RpA ⟨K, cm, A⟩ c ds vs ∧ Post ⟨K, cm, A⟩ E (Rp ⟨K, cm, A⟩) c Q (F ds c.S)
theorem RpA.const {G : Gam} {c : Cfg} : ∀ {ds : List D} {vs : List V}, ds.length = vs.length → (∀ p ∈ ds.zip vs, ∀ G c, Rp G c p.1 p.2) → RpA G c ds vs
  | [], [], _, _ => rfl
  | [], _ :: _, h, _ => by cases h
  | _ :: _, [], h, _ => by cases h
  | d :: ds, v :: vs, h, f => ⟨v, vs, rfl, f (d, v) (List.mem_cons_self) G c, RpA.const (Nat.succ.inj h) fun p hp => f p (List.mem_cons_of_mem _ hp)⟩
theorem snd_call {K : PySem.W.Frag} {F : List D → Store → R D} {n : Nat} {t : TA} {a : DAv} (s : SndA K cm E t a) : Snd K cm E (tCall (spD K cm n F) [] E t) (dCall F n a) := fun A c st σ Q rel loc h =>
  s A c st σ _ rel loc (Post.seq h fun ds vs c1 _ x1 rel1 rd h1 => by
    split at h1
    · rename_i hl
      rw [List.append_nil]
      exact ⟨by rw [← rd.length]; exact hl, A, c1, ds, rfl, rel1, rd, h1⟩
    · exact h1.elim)
def dCallD (F : List D → Store → R D) (n : Nat) (dd : List D) (a : DAv) : DEv := fun st S => (a st S).bind fun ds S1 => if (ds ++ dd).length = n then F (ds ++ dd) S1 else .no
theorem snd_callD {K : PySem.W.Frag} {F : List D → Store → R D} {n : Nat} {t : TA} {a : DAv} {dd : List D} {dvs : List V} (hd : ∀ G c, RpA G c dd dvs) (s : SndA K cm E t a) : Snd K cm E (tCall (spD K cm n F) dvs E t) (dCallD F n dd a) := fun A c st σ Q rel loc h =>
  s A c st σ _ rel loc (Post.seq h fun ds vs c1 _ x1 rel1 rd h1 => by
    have rr := rd.append (hd ⟨K, cm, A⟩ c1)
    split at h1
    · rename_i hl
      exact ⟨by rw [← rr.length]; exact hl, A, c1, ds ++ dd, rfl, rel1, rr, h1⟩
    · exact h1.elim)
section
variable {j n : Nat} {f : Addr} {fd : FuncData} {ps ks : List Str} {F : List D → Store → R D} {x : Str} {p : Pos} {e : Expr} {es : List Expr} {da : DAv} {dvs : List V} {dvl : List Value}
theorem de_call (G : GX X E k) (ok : FnOk X.prog X.w X.K X.mg X.base (CX X.prog X.w) j f fd ps (spD X.K cm n F)) (hr : Room j X.A) (hm : X.mg x = some (.ref f)) (hk : PySem.W.keepIn X.K (.ref f) = true) (hb : Binds X.K fd ps []) (ha : DA X cm E (e :: es) da) (hg : Gl X x := by rfl)
    (hdb : (x == ("__debug__" : Str)) = false := by decide) (he : starEach (e :: es) X.env = (false, eval e X.env) :: starEach es X.env := by rfl) (hpl : (backTo pos (starEach es X.env)).any (·.1) = false := by rfl) : DE X cm E (.Call (.Name x p) (e :: es) [] pos) (dCall F n da) :=
  let ⟨_, a, b⟩ := ha.ex; ⟨_, pe_call ok hr hg hm hk hb .nil G.pass a hdb he hpl, snd_call b⟩
theorem de_call0 (G : GX X E k) (ok : FnOk X.prog X.w X.K X.mg X.base (CX X.prog X.w) j f fd ps (spD X.K cm n F)) (hr : Room j X.A) (hm : X.mg x = some (.ref f)) (hk : PySem.W.keepIn X.K (.ref f) = true) (hb : Binds X.K fd ps []) (hg : Gl X x := by rfl)
    (hdb : (x == ("__debug__" : Str)) = false := by decide) : DE X cm E (.Call (.Name x p) [] [] pos) (dCall F n dNil) := ⟨_, pe_call0 ok hr hg hm hk hb .nil G.pass hdb, snd_call snd_nil⟩
theorem de_callD {dd : List D} (G : GX X E k) (ok : FnOk X.prog X.w X.K X.mg X.base (CX X.prog X.w) j f fd ps (spD X.K cm n F)) (hr : Room j X.A) (hm : X.mg x = some (.ref f)) (hk : PySem.W.keepIn X.K (.ref f) = true) (hb : Binds X.K fd ps dvl) (hv : Vals dvs dvl) (hd : ∀ G c, RpA G c dd dvs) (ha : DA X cm E (e :: es) da) (hg : Gl X x := by rfl)
    (hdb : (x == ("__debug__" : Str)) = false := by decide) (he : starEach (e :: es) X.env = (false, eval e X.env) :: starEach es X.env := by rfl) (hpl : (backTo pos (starEach es X.env)).any (·.1) = false := by rfl) : DE X cm E (.Call (.Name x p) (e :: es) [] pos) (dCallD F n dd da) :=
  let ⟨_, a, b⟩ := ha.ex; ⟨_, pe_call ok hr hg hm hk hb hv G.pass a hdb he hpl, snd_callD hd b⟩
/-- keywords -/
structure DK (X : Cx) (cm : String → Addr → Prop) (E : XK) (kws : List Keyword) (d : DAv) : Prop where
  ex : ∃ t, PK X kws t ∧ SndA X.K cm E t d
theorem dk_nil : DK X cm E [] dNil := ⟨_, pk_nil, snd_nil⟩
theorem dk_cons {nm : Option Str} {kpos : Pos} {kws : List Keyword} {d : DEv} {dr : DAv} (ha : DE X cm E e d) (hr : DK X cm E kws dr) : DK X cm E (⟨nm, e, kpos⟩ :: kws) (dCons d dr) := let ⟨_, a, b⟩ := ha.ex; let ⟨_, a', b'⟩ := hr.ex; ⟨_, pk_cons a a', snd_cons b b'⟩
def dCallK (F : List D → Store → R D) (m n l : Nat) (g : List D → List D → List D) (a kk : DAv) : DEv := fun st S => (a st S).bind fun ds S1 => (kk st S1).bind fun zs S2 => if ds.length = n ∧ zs.length = l ∧ (g ds zs).length = m then F (g ds zs) S2 else .no
theorem snd_callK {K : PySem.W.Frag} {F : List D → Store → R D} {m n l : Nat} {g : List D → List D → List D} {gV : List V → List V → List V} {t tk : TA} {a kk : DAv} (hrel : ∀ {G : Gam} {c : Cfg} {ds zs vs ws}, RpA G c ds vs → RpA G c zs ws → RpA G c (g ds zs) (gV vs ws)) (s : SndA K cm E t a) (s' : SndA K cm E tk kk) :
    Snd K cm E (tCallN n l (spD K cm m F) gV E t tk) (dCallK F m n l g a kk) := fun A c st σ Q rel loc h =>
  s A c st σ _ rel loc (Post.seq h fun ds vs c1 _ x1 rel1 rd h1 => s' A c1 st σ _ rel1 (loc.mono x1) (Post.seq h1 fun zs ws c2 _ x2 rel2 rz h2 => by
    split at h2
    · rename_i hl
      have rr := hrel (RpA.mono x2 ds vs rd) rz
      exact ⟨by rw [← rd.length]; exact hl.1, by rw [← rz.length]; exact hl.2.1, by rw [← rr.length]; exact hl.2.2, A, c2, _, rfl, rel2, rr, h2⟩
    · exact h2.elim))
variable {kws : List Keyword} {kk : DAv} {gU : List Value → List Value → List Value} {gV : List V → List V → List V} {g : List D → List D → List D} {m : Nat}
theorem de_callK (G : GX X E k) (ok : FnOk X.prog X.w X.K X.mg X.base (CX X.prog X.w) j f fd ps (spD X.K cm m F)) (hr : Room j X.A) (hm : X.mg x = some (.ref f)) (hk : PySem.W.keepIn X.K (.ref f) = true) (hb : KBn X.K fd ps n ks gU gV) (hrel : ∀ {G : Gam} {c : Cfg} {ds zs vs ws}, RpA G c ds vs → RpA G c zs ws → RpA G c (g ds zs) (gV vs ws))
    (ha : DA X cm E (e :: es) da) (hkw : DK X cm E kws kk) (hg : Gl X x := by rfl) (hall : (backToKw pos (keywordEach kws X.env)).all (·.1.isSome) = true := by rfl) (hks : (backToKw pos (keywordEach kws X.env)).filterMap (·.1) = ks := by rfl)
    (hdb : (x == ("__debug__" : Str)) = false := by decide) (he : starEach (e :: es) X.env = (false, eval e X.env) :: starEach es X.env := by rfl)
    (hpl : ((backTo pos (starEach (e :: es) X.env)).any (·.1) || (backToKw pos (keywordEach kws X.env)).any (·.1.isNone)) = false := by rfl) : DE X cm E (.Call (.Name x p) (e :: es) kws pos) (dCallK F m n ks.length g da kk) :=
  let ⟨_, a, b⟩ := ha.ex; let ⟨_, a', b'⟩ := hkw.ex; ⟨_, pe_callN ok hr hg hm hk hb G.pass a a' hall hks hdb he hpl, snd_callK hrel b b'⟩
theorem pe_callN0 {sp : Sp} {tk : TA} (F : FnOk X.prog X.w X.K X.mg X.base (CX X.prog X.w) j f fd ps sp) (hr : Room j X.A) (hg : Gl X x) (hm : X.mg x = some (.ref f)) (hk : PySem.W.keepIn X.K (.ref f) = true) (hb : KBn X.K fd ps 0 ks gU gV) (hx : Passes (CX X.prog X.w) X E)
    (hkw : PK X kws tk) (hall : (backToKw pos (keywordEach kws X.env)).all (·.1.isSome) = true := by rfl) (hks : (backToKw pos (keywordEach kws X.env)).filterMap (·.1) = ks := by rfl)
    (hdb : (x == ("__debug__" : Str)) = false := by decide) (hpl : ((backTo pos (starEach [] X.env)).any (·.1) || (backToKw pos (keywordEach kws X.env)).any (·.1.isNone)) = false := by rfl) :
    PE X (.Call (.Name x p) [] kws pos) (tCallN 0 ks.length sp gV E tNil tk) := by
  refine ⟨fun pins s σ H Q I h => ?_⟩
  refine wpAny_Call_Name_kw (ld_glob I hg hm ?_ hdb)
  refine PySem.W.callWith_KW0 (h₀ := X.base) I.ok.mod.kin hk hall ?_ hpl
  refine thn (hkw.run pos pins s σ H _ I h) fun ws s2 ⟨zs, H2, I2, rz, l1, l2, q2⟩ => ⟨I2.kIn, ?_⟩
  rw [hks]
  exact run_fnN (us := []) (vs := []) F hr hb hx I2 .nil rz rfl l2 q2
theorem de_callK0 (G : GX X E k) (ok : FnOk X.prog X.w X.K X.mg X.base (CX X.prog X.w) j f fd ps (spD X.K cm m F)) (hr : Room j X.A) (hm : X.mg x = some (.ref f)) (hk : PySem.W.keepIn X.K (.ref f) = true) (hb : KBn X.K fd ps 0 ks gU gV) (hrel : ∀ {G : Gam} {c : Cfg} {ds zs vs ws}, RpA G c ds vs → RpA G c zs ws → RpA G c (g ds zs) (gV vs ws))
    (hkw : DK X cm E kws kk) (hg : Gl X x := by rfl) (hall : (backToKw pos (keywordEach kws X.env)).all (·.1.isSome) = true := by rfl) (hks : (backToKw pos (keywordEach kws X.env)).filterMap (·.1) = ks := by rfl)
    (hdb : (x == ("__debug__" : Str)) = false := by decide) (hpl : ((backTo pos (starEach [] X.env)).any (·.1) || (backToKw pos (keywordEach kws X.env)).any (·.1.isNone)) = false := by rfl) : DE X cm E (.Call (.Name x p) [] kws pos) (dCallK F m 0 ks.length g dNil kk) :=
  let ⟨_, a', b'⟩ := hkw.ex; ⟨_, pe_callN0 ok hr hg hm hk hb G.pass a' hall hks hdb hpl, snd_callK hrel snd_nil b'⟩
end
theorem RpA.getD {G : Gam} {c : Cfg} : ∀ {ds : List D} {vs : List V} (i : Nat), RpA G c ds vs → Rp G c (ds.getD i .non) (vs.getD i .non)
  | [], _, i, h => by
    cases h
    rw [List.getD_nil, List.getD_nil]
    rfl
  | _ :: _, _, 0, ⟨v, r, e, h, _⟩ => by rw [e]; exact h
  | _ :: _, _, i + 1, ⟨v, r, e, _, t⟩ => by
    rw [e, List.getD_cons_succ, List.getD_cons_succ]
    exact RpA.getD i t
theorem RpA.cons {G : Gam} {c : Cfg} {d : D} {v : V} {ds : List D} {vs : List V} (h : Rp G c d v) (t : RpA G c ds vs) : RpA G c (d :: ds) (v :: vs) := ⟨v, vs, rfl, h, t⟩
theorem RpA.nil {G : Gam} {c : Cfg} : RpA G c [] [] := rfl
theorem vals_getD : ∀ {vs : List V} {us : List Value} (i : Nat), Vals vs us → RelV (vs.getD i .non) (us.getD i .none)
  | _, _, _, .nil => rfl
  | _, _, 0, .cons h _ => h
  | _ :: vs, _ :: us, i + 1, .cons _ t => by
    rw [List.getD_cons_succ, List.getD_cons_succ]
    exact vals_getD i t

/-! ### a def by its body -/
def runD (d : DSv) (N : Nat) (ds : List D) (S : Store) : R D := match d (ds.map some ++ List.replicate (N - ds.length) none) S with
  | .ok (.nx _) S' => .ok .non S'
  | .ok (.rt v) S' => .ok v S'
  | .ok (.bk _) _ => .no
  | .ok (.ct _) _ => .no
  | .err x S' => .err x S'
  | .no => .no
theorem LocR.start {G : Gam} {c : Cfg} {N : Nat} : ∀ {ds : List D} {vs : List V}, RpA G c ds vs → LocR G c (ds.map some ++ List.replicate (N - ds.length) none) (vs.map some ++ List.replicate (N - vs.length) none) := fun {ds vs} r => by
  have hl := r.length
  refine ⟨by simp [hl], fun i d e => ?_⟩
  by_cases hi : i < ds.length
  · rw [List.getElem?_append_left (by simpa using hi), List.getElem?_map] at e
    rw [List.getElem?_append_left (by simpa [← hl] using hi), List.getElem?_map]
    cases q : ds[i]? with
    | none => rw [q] at e; cases e
    | some y =>
      rw [q] at e
      cases e
      obtain ⟨v, h1, h2⟩ := r.get q
      exact ⟨v, by rw [h1]; rfl, h2⟩
  · rw [List.getElem?_append_right (by simpa using Nat.le_of_not_lt hi), List.getElem?_replicate] at e
    split at e <;> cases e
section
variable {P : Program} {w : World} {K : PySem.W.Frag} {mg : Str → Option Value} {base : Heap} {x qual : Str} {params : Arguments} {body : List Stmt} {scope : Scope} {dvs : List V} {kws : List (Str × V)} {f : Addr} {fd : FuncData} {N ps : List Str} {k : Nat}
theorem okD {d : DSv} (F : FunD K x qual params body scope dvs kws f fd) (S : FnScope N ps scope)
    (h : ∀ (cdv : Value) (A : Around) (outer : List Env) (s : Shared) (H : Hp) (E : XK), GX (cxOf (CX P w) P w K mg base N qual scope f cdv A outer s H E) E k → DSs (cxOf (CX P w) P w K mg base N qual scope f cdv A outer s H E) cm E body d) :
    FnOk P w K mg base (CX P w) (k + 1) f fd ps (spD K cm ps.length (runD d N.length)) := by
  refine F.ok S (fun vs H Q E h => h.1) fun cdv A outer s H vs Q E hr hsp => ?_
  obtain ⟨hl, B, c, ds, rfl, rel, rd, post⟩ := hsp
  obtain ⟨t, p, sn⟩ := (h cdv A outer s c.H E ⟨rfl, S.nd, hr, passes_call (takes_of rfl rfl rfl rfl) (fun _ _ _ _ z => z), passes_of rfl⟩).ex
  refine ⟨t, p, sn B c _ _ _ rel (LocR.start (N := N.length) rd) ?_⟩
  unfold runD at post
  split at post
  · rename_i st' S' e
    rw [e]
    exact fun σ' c' e' x' r' l' => post .non c' e' x' r' rfl
  · rename_i v S' e
    rw [e]
    exact fun v' c' e' x' r' rr => post v' c' e' x' r' rr
  · exact post.elim
  · exact post.elim
  · rename_i z S' e
    rw [e]
    exact post
  · exact post.elim
end

/-! ### list comprehensions -/
def R.mute {α : Type} : R α → R α
  | .err _ _ => .no
  | r => r
theorem Post.unmute {α β : Type} {G : Gam} {E E' : XK} {rp : Cfg → α → β → Prop} {c : Cfg} {Q : β → Hp → Prop} : ∀ {r : R α}, Post G E rp c Q r.mute → Post G E' rp c Q r
  | .ok _ _, h => h
  | .err _ _, h => h.elim
  | .no, h => h
def wipeD (st : DSt) : List Nat → DSt
  | [] => st
  | v :: vs => (wipeD st vs).set v none
theorem LocR.wipes {G : Gam} {c : Cfg} {st : DSt} {σ : L2.St} (h : LocR G c st σ) : ∀ vs : List Nat, LocR G c (wipeD st vs) (L2.wipe σ vs)
  | [] => h
  | v :: vs => by
    show LocR G c ((wipeD st vs).set v none) ((L2.wipe σ vs).set v none)
    exact (LocR.wipes h vs).wipe
theorem wipe_wipe {σ : L2.St} {vs : List Nat} : wipe (wipe σ vs) vs = wipe σ vs := by
  have go : ∀ (us : List Nat), (∀ u ∈ us, u ∈ vs) → wipe (wipe σ us) vs = wipe σ vs := by
    intro us
    induction us with
    | nil => intro _; rfl
    | cons u us ih =>
      intro h
      show wipe ((wipe σ us).set u none) vs = _
      rw [wipe_set (h u List.mem_cons_self)]
      exact ih fun x hx => h x (List.mem_cons_of_mem _ hx)
  exact go vs fun _ h => h
open Classical in
noncomputable def lcD (s : Src) (g : DGv) (t : DTv) (e : DEv) (st : DSt) : List D → List D → Store → R (List D)
  | [], acc, S => if s.held S then .ok acc S else .no
  | x :: xs, acc, S => if s.held S ∧ acc.length < 1000000 then ((g x st S).bind fun st1 S1 => (t st1 S1).bind fun k S2 => if k = true then (e st1 S2).bind fun y S3 => .ok (some y) S3 else .ok none S2).mute.bind fun o S3 => match o with
      | some y => lcD s g t e st xs (acc ++ [y]) S3
      | none => lcD s g t e st xs acc S3
    else .no
noncomputable def dLc (i : DIv) (g : DGv) (t : DTv) (e : DEv) (vs : List Nat) : DEv := fun st S => (i st S).bind fun s S1 => (lcD s g t e (wipeD st vs) s.xs [] S1).bind fun acc S2 => .ok (.lst acc) S2
theorem Ext.unlay {G : Gam} {c c' : Cfg} {p : Addr} {o : HO} (r : RelC G c) (hp : c.H p = none) (x : Ext ⟨c.φ, c.S, upd c.H p o⟩ c') : Ext c c' := (Ext.lay r hp).trans x
theorem snd_lc {K : PySem.W.Frag} {wi : TI} {g : TG} {tt : TT} {te : TE} {vs : List Nat} {di : DIv} {dg : DGv} {dt : DTv} {de : DEv} (si : SndI K cm E wi di) (sg : SndG K cm E0 g dg) (og : OnlyG vs g) (st' : SndT K cm E0 tt dt) (se : Snd K cm E0 te de) :
    Snd K cm E (tLc wi g tt te vs) (dLc di dg dt de vs) := fun A c0 st σ Q rel loc h => by
  refine si A c0 st σ _ rel loc (Post.seq h fun s J c1 _ x1 rel1 ⟨wk, held1⟩ h1 => ?_)
  intro p hp
  have relp : RelC ⟨K, cm, fun a => A a ∨ a = p⟩ ⟨c1.φ, c1.S, upd c1.H p (.lst [])⟩ := RelC.more rel1 hp
  have xp : Ext c1 ⟨c1.φ, c1.S, upd c1.H p (.lst [])⟩ := Ext.lay rel1 hp
  have locp : LocR ⟨K, cm, fun a => A a ∨ a = p⟩ ⟨c1.φ, c1.S, upd c1.H p (.lst [])⟩ (wipeD st vs) (wipe σ vs) := ((loc.mono x1).wipes vs |>.more hp).mono xp
  have nlive : ∀ {c : Cfg}, Ext ⟨c1.φ, c1.S, upd c1.H p (.lst [])⟩ c → ¬ Live c p := fun {c} x => (x.keep p _ (fun l => by
    obtain ⟨n, o, q, _⟩ := l
    exact phi_ne rel1 hp q rfl) upd_same).2
  refine ⟨fun i m H => m = s.xs.length - i ∧ i ≤ s.xs.length ∧ ∃ c acc ws, c.H = H ∧ Ext c1 c ∧ (∀ n : Nat, c.φ[n]? ≠ some p) ∧ RelC ⟨K, cm, fun a => A a ∨ a = p⟩ c ∧ LocR ⟨K, cm, fun a => A a ∨ a = p⟩ c (wipeD st vs) (wipe σ vs) ∧ c.H p = some (.lst ws) ∧ RpA ⟨K, cm, fun a => A a ∨ a = p⟩ c acc ws ∧
      Post ⟨K, cm, A⟩ E (Rp ⟨K, cm, A⟩) c1 Q ((lcD s dg dt de (wipeD st vs) (s.xs.drop i) acc c.S).bind fun acc S2 => .ok (.lst acc) S2),
    ⟨_, rfl, Nat.zero_le _, ⟨c1.φ, c1.S, upd c1.H p (.lst [])⟩, [], [], rfl, xp, fun n z => phi_ne rel1 hp z rfl, relp, locp, upd_same, rfl, h1⟩, ?_⟩
  rintro i m H ⟨rfl, hi, c, acc, ws, rfl, x, nφ, relc, locc, hH, ra, hc⟩
  by_cases hlt : i < s.xs.length
  · rw [List.drop_eq_getElem_cons hlt] at hc
    unfold lcD at hc
    split at hc
    · rename_i held
      obtain ⟨w1, _⟩ := wk (fun a => A a ∨ a = p) (fun a z => z.elim .inl fun z => .inr (z ▸ hp)) c x relc held.1 i
      obtain ⟨go, yld⟩ := w1 _ (List.getElem?_eq_getElem hlt)
      refine .inr ⟨go, fun H' => ∃ c' acc' ws', c'.H = H' ∧ Ext c1 c' ∧ (∀ n : Nat, c'.φ[n]? ≠ some p) ∧ RelC ⟨K, cm, fun a => A a ∨ a = p⟩ c' ∧ LocR ⟨K, cm, fun a => A a ∨ a = p⟩ c' (wipeD st vs) (wipe σ vs) ∧ c'.H p = some (.lst ws') ∧ RpA ⟨K, cm, fun a => A a ∨ a = p⟩ c' acc' ws' ∧
          Post ⟨K, cm, A⟩ E (Rp ⟨K, cm, A⟩) c1 Q ((lcD s dg dt de (wipeD st vs) (s.xs.drop (i + 1)) acc' c'.S).bind fun acc S2 => .ok (.lst acc) S2),
        fun H' ⟨c', acc', ws', e1, e2, e3, e4, e5, e6, e7, e8⟩ => ⟨s.xs.length - (i + 1), by omega, rfl, hlt, c', acc', ws', e1, e2, e3, e4, e5, e6, e7, e8⟩, fun v H' hy => ?_⟩
      obtain ⟨c2, e2, eS, x2, rel2, rv⟩ := yld v H' hy
      subst e2
      -- what the rest of the walk gives, whatever the turn gives
      have key : Post ⟨K, cm, fun a => A a ∨ a = p⟩ E0 (fun _ (a : Option D) (b : Option D) => a = b) c2 (fun o H' => True) ((dg s.xs[i] (wipeD st vs) c2.S).bind fun st1 S1 => (dt st1 S1).bind fun k S2 => if k = true then (de st1 S2).bind fun y S3 => .ok (some y) S3 else .ok none S2) := by
        rw [eS]
        cases q : ((dg s.xs[i] (wipeD st vs) c.S).bind fun st1 S1 => (dt st1 S1).bind fun k S2 => if k = true then (de st1 S2).bind fun y S3 => .ok (some y) S3 else .ok none S2) with
        | no => rw [q] at hc; exact hc.elim
        | err z S => rw [q] at hc; exact hc.elim
        | ok o S => exact fun _ _ _ _ _ _ => True.intro
      have hc' : ∀ o S', ((dg s.xs[i] (wipeD st vs) c2.S).bind fun st1 S1 => (dt st1 S1).bind fun k S2 => if k = true then (de st1 S2).bind fun y S3 => .ok (some y) S3 else .ok none S2) = R.ok o S' →
          Post ⟨K, cm, A⟩ E (Rp ⟨K, cm, A⟩) c1 Q (R.bind (match o with
            | some y => lcD s dg dt de (wipeD st vs) (s.xs.drop (i + 1)) (acc ++ [y]) S'
            | none => lcD s dg dt de (wipeD st vs) (s.xs.drop (i + 1)) acc S') fun acc S2 => .ok (.lst acc) S2) := fun o S' q => by
        rw [eS] at q
        rw [q] at hc
        exact hc
      have keepH : ∀ {c' : Cfg}, Ext c2 c' → c'.H p = some (.lst ws) := fun {c'} x' => by
        have x3 : Ext c c' := x2.trans x'
        have nl : ¬ Live c p := fun ⟨n, o, q, _⟩ => nφ n q
        exact (x3.keep p _ nl hH).1
      have keepφ : ∀ {c' : Cfg}, Ext c2 c' → ∀ n : Nat, c'.φ[n]? ≠ some p := fun {c'} x' n z => by
        rcases x'.new n p z with h | h
        · rcases x2.new n p h with h | h
          · exact nφ n h
          · rw [hH] at h; cases h
        · obtain ⟨o', ho'⟩ := x2.dom p _ hH
          rw [h] at ho'
          cases ho'
      refine og v (wipe σ vs) c2.H _ _ (fun σ2 H2 e q => ⟨by rw [e]; exact wipe_wipe, q⟩) (sg _ c2 (wipeD st vs) (wipe σ vs) _ v _ rel2 (locc.mono x2) rv (Post.seq key fun st1 σ1 c3 q3 x3 rel3 loc3 h3 => ?_))
      refine st' _ c3 st1 σ1 _ rel3 loc3 (Post.seq h3 fun k k' c4 q4 x4 rel4 rk h4 => ?_)
      cases rk
      have run : ((dg s.xs[i] (wipeD st vs) c2.S).bind fun st1 S1 => (dt st1 S1).bind fun k S2 => if k = true then (de st1 S2).bind fun y S3 => R.ok (some y) S3 else .ok none S2) = if k = true then (de st1 c4.S).bind fun y S3 => .ok (some y) S3 else .ok none c4.S := by
        rw [q3, R.bind_ok, q4, R.bind_ok]
      cases k with
      | true =>
        rw [if_pos rfl]
        rw [if_pos rfl] at h4 run
        refine se _ c4 st1 σ1 _ rel4 (loc3.mono x4) (Post.seq h4 fun y u c5 q5 x5 rel5 ru h5 => ?_)
        rw [q5, R.bind_ok] at run
        have x25 : Ext c2 c5 := (x3.trans x4).trans x5
        have hp5 := keepH x25
        have n5 := keepφ x25
        refine ⟨ws, hp5, by have := ra.length; have := held.2; rw [sizeLine_eq]; omega, ⟨c5.φ, c5.S, upd c5.H p (.lst (ws ++ [u]))⟩, acc ++ [y], ws ++ [u], rfl, Ext.aside c1.H c1 (((x.trans x2).trans x25)) hp, n5, rel5.aside (.inr rfl) n5, ?_, upd_same, ?_, hc' (some y) c5.S run⟩
        · have l5 := (locc.mono x2).mono x25
          exact ⟨l5.1, fun i d e => let ⟨v, e1, r⟩ := l5.2 i d e; ⟨v, e1, Rp.aside (Or.inr rfl : A p ∨ p = p) d v r⟩⟩
        · exact RpA.aside (Or.inr rfl : A p ∨ p = p) _ _ ((RpA.mono x25 _ _ (RpA.mono x2 _ _ ra)).append ⟨u, [], rfl, ru, rfl⟩)
      | false =>
        rw [if_neg Bool.false_ne_true]
        rw [if_neg Bool.false_ne_true] at run
        have x24 : Ext c2 c4 := x3.trans x4
        exact ⟨c4, acc, ws, rfl, (x.trans x2).trans x24, keepφ x24, rel4, (locc.mono x2).mono x24, keepH x24, RpA.mono x24 _ _ (RpA.mono x2 _ _ ra), hc' none c4.S run⟩
    · exact hc.elim
  · have e : i = s.xs.length := by omega
    subst e
    rw [List.drop_length] at hc
    unfold lcD at hc
    split at hc
    · rename_i held
      obtain ⟨_, w2⟩ := wk (fun a => A a ∨ a = p) (fun a z => z.elim .inl fun z => .inr (z ▸ hp)) c x relc held s.xs.length
      refine .inl ⟨w2 (Nat.le_refl _), hc (.ref p) c rfl x (relc.less fun a z => .inl z) ⟨p, ws, rfl, fun z => z.elim (fun z => ?_) fun ⟨n, o, q, _⟩ => nφ n q, hH, RpA.less (G := ⟨K, cm, fun a => A a ∨ a = p⟩) (fun a z => Or.inl z) _ _ ra⟩⟩
      exact notA_new rel1 hp z
    · exact hc.elim

/-! ### list comprehensions as rules -/
def canonE (K : PySem.W.Frag) (cm : String → Addr → Prop) (E : XK) (d : DEv) : TE := fun σ H Q => ∃ (A : Addr → Prop) (c : Cfg) (st : DSt), c.H = H ∧ RelC ⟨K, cm, A⟩ c ∧ LocR ⟨K, cm, A⟩ c st σ ∧ Post ⟨K, cm, A⟩ E (Rp ⟨K, cm, A⟩) c Q (d st c.S)
def canonT (K : PySem.W.Frag) (cm : String → Addr → Prop) (E : XK) (d : DTv) : TT := fun σ H Q => ∃ (A : Addr → Prop) (c : Cfg) (st : DSt), c.H = H ∧ RelC ⟨K, cm, A⟩ c ∧ LocR ⟨K, cm, A⟩ c st σ ∧ Post ⟨K, cm, A⟩ E (fun _ a b => a = b) c Q (d st c.S)
theorem DE.canon {e : Expr} {d : DEv} (h : DE X cm E e d) : PE X e (canonE X.K cm E d) := by
  obtain ⟨t, p, s⟩ := h.ex
  refine ⟨fun pins st σ H Q I ⟨A, c, ds, e, rel, loc, post⟩ => ?_⟩
  subst e
  exact p.run pins st σ c.H Q I (s A c ds σ Q rel loc post)
theorem snd_canonE {K : PySem.W.Frag} {d : DEv} : Snd K cm E (canonE K cm E d) d := fun A c st σ Q rel loc h => ⟨A, c, st, rfl, rel, loc, h⟩
theorem snd_canonT {K : PySem.W.Frag} {d : DTv} : SndT K cm E (canonT K cm E d) d := fun A c st σ Q rel loc h => ⟨A, c, st, rfl, rel, loc, h⟩
structure DTs (X : Cx) (cm : String → Addr → Prop) (E : XK) (es : List Expr) (d : DTv) : Prop where
  ex : ∃ t, PTs X es t ∧ SndT X.K cm E t d
def dYes : DTv := fun _ S => .ok true S
theorem dts_nil : DTs X cm E [] dYes := ⟨_, pts_nil, fun A c st σ Q rel loc h => h.here rel rfl⟩
theorem dts_one {e : Expr} {d : DTv} (h : DT X cm E e d) : DTs X cm E [e] d := let ⟨_, a, b⟩ := h.ex; ⟨_, pts_one a, b⟩
theorem DTs.canon {es : List Expr} {d : DTv} (h : DTs X cm E es d) : PTs X es (canonT X.K cm E d) := by
  obtain ⟨t, p, s⟩ := h.ex
  refine ⟨fun pins st σ H Q I ⟨A, c, ds, e, rel, loc, post⟩ => ?_⟩
  subst e
  exact p.run pins st σ c.H Q I (s A c ds σ Q rel loc post)
theorem GX.blk {k : Nat} (G : GX X E k) (s : Shared) (H : Hp) (scope : Scope) (ce : Env) (fp : List Addr) : GX (X.blk s H scope ce fp) E0 k :=
  ⟨G.calm, G.nd, G.room, passL, PassesOwn.never⟩
section
variable {elt tg iter : Expr} {ifs : List Expr} {scope : Scope} {own : List (Str × Nat)} {di : DIv} {dg : DGv} {g : TG} {dt : DTv} {de : DEv}
theorem de_lc (G : GX X E k) (hi : DI X cm E tg iter di) (ok : BlkOk X.N X.env.scope scope own)
    (hg : ∀ (s : Shared) (H : Hp) (C : Addr) (cl : List (Str × Addr)) (fp : List Addr), GX (X.blk s H scope (compEnvC scope cl C X.env) fp) E0 k → DGo (X.blk s H scope (compEnvC scope cl C X.env) fp) cm E0 tg (own.map (·.2)) dg g)
    (ht : ∀ (s : Shared) (H : Hp) (C : Addr) (cl : List (Str × Addr)) (fp : List Addr), GX (X.blk s H scope (compEnvC scope cl C X.env) fp) E0 k → DTs (X.blk s H scope (compEnvC scope cl C X.env) fp) cm E0 ifs dt)
    (he : ∀ (s : Shared) (H : Hp) (C : Addr) (cl : List (Str × Addr)) (fp : List Addr), GX (X.blk s H scope (compEnvC scope cl C X.env) fp) E0 k → DE (X.blk s H scope (compEnvC scope cl C X.env) fp) cm E0 elt de)
    (hs : ∀ x, foldedSetIterable iter X.env x = pure x := by intro _; rfl) : DE X cm E (.ListComp elt [⟨tg, iter, ifs, 0⟩] scope pos) (dLc di dg dt de (own.map (·.2))) := by
  obtain ⟨ti, pi, si⟩ := hi.ex
  have o := hg {} (fun _ => none) 0 [] [] (G.blk _ _ _ _ _)
  refine ⟨_, pe_lc (g := g) (tt := canonT X.K cm E0 dt) (te := canonE X.K cm E0 de) G.calm G.nd pi ok (fun s H C cl fp => (hg s H C cl fp (G.blk _ _ _ _ _)).pg) (fun s H C cl fp => (ht s H C cl fp (G.blk _ _ _ _ _)).canon) (fun s H C cl fp => (he s H C cl fp (G.blk _ _ _ _ _)).canon) hs, ?_⟩
  exact snd_lc si o.snd o.only snd_canonT snd_canonE
theorem ds_setLc {i : Nat} {y : Str} {py spos : Pos} (G : GX X E k) (hsw : swapsWith (.ListComp elt [⟨tg, iter, ifs, 0⟩] scope pos) (some (.Name y py)) spos.line X.env = pure true) (hi : DI X cm E tg iter di) (ok : BlkOk X.N X.env.scope scope own)
    (hg : ∀ (s : Shared) (H : Hp) (C : Addr) (cl : List (Str × Addr)) (fp : List Addr), GX (X.blk s H scope (compEnvC scope cl C X.env) fp) E0 k → DGo (X.blk s H scope (compEnvC scope cl C X.env) fp) cm E0 tg (own.map (·.2)) dg g)
    (ht : ∀ (s : Shared) (H : Hp) (C : Addr) (cl : List (Str × Addr)) (fp : List Addr), GX (X.blk s H scope (compEnvC scope cl C X.env) fp) E0 k → DTs (X.blk s H scope (compEnvC scope cl C X.env) fp) cm E0 ifs dt)
    (he : ∀ (s : Shared) (H : Hp) (C : Addr) (cl : List (Str × Addr)) (fp : List Addr), GX (X.blk s H scope (compEnvC scope cl C X.env) fp) E0 k → DE (X.blk s H scope (compEnvC scope cl C X.env) fp) cm E0 elt de)
    (hy : X.N[i]? = some y := by rfl) (hyl : X.env.scope.names.lookup y = some .local := by rfl) (hs : ∀ x, foldedSetIterable iter X.env x = pure x := by intro _; rfl) : DS X cm E (.Assign [.Name y py] (.ListComp elt [⟨tg, iter, ifs, 0⟩] scope pos) spos) (dSet i (dLc di dg dt de (own.map (·.2)))) := by
  obtain ⟨ti, pi, si⟩ := hi.ex
  have o := hg {} (fun _ => none) 0 [] [] (G.blk _ _ _ _ _)
  refine ⟨_, ps_setLc (g := g) (tt := canonT X.K cm E0 dt) (te := canonE X.K cm E0 de) G.calm G.nd hy hyl hsw pi ok (fun s H C cl fp => (hg s H C cl fp (G.blk _ _ _ _ _)).pg) (fun s H C cl fp => (ht s H C cl fp (G.blk _ _ _ _ _)).canon) (fun s H C cl fp => (he s H C cl fp (G.blk _ _ _ _ _)).canon) hs, ?_⟩
  have sn := snd_lc si o.snd o.only (snd_canonT (cm := cm) (E := E0) (K := X.K) (d := dt)) (snd_canonE (K := X.K) (cm := cm) (E := E0) (d := de))
  exact fun A c st σ Ds rel loc h => sn A c st σ _ rel loc (Post.seqS h fun x v c1 _ x1 rel1 rx h1 => h1 _ c1 rfl (.refl c1) rel1 ((loc.mono x1).set rx))
end

/-! ### built-ins -/
def NoErrA (f : List D → Store → R D) : Prop := ∀ ds S, R.calm (f ds S)
def CallS (K : PySem.W.Frag) (cm : String → Addr → Prop) (r : List V → Hp → VK → Prop) (F : List D → Store → R D) : Prop := ∀ (A : Addr → Prop) (c : Cfg) (ds : List D) (vs : List V) (Q : VK), RelC ⟨K, cm, A⟩ c → RpA ⟨K, cm, A⟩ c ds vs → Post ⟨K, cm, A⟩ (fun _ _ _ => False) (Rp ⟨K, cm, A⟩) c Q (F ds c.S) → r vs c.H Q
def dBlt (F : List D → Store → R D) (a : DAv) : DEv := fun st S => (a st S).bind fun ds S1 => F ds S1
theorem snd_blt {K : PySem.W.Frag} {r : List V → Hp → VK → Prop} {F : List D → Store → R D} {t : TA} {a : DAv} (hs : CallS K cm r F) (ne : NoErrA F) (s : SndA K cm E t a) : Snd K cm E (tCB r t) (dBlt F a) := fun A c st σ Q rel loc h =>
  s A c st σ _ rel loc (Post.seq h fun ds vs c1 _ x1 rel1 rd h1 => hs A c1 ds vs Q rel1 rd (h1.noerr (ne ds c1.S)))
section
variable {x : Str} {p : Pos} {e : Expr} {es : List Expr} {da : DAv} {id T : String} {r : List V → Hp → VK → Prop} {F : List D → Store → R D}
theorem de_blt (hc : CallR X (.builtin id) r) (hs : CallS X.K cm r F) (ne : NoErrA F) (hm : X.mg x = none) (ha : DA X cm E (e :: es) da) (hg : Gl X x := by rfl) (hv : bootBuiltins x = some (.builtin id) := by decide +kernel) (hn : x ≠ "__name__" := by decide) (hdb : (x == ("__debug__" : Str)) = false := by decide)
    (he : starEach (e :: es) X.env = (false, eval e X.env) :: starEach es X.env := by rfl) (hpl : (backTo pos (starEach es X.env)).any (·.1) = false := by rfl) : DE X cm E (.Call (.Name x p) (e :: es) [] pos) (dBlt F da) :=
  let ⟨_, a, b⟩ := ha.ex; ⟨_, pe_callB hc hg hm hv a hn hdb he hpl, snd_blt hs ne b⟩
theorem de_bty (hc : CallR X (.type T) r) (hs : CallS X.K cm r F) (ne : NoErrA F) (hm : X.mg x = none) (ha : DA X cm E (e :: es) da) (hg : Gl X x := by rfl) (hv : bootBuiltins x = some (.type T) := by decide +kernel) (hn : x ≠ "__name__" := by decide) (hdb : (x == ("__debug__" : Str)) = false := by decide)
    (he : starEach (e :: es) X.env = (false, eval e X.env) :: starEach es X.env := by rfl) (hpl : (backTo pos (starEach es X.env)).any (·.1) = false := by rfl) : DE X cm E (.Call (.Name x p) (e :: es) [] pos) (dBlt F da) :=
  let ⟨_, a, b⟩ := ha.ex; ⟨_, pe_callTy hc hg hm hv a hn hdb he hpl, snd_blt hs ne b⟩
end
section
variable {K : PySem.W.Frag}
/-- len -/
def dictLen (S : Store) : D → Option Nat
  | .loc n => match S[n]? with
    | some (.dK kvs) => some kvs.length
    | _ => none
  | _ => none
def lenV (ds : List D) (S : Store) : R D := match ds with
  | [.str x] => .ok (.int x.length) S
  | [d] => match sqOf S d with
    | some xs => .ok (.int xs.length) S
    | none => match dictLen S d with
      | some n => .ok (.int n) S
      | none => .no
  | _ => .no
def rLenU (K : PySem.W.Frag) : List V → Hp → VK → Prop := fun xs H Q => (∃ p ys, xs = [.ref p] ∧ (SqL K H p ys ∨ SqT K H p ys) ∧ Q (.int ys.length) H) ∨ (∃ z, xs = [.str z] ∧ z.length ≤ sizeLine ∧ Q (.int z.length) H) ∨ ∃ a kvs, xs = [V.ref a] ∧ H a = some (.dK kvs) ∧ Q (.int kvs.length) H
theorem call_lenU : CallR X (.builtin "len") (rLenU X.K) := call_len_seq.or (call_len_str.or call_lenD)
theorem lenV_s : CallS K cm (rLenU K) lenV := fun A c ds vs Q rel rd h => by
  unfold lenV at h
  split at h
  · obtain ⟨v, e, r⟩ := RpA.one rd
    exact .inr (.inl ⟨_, by rw [e, r.1], r.2.2, h.here rel rfl⟩)
  · rename_i d _
    obtain ⟨v, e, r⟩ := RpA.one rd
    split at h
    · rename_i xs hx
      obtain ⟨a, ws, e1, hs, t⟩ := sqOf_rep rel r hx
      exact .inl ⟨a, ws, by rw [e, e1], hs, by rw [← t.length]; exact h.here rel rfl⟩
    · split at h
      · rename_i n hn
        cases d with
        | loc m =>
          replace hn : (match c.S[m]? with
            | some (.dK kvs) => some kvs.length
            | _ => none) = some n := hn
          split at hn
          · rename_i kvs hk
            cases hn
            obtain ⟨a, e1, _, kws, hH, t⟩ := Rp.obj rel r hk
            exact .inr (.inr ⟨a, kws, by rw [e, e1], hH, by rw [← t.length]; exact h.here rel rfl⟩)
          · cases hn
        | _ => cases hn
      · exact h.elim
  · exact h.elim
theorem lenV_n : NoErrA lenV := fun ds S => by
  unfold lenV
  split <;> (try split) <;> (try split) <;> exact True.intro
/-- abs, min, max of two ints -/
def absV (ds : List D) (S : Store) : R D := match ds with
  | [.int i] => .ok (.int (if i < 0 then -i else i)) S
  | _ => .no
theorem absV_s : CallS K cm (fun xs H Q => ∃ i, xs = [.int i] ∧ Q (.int (if i < 0 then -i else i)) H) absV := fun A c ds vs Q rel rd h => by
  unfold absV at h
  split at h
  · obtain ⟨v, e, r⟩ := RpA.one rd
    exact ⟨_, by rw [e, show v = .int _ from r], h.here rel rfl⟩
  · exact h.elim
theorem absV_n : NoErrA absV := fun ds S => by unfold absV; split <;> exact True.intro
def maxV (ds : List D) (S : Store) : R D := match ds with
  | [.int i, .int j] => .ok (.int (if j > i then j else i)) S
  | _ => .no
theorem maxV_s : CallS K cm (fun xs H Q => ∃ i j, xs = [.int i, .int j] ∧ Q (.int (if j > i then j else i)) H) maxV := fun A c ds vs Q rel rd h => by
  unfold maxV at h
  split at h
  · obtain ⟨v, w, e, r, r2⟩ := RpA.two rd
    exact ⟨_, _, by rw [e, show v = .int _ from r, show w = .int _ from r2], h.here rel rfl⟩
  · exact h.elim
theorem maxV_n : NoErrA maxV := fun ds S => by unfold maxV; split <;> exact True.intro
def minV (ds : List D) (S : Store) : R D := match ds with
  | [.int i, .int j] => .ok (.int (if j < i then j else i)) S
  | _ => .no
theorem minV_s : CallS K cm (fun xs H Q => ∃ i j, xs = [.int i, .int j] ∧ Q (.int (if j < i then j else i)) H) minV := fun A c ds vs Q rel rd h => by
  unfold minV at h
  split at h
  · obtain ⟨v, w, e, r, r2⟩ := RpA.two rd
    exact ⟨_, _, by rw [e, show v = .int _ from r, show w = .int _ from r2], h.here rel rfl⟩
  · exact h.elim
theorem minV_n : NoErrA minV := fun ds S => by unfold minV; split <;> exact True.intro
/-- isinstance -/
inductive Ty where
  | NoneType | bool | int | str | list | tuple | dict
  deriving DecidableEq
def Ty.nm : Ty → String
  | .NoneType => "NoneType" | .bool => "bool" | .int => "int" | .str => "str" | .list => "list" | .tuple => "tuple" | .dict => "dict"
def tyOf (S : Store) : D → Option Ty
  | .non => some .NoneType
  | .bl _ => some .bool
  | .int _ => some .int
  | .str _ => some .str
  | .tup _ => some .tuple
  | .lst _ => some .list
  | .loc n => match S[n]? with
    | some (.lst _) => some .list
    | some (.frz _) => some .list
    | some (.dK _) => some .dict
    | some (.dT _) => some .dict
    | _ => none
  | .ty _ => none
  | .scr _ => none
theorem tyOf_rep {G : Gam} {c : Cfg} {d : D} {v : V} {t : Ty} (rel : RelC G c) (r : Rp G c d v) (e : tyOf c.S d = some t) : TyX G.K c.H v (.type t.nm) := by
  cases d with
  | non => cases e; rw [show v = .non from r]; exact .base .non
  | bl b => cases e; rw [show v = .bl b from r]; exact .base (.bl b)
  | int i => cases e; rw [show v = .int i from r]; exact .base (.int i)
  | str x => cases e; rw [show v = .str x from r.1]; exact .base (.str x)
  | tup xs => cases e; obtain ⟨a, vs, e1, _, h, _⟩ := r; rw [e1]; exact .base (.tup h)
  | lst xs => cases e; obtain ⟨a, vs, e1, _, h, _⟩ := r; rw [e1]; exact .base (.lst h)
  | loc n =>
    replace e : (match c.S[n]? with
      | some (.lst _) => some Ty.list
      | some (.frz _) => some Ty.list
      | some (.dK _) => some Ty.dict
      | some (.dT _) => some Ty.dict
      | _ => none) = some t := e
    split at e
    · rename_i xs hx
      cases e
      obtain ⟨a, e1, _, vs, h, _⟩ := Rp.obj rel r hx
      rw [e1]
      exact .base (.lst h)
    · rename_i xs hx
      cases e
      obtain ⟨a, e1, _, o, vs, h, _⟩ := Rp.obj rel r hx
      rw [e1]
      exact .base (.frz h)
    · rename_i xs hx
      cases e
      obtain ⟨a, e1, _, vs, h, _⟩ := Rp.obj rel r hx
      rw [e1]
      exact .base (.dK h)
    · rename_i xs hx
      cases e
      obtain ⟨a, e1, _, vs, h, _⟩ := Rp.obj rel r hx
      rw [e1]
      exact .base (.dT h)
    · cases e
  | ty n => cases e
  | scr xs => cases e
def tyNm : String → Option Ty
  | "bool" => some .bool
  | "int" => some .int
  | "str" => some .str
  | "list" => some .list
  | "tuple" => some .tuple
  | "dict" => some .dict
  | _ => none
theorem tyNm_is {n : String} {t : Ty} (h : tyNm n = some t) : n = t.nm := by
  unfold tyNm at h
  split at h <;> cases h <;> rfl
def isTy (a b : Ty) : Bool := decide (a = b) || (decide (a = .bool) && decide (b = .int))
theorem isTy_kit (a b : Ty) (hb : b ≠ .NoneType) : kitB a.nm b.nm = some (isTy a b) := by
  cases a <;> cases b <;> first | exact absurd rfl hb | decide +kernel
def isAny (a : Ty) : List D → Option Bool
  | [] => some false
  | .ty n :: r => match tyNm n, isAny a r with
    | some t, some k => some (isTy a t || k)
    | _, _ => none
  | _ :: _ => none
def isiV (ds : List D) (S : Store) : R D := match ds with
  | [d, .ty n] => match tyOf S d, tyNm n with
    | some a, some t => .ok (.bl (isTy a t)) S
    | _, _ => .no
  | [d, .tup ts] => match tyOf S d with
    | some a => match isAny a ts with
      | some k => .ok (.bl k) S
      | none => .no
    | none => .no
  | _ => .no
theorem tyNm_ne {n : String} {t : Ty} (h : tyNm n = some t) : t ≠ .NoneType := by
  unfold tyNm at h
  split at h <;> cases h <;> decide
theorem isAny_rep {G : Gam} {c : Cfg} {a : Ty} : ∀ {ts : List D} {vs : List V} {k : Bool}, RpA G c ts vs → isAny a ts = some k → ∃ us : List Value, Paired ClsV vs us ∧ PySem.W.kitAny G.K (.type a.nm) us = some k
  | [], _, _, r, e => by
    cases r
    cases e
    exact ⟨[], .nil, kitAny_nil⟩
  | d :: ts, _, k, ⟨v, r, e1, h, t⟩, e => by
    subst e1
    cases d with
    | ty n =>
      replace e : (match tyNm n, isAny a ts with
        | some t, some k => some (isTy a t || k)
        | _, _ => none) = some k := e
      split at e
      · rename_i ty k' h1 h2
        cases e
        obtain ⟨us, p, q⟩ := isAny_rep t h2
        rw [show v = .ty n from h, tyNm_is h1]
        refine ⟨.type ty.nm :: us, .cons (.ty _) p, kitAny_cons (kit_ty (isTy_kit a ty (tyNm_ne h1))) (fun z => by rw [z, Bool.false_or]; exact q) fun z => by rw [z]; rfl⟩
      · cases e
    | _ => cases e
def rIsiU (K : PySem.W.Frag) : List V → Hp → VK → Prop := fun xs H Q => rIsi K xs H Q ∨ rIsiT K xs H Q
theorem call_isiU : CallR X (.builtin "isinstance") (rIsiU X.K) := call_isi.or call_isiT
theorem isiV_s : CallS K cm (rIsiU K) isiV := fun A c ds vs Q rel rd h => by
  unfold isiV at h
  split at h
  · rename_i d n
    split at h
    · rename_i a t h1 h2
      obtain ⟨v, w, e, r, r2⟩ := RpA.two rd
      refine .inl ⟨v, .ty t.nm, .type a.nm, .type t.nm, _, ?_, .ty _, tyOf_rep rel r h1, kit_ty (isTy_kit a t (tyNm_ne h2)), h.here rel rfl⟩
      rw [e, show w = .ty n from r2, tyNm_is h2]
    · exact h.elim
  · rename_i d ts
    split at h
    · rename_i a h1
      split at h
      · rename_i k' h2
        obtain ⟨v, w, e, r, p, cs, e2, n2, hH, t2⟩ := RpA.two rd
        obtain ⟨us, q1, q2⟩ := isAny_rep t2 h2
        exact .inr ⟨v, p, cs, .type a.nm, us, k', by rw [e, e2], hH, q1, tyOf_rep rel r h1, q2, h.here rel rfl⟩
      · exact h.elim
    · exact h.elim
  · exact h.elim
theorem isiV_n : NoErrA isiV := fun ds S => by
  unfold isiV
  split <;> (try split) <;> (try split) <;> exact True.intro
/-- tuple(x), list(x) -/
def tupV (ds : List D) (S : Store) : R D := match ds with
  | [.tup xs] => .ok (.tup xs) S
  | [d] => match lsOf S d with
    | some xs => .ok (.tup xs) S
    | none => .no
  | _ => .no
theorem tupV_s : CallS K cm (fun xs H Q => ∃ p ys, xs = [.ref p] ∧ ((SqL K H p ys ∧ ∀ l, H l = none → Q (.ref l) (upd H l (.tup ys))) ∨ (SqT K H p ys ∧ Q (.ref p) H))) tupV := fun A c ds vs Q rel rd h => by
  unfold tupV at h
  split at h
  · obtain ⟨v, e, r⟩ := RpA.one rd
    obtain ⟨a, ws, e1, n, hH, t⟩ := id r
    exact ⟨a, ws, by rw [e, e1], .inr ⟨.inl (.inl hH), by rw [← e1]; exact h.here rel r⟩⟩
  · obtain ⟨v, e, r⟩ := RpA.one rd
    split at h
    · rename_i xs hx
      obtain ⟨a, ws, e1, hs, t⟩ := lsOf_rep rel r hx
      exact ⟨a, ws, by rw [e, e1], .inl ⟨hs, h.newT rel t⟩⟩
    · exact h.elim
  · exact h.elim
theorem tupV_n : NoErrA tupV := fun ds S => by unfold tupV; split <;> (try split) <;> exact True.intro
def listV (ds : List D) (S : Store) : R D := match ds with
  | [d] => match sqOf S d with
    | some xs => .ok (.lst xs) S
    | none => .no
  | _ => .no
/-- .. that will be changed -/
def listM (ds : List D) (S : Store) : R D := match ds with
  | [d] => match sqOf S d with
    | some xs => .ok (.loc S.length) (S ++ [.lst xs])
    | none => .no
  | _ => .no
def rListOf (K : PySem.W.Frag) : List V → Hp → VK → Prop := fun xs H Q => ∃ p ys, xs = [.ref p] ∧ (SqL K H p ys ∨ SqT K H p ys) ∧ ∀ l, H l = none → Q (.ref l) (upd H l (.lst ys))
theorem Post.newM {G : Gam} {E : XK} {c : Cfg} {Q : VK} {xs : List D} {vs : List V} (h : Post G E (Rp G) c Q (.ok (.loc c.S.length) (c.S ++ [.lst xs]))) (rel : RelC G c) (r : RpA G c xs vs) (p : Addr) (hp : c.H p = none) : Q (.ref p) (upd c.H p (.lst vs)) :=
  have x : Ext c ⟨c.φ ++ [p], c.S ++ [.lst xs], upd c.H p (.lst vs)⟩ := Ext.push rel hp
  h _ ⟨c.φ ++ [p], c.S ++ [.lst xs], upd c.H p (.lst vs)⟩ rfl x (rel.push (o := .lst xs) hp (notA_new rel hp) ⟨vs, upd_same, RpA.mono x xs vs r⟩) ⟨p, rfl, by show (c.φ ++ [p])[c.S.length]? = _; rw [← rel.len]; simp⟩
theorem listV_s : CallS K cm (rListOf K) listV := fun A c ds vs Q rel rd h => by
  unfold listV at h
  split at h
  · split at h
    · rename_i xs hx
      obtain ⟨v, e, r⟩ := RpA.one rd
      obtain ⟨a, ws, e1, hs, t⟩ := sqOf_rep rel r hx
      exact ⟨a, ws, by rw [e, e1], hs, h.newL rel t⟩
    · exact h.elim
  · exact h.elim
theorem listM_s : CallS K cm (rListOf K) listM := fun A c ds vs Q rel rd h => by
  unfold listM at h
  split at h
  · split at h
    · rename_i xs hx
      obtain ⟨v, e, r⟩ := RpA.one rd
      obtain ⟨a, ws, e1, hs, t⟩ := sqOf_rep rel r hx
      exact ⟨a, ws, by rw [e, e1], hs, h.newM rel t⟩
    · exact h.elim
  · exact h.elim
theorem listV_n : NoErrA listV := fun ds S => by unfold listV; split <;> (try split) <;> exact True.intro
theorem listM_n : NoErrA listM := fun ds S => by unfold listM; split <;> (try split) <;> exact True.intro
/-- int, str, bool of an int or bool -/
def intV (ds : List D) (S : Store) : R D := match ds with
  | [.int i] => .ok (.int i) S
  | [.bl k] => .ok (.int (if k then 1 else 0)) S
  | _ => .no
theorem intV_s : CallS K cm (fun xs H Q => (∃ i, xs = [.int i] ∧ Q (.int i) H) ∨ ∃ k, xs = [.bl k] ∧ Q (.int (if k then 1 else 0)) H) intV := fun A c ds vs Q rel rd h => by
  unfold intV at h
  split at h
  · obtain ⟨v, e, r⟩ := RpA.one rd
    exact .inl ⟨_, by rw [e, show v = .int _ from r], h.here rel rfl⟩
  · obtain ⟨v, e, r⟩ := RpA.one rd
    exact .inr ⟨_, by rw [e, show v = .bl _ from r], h.here rel rfl⟩
  · exact h.elim
theorem intV_n : NoErrA intV := fun ds S => by unfold intV; split <;> exact True.intro
/-- all, any of a list of bools -/
def boolsOf : List D → Option (List Bool)
  | [] => some []
  | .bl b :: r => (boolsOf r).map (b :: ·)
  | _ :: _ => none
theorem boolsOf_rep {G : Gam} {c : Cfg} : ∀ {xs : List D} {vs : List V} {bs : List Bool}, RpA G c xs vs → boolsOf xs = some bs → vs = bs.map V.bl
  | [], _, _, r, e => by
    cases r
    cases e
    rfl
  | d :: xs, _, _, ⟨v, r, e1, h, t⟩, e => by
    subst e1
    cases d with
    | bl b =>
      replace e : (boolsOf xs).map (b :: ·) = some _ := e
      obtain ⟨bs, e2, e3⟩ := Option.map_eq_some_iff.mp e
      subst e3
      rw [boolsOf_rep t e2, show v = .bl b from h]
      rfl
    | _ => cases e
def allV (ds : List D) (S : Store) : R D := match ds with
  | [d] => match lsOf S d with
    | some xs => match boolsOf xs with
      | some bs => .ok (.bl (bs.all id)) S
      | none => .no
    | none => .no
  | _ => .no
def anyV (ds : List D) (S : Store) : R D := match ds with
  | [d] => match lsOf S d with
    | some xs => match boolsOf xs with
      | some bs => .ok (.bl (bs.any id)) S
      | none => .no
    | none => .no
  | _ => .no
theorem allV_s : CallS K cm (rAll K) allV := fun A c ds vs Q rel rd h => by
  unfold allV at h
  split at h
  · split at h
    · rename_i xs hx
      split at h
      · rename_i bs hb
        obtain ⟨v, e, r⟩ := RpA.one rd
        obtain ⟨a, ws, e1, hs, t⟩ := lsOf_rep rel r hx
        exact ⟨a, bs, by rw [e, e1], by rw [← boolsOf_rep t hb]; exact hs, h.here rel rfl⟩
      · exact h.elim
    · exact h.elim
  · exact h.elim
theorem anyV_s : CallS K cm (rAny K) anyV := fun A c ds vs Q rel rd h => by
  unfold anyV at h
  split at h
  · split at h
    · rename_i xs hx
      split at h
      · rename_i bs hb
        obtain ⟨v, e, r⟩ := RpA.one rd
        obtain ⟨a, ws, e1, hs, t⟩ := lsOf_rep rel r hx
        exact ⟨a, bs, by rw [e, e1], by rw [← boolsOf_rep t hb]; exact hs, h.here rel rfl⟩
      · exact h.elim
    · exact h.elim
  · exact h.elim
theorem allV_n : NoErrA allV := fun ds S => by unfold allV; split <;> (try split) <;> (try split) <;> exact True.intro
theorem anyV_n : NoErrA anyV := fun ds S => by unfold anyV; split <;> (try split) <;> (try split) <;> exact True.intro

/-! ### methods of built-in types -/
def MtS (K : PySem.W.Frag) (cm : String → Addr → Prop) (r : V → List V → Hp → VK → Prop) (F : D → List D → Store → R D) : Prop := ∀ (A : Addr → Prop) (c : Cfg) (x : D) (v : V) (ds : List D) (vs : List V) (Q : VK), RelC ⟨K, cm, A⟩ c → Rp ⟨K, cm, A⟩ c x v → RpA ⟨K, cm, A⟩ c ds vs → Post ⟨K, cm, A⟩ (fun _ _ _ => False) (Rp ⟨K, cm, A⟩) c Q (F x ds c.S) → r v vs c.H Q
def NoErrM (f : D → List D → Store → R D) : Prop := ∀ x ds S, R.calm (f x ds S)
def dMt (ok : Store → D → Bool) (F : D → List D → Store → R D) (o : DEv) (a : DAv) : DEv := fun st S => (o st S).bind fun x S1 => if ok S1 x = true then (a st S1).bind fun ds S2 => F x ds S2 else .no
def isLs (S : Store) (x : D) : Bool := (lsOf S x).isSome
def isStr (_ : Store) : D → Bool
  | .str _ => true
  | _ => false
theorem isLs_ty {G : Gam} {c : Cfg} {d : D} {v : V} (rel : RelC G c) (r : Rp G c d v) (h : isLs c.S d = true) : tyV G.K "list" v c.H := by
  obtain ⟨xs, e⟩ := Option.isSome_iff_exists.mp h
  obtain ⟨a, vs, e1, hs, _⟩ := lsOf_rep rel r e
  rw [e1]
  exact .inl ⟨rfl, vs, hs⟩
theorem isStr_ty {G : Gam} {c : Cfg} {d : D} {v : V} (rel : RelC G c) (r : Rp G c d v) (h : isStr c.S d = true) : tyV G.K "str" v c.H := by
  cases d with
  | str x => rw [show v = .str x from r.1]; exact (rfl : "str" = "str")
  | _ => cases h
theorem snd_mt {K : PySem.W.Frag} {T : String} {ok : Store → D → Bool} {r : V → List V → Hp → VK → Prop} {F : D → List D → Store → R D} {to : TE} {o : DEv} {t : TA} {a : DAv} (hok : ∀ (A : Addr → Prop) (c : Cfg) (d : D) (v : V), RelC ⟨K, cm, A⟩ c → Rp ⟨K, cm, A⟩ c d v → ok c.S d = true → tyV K T v c.H)
    (hs : MtS K cm r F) (ne : NoErrM F) (so : Snd K cm E to o) (s : SndA K cm E t a) : Snd K cm E (tBM K T r to t) (dMt ok F o a) := fun A c st σ Q rel loc h =>
  so A c st σ _ rel loc (Post.seq h fun x v c1 _ x1 rel1 rx h1 => by
    split at h1
    · rename_i hk
      exact ⟨hok A c1 x v rel1 rx hk, s A c1 st σ _ rel1 (loc.mono x1) (Post.seq h1 fun ds vs c2 _ x2 rel2 rd h2 => hs A c2 x v ds vs Q rel2 (Rp.mono x2 x v rx) rd (h2.noerr (ne x ds c2.S)))⟩
    · exact h1.elim)
theorem snd_mt0 {K : PySem.W.Frag} {T : String} {ok : Store → D → Bool} {r : V → List V → Hp → VK → Prop} {F : D → List D → Store → R D} {to : TE} {o : DEv} (hok : ∀ (A : Addr → Prop) (c : Cfg) (d : D) (v : V), RelC ⟨K, cm, A⟩ c → Rp ⟨K, cm, A⟩ c d v → ok c.S d = true → tyV K T v c.H)
    (hs : MtS K cm r F) (ne : NoErrM F) (so : Snd K cm E to o) : Snd K cm E (tBM0 K T r to) (dMt ok F o dNil) := fun A c st σ Q rel loc h =>
  so A c st σ _ rel loc (Post.seq h fun x v c1 _ x1 rel1 rx h1 => by
    split at h1
    · rename_i hk
      exact ⟨hok A c1 x v rel1 rx hk, hs A c1 x v [] [] Q rel1 rx rfl (Post.noerr h1 (ne x [] c1.S))⟩
    · exact h1.elim)
section
variable {o e : Expr} {es : List Expr} {dO : DEv} {da : DAv} {name : Str} {apos cpos : Pos} {id : String} {r : V → List V → Hp → VK → Prop} {F : D → List D → Store → R D}
theorem de_lm (slot : Slot "list" name id) (hty : typeOf (.builtin id) = pure (.type "method_descriptor")) (hm : MtR X id r) (hs : MtS X.K cm r F) (ne : NoErrM F) (ho : DE X cm E o dO) (ha : DA X cm E (e :: es) da) (hbase : attributeBase o name X.env (eval o X.env) = eval o X.env := by rfl)
    (hfew : ((backTo cpos (starEach (e :: es) X.env)).all (fun x => !x.1) && (backToKw cpos (keywordEach [] X.env)).all (fun x => x.1.isSome)
      && decide ((e :: es).length + ([] : List Keyword).length + (if ([] : List Keyword).isEmpty then 0 else 1) < 30)) = true := by rfl)
    (hline : (apos.endLine == cpos.line) = true := by rfl) (hst : starEach (e :: es) X.env = (false, eval e X.env) :: starEach es X.env := by rfl) (hplain : (backTo cpos (starEach es X.env)).any (·.1) = false := by rfl) :
    DE X cm E (.Call (.Attribute o name apos) (e :: es) [] cpos) (dMt isLs F dO da) :=
  let ⟨_, a, b⟩ := ho.ex; let ⟨_, a', b'⟩ := ha.ex; ⟨_, pe_bm PySem.F.plainAttrs_list slot hty hm a a' hbase hfew hline hst hplain, snd_mt (fun A c d v rel r h => isLs_ty rel r h) hs ne b b'⟩
theorem de_lm0 (slot : Slot "list" name id) (hty : typeOf (.builtin id) = pure (.type "method_descriptor")) (hm : MtR X id r) (hs : MtS X.K cm r F) (ne : NoErrM F) (ho : DE X cm E o dO) (hbase : attributeBase o name X.env (eval o X.env) = eval o X.env := by rfl)
    (hline : (apos.endLine == cpos.line) = true := by rfl) : DE X cm E (.Call (.Attribute o name apos) [] [] cpos) (dMt isLs F dO dNil) :=
  let ⟨_, a, b⟩ := ho.ex; ⟨_, pe_bm0 PySem.F.plainAttrs_list slot hty hm a hbase hline, snd_mt0 (fun A c d v rel r h => isLs_ty rel r h) hs ne b⟩
theorem de_sm (slot : Slot "str" name id) (hty : typeOf (.builtin id) = pure (.type "method_descriptor")) (hm : MtR X id r) (hs : MtS X.K cm r F) (ne : NoErrM F) (ho : DE X cm E o dO) (ha : DA X cm E (e :: es) da) (hbase : attributeBase o name X.env (eval o X.env) = eval o X.env := by rfl)
    (hfew : ((backTo cpos (starEach (e :: es) X.env)).all (fun x => !x.1) && (backToKw cpos (keywordEach [] X.env)).all (fun x => x.1.isSome)
      && decide ((e :: es).length + ([] : List Keyword).length + (if ([] : List Keyword).isEmpty then 0 else 1) < 30)) = true := by rfl)
    (hline : (apos.endLine == cpos.line) = true := by rfl) (hst : starEach (e :: es) X.env = (false, eval e X.env) :: starEach es X.env := by rfl) (hplain : (backTo cpos (starEach es X.env)).any (·.1) = false := by rfl) :
    DE X cm E (.Call (.Attribute o name apos) (e :: es) [] cpos) (dMt isStr F dO da) :=
  let ⟨_, a, b⟩ := ho.ex; let ⟨_, a', b'⟩ := ha.ex; ⟨_, pe_bm PySem.F.plainAttrs_str slot hty hm a a' hbase hfew hline hst hplain, snd_mt (fun A c d v rel r h => isStr_ty rel r h) hs ne b b'⟩
theorem de_sm0 (slot : Slot "str" name id) (hty : typeOf (.builtin id) = pure (.type "method_descriptor")) (hm : MtR X id r) (hs : MtS X.K cm r F) (ne : NoErrM F) (ho : DE X cm E o dO) (hbase : attributeBase o name X.env (eval o X.env) = eval o X.env := by rfl)
    (hline : (apos.endLine == cpos.line) = true := by rfl) : DE X cm E (.Call (.Attribute o name apos) [] [] cpos) (dMt isStr F dO dNil) :=
  let ⟨_, a, b⟩ := ho.ex; ⟨_, pe_bm0 PySem.F.plainAttrs_str slot hty hm a hbase hline, snd_mt0 (fun A c d v rel r h => isStr_ty rel r h) hs ne b⟩
end
/-- xs.append(y) -/
def appV (x : D) (ds : List D) (S : Store) : R D := match x, ds with
  | .loc n, [y] => match S[n]? with
    | some (.lst xs) => if xs.length < 1000000 then .ok .non (S.set n (.lst (xs ++ [y]))) else .no
    | _ => .no
  | _, _ => .no
theorem Post.setL {G : Gam} {E : XK} {c : Cfg} {Q : VK} {n : Nat} {a : Addr} {xs ys : List D} {ws : List V} {d : D} {v : V} (h : Post G E (Rp G) c Q (.ok d (c.S.set n (.lst ys)))) (rel : RelC G c) (hφ : c.φ[n]? = some a) (hx : c.S[n]? = some (.lst xs)) (t : RpA G c ys ws) (r : Rp G c d v) : Q v (upd c.H a (.lst ws)) :=
  have x : Ext c ⟨c.φ, c.S.set n (.lst ys), upd c.H a (.lst ws)⟩ := Ext.put rel hφ hx (by simp)
  h v ⟨c.φ, c.S.set n (.lst ys), upd c.H a (.lst ws)⟩ rfl x (rel.put (o' := .lst ys) hφ hx (by simp) ⟨ws, upd_same, RpA.mono x _ _ t⟩) (Rp.mono x d v r)
theorem appV_s : MtS K cm rAppend appV := fun A c x v ds vs Q rel rx rd h => by
  unfold appV at h
  split at h
  · rename_i n y
    split at h
    · rename_i xs hx
      split at h
      · rename_i hl
        obtain ⟨a, e, hφ, ws, hH, t⟩ := Rp.obj rel rx hx
        obtain ⟨u, e2, ru⟩ := RpA.one rd
        exact ⟨a, ws, u, e, e2, hH, by rw [← t.length]; exact Nat.lt_of_lt_of_le hl million, h.setL rel hφ hx (t.append ⟨u, [], rfl, ru, rfl⟩) rfl⟩
      · exact h.elim
    · exact h.elim
  · exact h.elim
theorem appV_n : NoErrM appV := fun x ds S => by unfold appV; split <;> (try split) <;> (try split) <;> exact True.intro
/-- sep.join(texts) -/
def strsOf : List D → Option (List Str)
  | [] => some []
  | .str x :: r => (strsOf r).map (x :: ·)
  | _ :: _ => none
theorem strsOf_rep {G : Gam} {c : Cfg} : ∀ {xs : List D} {vs : List V} {bs : List Str}, RpA G c xs vs → strsOf xs = some bs → vs = bs.map V.str ∧ ∀ y ∈ bs, PySem.PyData.strOk y = true ∧ y.length ≤ sizeLine
  | [], _, _, r, e => by
    cases r
    cases e
    exact ⟨rfl, fun y h => nomatch h⟩
  | d :: xs, _, _, ⟨v, r, e1, h, t⟩, e => by
    subst e1
    cases d with
    | str b =>
      replace e : (strsOf xs).map (b :: ·) = some _ := e
      obtain ⟨bs, e2, e3⟩ := Option.map_eq_some_iff.mp e
      subst e3
      obtain ⟨q1, q2⟩ := strsOf_rep t e2
      refine ⟨by rw [q1, show v = .str b from h.1]; rfl, fun y hy => ?_⟩
      rcases List.mem_cons.mp hy with rfl | hy
      · exact h.2
      · exact q2 y hy
    | _ => cases e
end

/-! ### what is given up: a list of the store becomes data -/
def frzV (x : D) (S : Store) : R D := match x with
  | .loc n => match S[n]? with
    | some (.lst xs) => .ok (.lst xs) (S.set n .gone)
    | _ => .ok x S
  | _ => .ok x S
def dFrz (e : DEv) : DEv := fun st S => (e st S).bind fun x S1 => frzV x S1
theorem de_frz {e : Expr} {d : DEv} (h : DE X cm E e d) : DE X cm E e (dFrz d) := by
  obtain ⟨t, p, s⟩ := h.ex
  refine ⟨t, p, fun A c st σ Q rel loc h => s A c st σ Q rel loc ?_⟩
  unfold dFrz at h
  cases q : d st c.S with
  | no => rw [q] at h; exact h
  | err x S => rw [q] at h; exact h
  | ok x S1 =>
    rw [q] at h
    replace h : Post ⟨X.K, cm, A⟩ E (Rp ⟨X.K, cm, A⟩) c Q (frzV x S1) := h
    cases x with
    | loc n =>
      replace h : Post ⟨X.K, cm, A⟩ E (Rp ⟨X.K, cm, A⟩) c Q (match S1[n]? with
        | some (.lst xs) => .ok (.lst xs) (S1.set n .gone)
        | _ => .ok (.loc n) S1) := h
      split at h
      · rename_i xs hx
        intro v c1 e1 x1 rel1 r1
        subst e1
        obtain ⟨a, e2, hφ, vs, hH, t2⟩ := Rp.obj rel1 r1 hx
        have x2 : Ext c1 ⟨c1.φ, c1.S.set n .gone, c1.H⟩ := Ext.drop
        have rel2 : RelC ⟨X.K, cm, A⟩ ⟨c1.φ, c1.S.set n .gone, c1.H⟩ := rel1.drop
        refine h v ⟨c1.φ, c1.S.set n .gone, c1.H⟩ rfl (x1.trans x2) rel2 ⟨a, vs, e2, fun z => z.elim (fun z => rel1.apart a ⟨n, _, hφ, hx, by simp⟩ z) fun ⟨m, o, h1, h2, h3⟩ => ?_, hH, RpA.mono x2 xs vs t2⟩
        have h1 : c1.φ[m]? = some a := h1
        have e3 := phi_inj rel1 h1 hφ
        subst e3
        have h2 : (c1.S.set m O.gone)[m]? = some o := h2
        rw [List.getElem?_set_self (List.getElem?_eq_some_iff.mp hx).1] at h2
        exact h3 (Option.some.inj h2).symm
      · exact h
    | _ => exact h
/-! ### new dicts -/
def dNewK : DEv := fun _ S => .ok (.loc S.length) (S ++ [.dK []])
def dNewT : DEv := fun _ S => .ok (.loc S.length) (S ++ [.dT []])
theorem de_dnewK : DE X cm E (.Dict [] [] pos) dNewK := ⟨_, pe_dnewK, fun A c st σ Q rel loc h p hp =>
  have x : Ext c ⟨c.φ ++ [p], c.S ++ [.dK []], upd c.H p (.dK [])⟩ := Ext.push rel hp
  h _ ⟨c.φ ++ [p], c.S ++ [.dK []], upd c.H p (.dK [])⟩ rfl x (rel.push (o := .dK []) hp (notA_new rel hp) ⟨[], upd_same, .nil⟩) ⟨p, rfl, by show (c.φ ++ [p])[c.S.length]? = _; rw [← rel.len]; simp⟩⟩
theorem de_dnewT : DE X cm E (.Dict [] [] pos) dNewT := ⟨_, pe_dnewT, fun A c st σ Q rel loc h p hp =>
  have x : Ext c ⟨c.φ ++ [p], c.S ++ [.dT []], upd c.H p (.dT [])⟩ := Ext.push rel hp
  h _ ⟨c.φ ++ [p], c.S ++ [.dT []], upd c.H p (.dT [])⟩ rfl x (rel.push (o := .dT []) hp (notA_new rel hp) ⟨[], upd_same, .nil⟩) ⟨p, rfl, by show (c.φ ++ [p])[c.S.length]? = _; rw [← rel.len]; simp⟩⟩

/-! ### the law's call: the script is all there is -/
theorem spD_start {K : PySem.W.Frag} {F : List D → Store → R D} {H : Hp} {a : Addr} {ns : List Int} (hO : Only H) (hS : SqL K H a (ns.map V.int)) (h : ∃ S', F [.scr (ns.map D.int)] [] = .ok (.bl true) S') : spD K (fun _ _ => False) 1 F [.ref a] H (fun v _ => v = .bl true) fun _ _ _ => False := by
  obtain ⟨S', h⟩ := h
  have intsR : ∀ {G : Gam} {c : Cfg} (ns : List Int), RpA G c (ns.map D.int) (ns.map V.int) := fun {G c} ns => by
    induction ns with
    | nil => rfl
    | cons n ns ih => exact ⟨_, _, rfl, rfl, ih⟩
  refine ⟨rfl, fun _ => False, ⟨[], [], H⟩, [.scr (ns.map D.int)], rfl, ⟨rfl, List.nodup_nil, fun n a o h => by simp at h, fun a h => ?_, fun n a h => by simp at h, fun a h => h.elim⟩, ⟨_, [], rfl, ⟨a, _, rfl, ?_, intsR ns⟩, rfl⟩, ?_⟩
  · obtain ⟨n, o, h, _⟩ := h
    simp at h
  · rcases hS with (h | ⟨o, h⟩) | h
    · rcases hO a with z | ⟨o, xs, z⟩
      · rw [h] at z; cases z
      · rw [h] at z; cases z
    · exact .inl ⟨fun z => z.elim (fun z => z) fun ⟨n, o, h, _⟩ => by simp at h, o, h⟩
    · exact .inr (.inr h)
  · show Post _ _ _ _ _ (F [.scr (ns.map D.int)] [])
    rw [h]
    exact fun b c' e x r rb => rb

section
variable {K : PySem.W.Frag} {x qual : Str} {params : Arguments} {body : List Stmt} {scope : Scope} {kws : List (Str × V)} {f : Addr} {fd : FuncData} {ps : List Str}
theorem kbinds0 (F : FunD K x qual params body scope [] kws f fd) (n : Nat) (ks : List Str) (ms : List (Str × V)) (g : {α : Type} → α → List α → List α → List α → List α) (hk : kws ≠ []) (hms : ∀ q ∈ ms, q ∈ kws)
    (hrel : ∀ {vs mz zs : List V} {us mv ws : List Value}, Vals vs us → Vals mz mv → Vals zs ws → Vals (g .non vs mz zs) (g .none us mv ws))
    (h : ∀ (D : Addr) (doc pm : Value) (an : Option Addr) (cdv ct : Value) (us mv ws : List Value), us.length = n → mv.length = ms.length → ws.length = ks.length →
      KwChain D ((ms.map (·.1)).zip mv) (bindArgs (PySem.W.fnOf x qual params body scope .none (.ref D) doc pm an cdv ct) ⟨us, ks.zip ws⟩) (ps.zip (g .none us mv ws))) :
    ∃ mv : List Value, KBn K fd ps n ks (fun us ws => g .none us mv ws) (fun vs zs => g .non vs (ms.map (·.2)) zs) := by
  obtain ⟨oc, od, dV, kV, doc, pm, an, cdv, ct, osl, rfl, lk, hcd, hD, hK⟩ := F.ex
  rcases hD with ⟨_, rfl⟩ | ⟨e, _⟩
  · rcases hK with e | ⟨D, rfl, hq⟩
    · exact absurd e hk
    · obtain ⟨mv, hl, rk, hks⟩ := kwd_vals (ms := ms) fun q hm => hq q (hms q hm)
      refine ⟨mv, ⟨fun s us ws X l1 l2 => ?_, fun r1 r2 => hrel r1 rk r2⟩⟩
      exact BindsTo.of_looks fun M => KwChain.looks X hks (h D doc pm an cdv ct us mv ws l1 hl l2)
  · exact absurd rfl e
/-- no keyword-only parameters, no defaults -/
theorem kbindsN (F : FunD K x qual params body scope [] kws f fd) (n : Nat) (ks : List Str) (g : {α : Type} → α → List α → List α → List α → List α)
    (hrel : ∀ {vs mz zs : List V} {us mv ws : List Value}, Vals vs us → Vals mz mv → Vals zs ws → Vals (g .non vs mz zs) (g .none us mv ws))
    (h : ∀ (kV doc pm : Value) (an : Option Addr) (cdv ct : Value) (us ws : List Value), us.length = n → ws.length = ks.length →
      bindArgs (PySem.W.fnOf x qual params body scope .none kV doc pm an cdv ct) ⟨us, ks.zip ws⟩ = pure (ps.zip (g .none us [] ws))) :
    KBn K fd ps n ks (fun us ws => g .none us [] ws) (fun vs zs => g .non vs [] zs) := by
  obtain ⟨oc, od, dV, kV, doc, pm, an, cdv, ct, osl, rfl, lk, hcd, hD, hK⟩ := F.ex
  rcases hD with ⟨_, rfl⟩ | ⟨e, _⟩
  · exact ⟨fun s us ws X l1 l2 => BindsTo.of_eq (h kV doc pm an cdv ct us ws l1 l2), fun r1 r2 => hrel r1 .nil r2⟩
  · exact absurd rfl e
end

/-! ### dict comprehensions -/
def putC (n : Nat) (y z : D) (S : Store) : R Unit := match keyOf y, S[n]? with
  | some q, some (.dK kvs) => if kvs.length < 1000000 then .ok () (S.set n (.dK (putA kvs q z))) else .no
  | _, _ => .no
noncomputable def dcT (n : Nat) (g : DGv) (t : DTv) (ek ev : DEv) (st : DSt) (x : D) (S : Store) : R Unit := (g x st S).bind fun st1 S1 => (t st1 S1).bind fun k S2 => if k = true then (ek st1 S2).bind fun y S3 => (ev st1 S3).bind fun z S4 => putC n y z S4 else .ok () S2
open Classical in
noncomputable def dcD (s : Src) (n : Nat) (g : DGv) (t : DTv) (ek ev : DEv) (st : DSt) : List D → Store → R Unit
  | [], S => if s.held S then .ok () S else .no
  | x :: xs, S => if s.held S then (dcT n g t ek ev st x S).mute.bind fun _ S' => dcD s n g t ek ev st xs S' else .no
noncomputable def dDc (i : DIv) (g : DGv) (t : DTv) (ek ev : DEv) (vs : List Nat) : DEv := fun st S => (i st S).bind fun s S1 => (dcD s S1.length g t ek ev (wipeD st vs) s.xs (S1 ++ [.dK []])).bind fun _ S2 => .ok (.loc S1.length) S2
theorem snd_dc {K : PySem.W.Frag} {wi : TI} {g : TG} {tt : TT} {tk te : TE} {vs : List Nat} {di : DIv} {dg : DGv} {dt : DTv} {dk de : DEv} (si : SndI K cm E wi di) (sg : SndG K cm E0 g dg) (og : OnlyG vs g) (st' : SndT K cm E0 tt dt) (sk : Snd K cm E0 tk dk) (se : Snd K cm E0 te de) :
    Snd K cm E (tDc wi g tt tk te vs) (dDc di dg dt dk de vs) := fun A c0 st σ Q rel loc h => by
  refine si A c0 st σ _ rel loc (Post.seq h fun s J c1 _ x1 rel1 ⟨wk, held1⟩ h1 => ?_)
  intro p hp
  have xp : Ext c1 ⟨c1.φ ++ [p], c1.S ++ [.dK []], upd c1.H p (.dK [])⟩ := Ext.push rel1 hp
  have relp : RelC ⟨K, cm, A⟩ ⟨c1.φ ++ [p], c1.S ++ [.dK []], upd c1.H p (.dK [])⟩ := rel1.push (o := .dK []) hp (notA_new rel1 hp) ⟨[], upd_same, .nil⟩
  have φp : (c1.φ ++ [p])[c1.S.length]? = some p := by rw [← rel1.len]; simp
  refine ⟨fun i m H => m = s.xs.length - i ∧ i ≤ s.xs.length ∧ ∃ c : Cfg, c.H = H ∧ Ext c1 c ∧ c.φ[c1.S.length]? = some p ∧ RelC ⟨K, cm, A⟩ c ∧ LocR ⟨K, cm, A⟩ c (wipeD st vs) (wipe σ vs) ∧
      Post ⟨K, cm, A⟩ E (Rp ⟨K, cm, A⟩) c1 Q ((dcD s c1.S.length dg dt dk de (wipeD st vs) (s.xs.drop i) c.S).bind fun _ S2 => .ok (.loc c1.S.length) S2),
    ⟨_, rfl, Nat.zero_le _, ⟨c1.φ ++ [p], c1.S ++ [.dK []], upd c1.H p (.dK [])⟩, rfl, xp, φp, relp, ((loc.mono x1).wipes vs).mono xp, by rw [List.drop_zero]; exact h1⟩, ?_⟩
  rintro i m H ⟨rfl, hi, c, rfl, x, hφ, relc, locc, hc⟩
  by_cases hlt : i < s.xs.length
  · rw [List.drop_eq_getElem_cons hlt] at hc
    unfold dcD at hc
    split at hc
    · rename_i held
      obtain ⟨w1, _⟩ := wk A (fun a z => .inl z) c x relc held i
      obtain ⟨go, yld⟩ := w1 _ (List.getElem?_eq_getElem hlt)
      refine .inr ⟨go, fun H' => ∃ c' : Cfg, c'.H = H' ∧ Ext c1 c' ∧ c'.φ[c1.S.length]? = some p ∧ RelC ⟨K, cm, A⟩ c' ∧ LocR ⟨K, cm, A⟩ c' (wipeD st vs) (wipe σ vs) ∧
          Post ⟨K, cm, A⟩ E (Rp ⟨K, cm, A⟩) c1 Q ((dcD s c1.S.length dg dt dk de (wipeD st vs) (s.xs.drop (i + 1)) c'.S).bind fun _ S2 => .ok (.loc c1.S.length) S2),
        fun H' ⟨c', e1, e2, e3, e4, e5, e6⟩ => ⟨s.xs.length - (i + 1), by omega, rfl, hlt, c', e1, e2, e3, e4, e5, e6⟩, fun v H' hy => ?_⟩
      obtain ⟨c2, e2, eS, x2, rel2, rv⟩ := yld v H' hy
      subst e2
      have key : Post ⟨K, cm, A⟩ E0 (fun _ (a : Unit) (b : Unit) => a = b) c2 (fun o H' => True) (dcT c1.S.length dg dt dk de (wipeD st vs) s.xs[i] c2.S) := by
        rw [eS]
        cases q : dcT c1.S.length dg dt dk de (wipeD st vs) s.xs[i] c.S with
        | no => rw [q] at hc; exact hc.elim
        | err z S => rw [q] at hc; exact hc.elim
        | ok o S => exact fun _ _ _ _ _ _ => True.intro
      have hc' : ∀ S', dcT c1.S.length dg dt dk de (wipeD st vs) s.xs[i] c2.S = R.ok () S' →
          Post ⟨K, cm, A⟩ E (Rp ⟨K, cm, A⟩) c1 Q ((dcD s c1.S.length dg dt dk de (wipeD st vs) (s.xs.drop (i + 1)) S').bind fun _ S2 => .ok (.loc c1.S.length) S2) := fun S' q => by
        rw [eS] at q
        rw [q] at hc
        exact hc
      unfold dcT at key
      refine og v (wipe σ vs) c2.H _ _ (fun σ2 H2 e q => ⟨by rw [e]; exact wipe_wipe, q⟩) (sg _ c2 (wipeD st vs) (wipe σ vs) _ v _ rel2 (locc.mono x2) rv (Post.seq key fun st1 σ1 c3 q3 x3 rel3 loc3 h3 => ?_))
      refine st' _ c3 st1 σ1 _ rel3 loc3 (Post.seq h3 fun k k' c4 q4 x4 rel4 rk h4 => ?_)
      cases rk
      have φ2 : c2.φ[c1.S.length]? = some p := x2.pre _ _ hφ
      cases k with
      | true =>
        rw [if_pos rfl]
        rw [if_pos rfl] at h4
        refine sk _ c4 st1 σ1 _ rel4 (loc3.mono x4) (Post.seq h4 fun y u c5 q5 x5 rel5 ru h5 => ?_)
        refine se _ c5 st1 σ1 _ rel5 ((loc3.mono x4).mono x5) (Post.seq h5 fun z w c6 q6 x6 rel6 rw6 h6 => ?_)
        have run : dcT c1.S.length dg dt dk de (wipeD st vs) s.xs[i] c2.S = putC c1.S.length y z c6.S := by
          unfold dcT
          rw [q3, R.bind_ok, q4, R.bind_ok, if_pos rfl, q5, R.bind_ok, q6, R.bind_ok]
        unfold putC at h6 run
        split at h6
        · rename_i q kvs hq hS
          split at h6
          · rename_i hl
            rw [hq, hS] at run
            replace run : dcT c1.S.length dg dt dk de (wipeD st vs) s.xs[i] c2.S = .ok () (c6.S.set c1.S.length (.dK (putA kvs q z))) := by rw [run]; exact if_pos hl
            have x26 : Ext c2 c6 := ((x3.trans x4).trans x5).trans x6
            have φ6 : c6.φ[c1.S.length]? = some p := x26.pre _ _ φ2
            obtain ⟨kws, hH, t⟩ := rel6.obj _ _ _ φ6 hS
            have xq : Ext c6 ⟨c6.φ, c6.S.set c1.S.length (.dK (putA kvs q z)), upd c6.H p (.dK (putK kws q w))⟩ := Ext.put rel6 φ6 hS (by simp)
            exact ⟨kws, q, keyOf_rep ru hq, hH, by rw [← t.length]; exact Nat.lt_of_lt_of_le hl million, _, rfl, ((x.trans x2).trans x26).trans xq, φ6, rel6.put (o' := .dK (putA kvs q z)) φ6 hS (by simp) ⟨_, upd_same, (t.put q rw6).map (Rp.mono xq)⟩, ((locc.mono x2).mono x26).mono xq, hc' _ run⟩
          · exact h6.elim
        · exact h6.elim
      | false =>
        rw [if_neg Bool.false_ne_true]
        have run : dcT c1.S.length dg dt dk de (wipeD st vs) s.xs[i] c2.S = .ok () c4.S := by
          unfold dcT
          rw [q3, R.bind_ok, q4, R.bind_ok, if_neg Bool.false_ne_true]
        have x24 : Ext c2 c4 := x3.trans x4
        exact ⟨c4, rfl, (x.trans x2).trans x24, x24.pre _ _ φ2, rel4, (locc.mono x2).mono x24, hc' _ run⟩
    · exact hc.elim
  · have e : i = s.xs.length := by omega
    subst e
    rw [List.drop_length] at hc
    unfold dcD at hc
    split at hc
    · rename_i held
      obtain ⟨_, w2⟩ := wk A (fun a z => .inl z) c x relc held s.xs.length
      exact .inl ⟨w2 (Nat.le_refl _), hc (.ref p) c rfl x relc ⟨p, rfl, hφ⟩⟩
    · exact hc.elim
section
variable {tg iter kx vx : Expr} {ifs : List Expr} {scope : Scope} {own : List (Str × Nat)} {pos : Pos} {di : DIv} {dg : DGv} {dt : DTv} {dk de : DEv} {g : TG} {k : Nat}
theorem de_dc (G : GX X E k) (hi : DI X cm E tg iter di) (ok : BlkOk X.N X.env.scope scope own)
    (hg : ∀ (s : Shared) (H : Hp) (C : Addr) (cl : List (Str × Addr)) (fp : List Addr), GX (X.blk s H scope (compEnvC scope cl C X.env) fp) E0 k → DGo (X.blk s H scope (compEnvC scope cl C X.env) fp) cm E0 tg (own.map (·.2)) dg g)
    (ht : ∀ (s : Shared) (H : Hp) (C : Addr) (cl : List (Str × Addr)) (fp : List Addr), GX (X.blk s H scope (compEnvC scope cl C X.env) fp) E0 k → DTs (X.blk s H scope (compEnvC scope cl C X.env) fp) cm E0 ifs dt)
    (hk : ∀ (s : Shared) (H : Hp) (C : Addr) (cl : List (Str × Addr)) (fp : List Addr), GX (X.blk s H scope (compEnvC scope cl C X.env) fp) E0 k → DE (X.blk s H scope (compEnvC scope cl C X.env) fp) cm E0 kx dk)
    (he : ∀ (s : Shared) (H : Hp) (C : Addr) (cl : List (Str × Addr)) (fp : List Addr), GX (X.blk s H scope (compEnvC scope cl C X.env) fp) E0 k → DE (X.blk s H scope (compEnvC scope cl C X.env) fp) cm E0 vx de)
    (hs : ∀ x, foldedSetIterable iter X.env x = pure x := by intro _; rfl) : DE X cm E (.DictComp kx vx [⟨tg, iter, ifs, 0⟩] scope pos) (dDc di dg dt dk de (own.map (·.2))) := by
  obtain ⟨ti, pi, si⟩ := hi.ex
  have o := hg {} (fun _ => none) 0 [] [] (G.blk _ _ _ _ _)
  refine ⟨_, pe_dc (g := g) (tt := canonT X.K cm E0 dt) (tk := canonE X.K cm E0 dk) (tv := canonE X.K cm E0 de) G.calm G.nd pi ok (fun s H C cl fp => (hg s H C cl fp (G.blk _ _ _ _ _)).pg) (fun s H C cl fp => (ht s H C cl fp (G.blk _ _ _ _ _)).canon) (fun s H C cl fp => (hk s H C cl fp (G.blk _ _ _ _ _)).canon) (fun s H C cl fp => (he s H C cl fp (G.blk _ _ _ _ _)).canon) hs, ?_⟩
  exact snd_dc si o.snd o.only snd_canonT snd_canonE snd_canonE
/-- the same, to a name on one line -/
theorem sw_dc {scope : Scope} {pos py : Pos} {y : Str} {l : Nat} {env : Env} {gs : List Comprehension} (k1 : env.scope.kind = .function) (k2 : env.scope.names.lookup y = some .local) (k3 : (py.line == pos.line) = true)
    (k4 : (scope.names.any fun (n, k) => n == y && (k == .local || k == .cell)) = false) : swapsWith (.DictComp kx vx gs scope pos) (some (.Name y py)) l env = pure true := by
  have c1 : env.kindOf y = some .local := k2
  have c2 : env.blockKind = .function := by unfold Env.blockKind; rw [k1]; rfl
  unfold swapsWith
  simp only [c2, c1, k4, Expr.pos, k3]; rfl
theorem ds_setDc {i : Nat} {y : Str} {py spos : Pos} (G : GX X E k) (hsw : swapsWith (.DictComp kx vx [⟨tg, iter, ifs, 0⟩] scope pos) (some (.Name y py)) spos.line X.env = pure true) (hi : DI X cm E tg iter di) (ok : BlkOk X.N X.env.scope scope own)
    (hg : ∀ (s : Shared) (H : Hp) (C : Addr) (cl : List (Str × Addr)) (fp : List Addr), GX (X.blk s H scope (compEnvC scope cl C X.env) fp) E0 k → DGo (X.blk s H scope (compEnvC scope cl C X.env) fp) cm E0 tg (own.map (·.2)) dg g)
    (ht : ∀ (s : Shared) (H : Hp) (C : Addr) (cl : List (Str × Addr)) (fp : List Addr), GX (X.blk s H scope (compEnvC scope cl C X.env) fp) E0 k → DTs (X.blk s H scope (compEnvC scope cl C X.env) fp) cm E0 ifs dt)
    (hk : ∀ (s : Shared) (H : Hp) (C : Addr) (cl : List (Str × Addr)) (fp : List Addr), GX (X.blk s H scope (compEnvC scope cl C X.env) fp) E0 k → DE (X.blk s H scope (compEnvC scope cl C X.env) fp) cm E0 kx dk)
    (he : ∀ (s : Shared) (H : Hp) (C : Addr) (cl : List (Str × Addr)) (fp : List Addr), GX (X.blk s H scope (compEnvC scope cl C X.env) fp) E0 k → DE (X.blk s H scope (compEnvC scope cl C X.env) fp) cm E0 vx de)
    (hy : X.N[i]? = some y := by rfl) (hyl : X.env.scope.names.lookup y = some .local := by rfl) (hs : ∀ x, foldedSetIterable iter X.env x = pure x := by intro _; rfl) : DS X cm E (.Assign [.Name y py] (.DictComp kx vx [⟨tg, iter, ifs, 0⟩] scope pos) spos) (dSet i (dDc di dg dt dk de (own.map (·.2)))) := by
  obtain ⟨ti, pi, si⟩ := hi.ex
  have o := hg {} (fun _ => none) 0 [] [] (G.blk _ _ _ _ _)
  have sn := snd_dc si o.snd o.only (snd_canonT (cm := cm) (E := E0) (K := X.K) (d := dt)) (snd_canonE (K := X.K) (cm := cm) (E := E0) (d := dk)) (snd_canonE (K := X.K) (cm := cm) (E := E0) (d := de))
  refine ⟨tAsg (tDc ti g (canonT X.K cm E0 dt) (canonE X.K cm E0 dk) (canonE X.K cm E0 de) (own.map fun z : Str × Nat => z.2)) (gName i), ⟨fun pins s0 σ H Dn I h => ?_⟩, fun A c st σ Ds rel loc h => sn A c st σ _ rel loc (Post.seqS h fun x v c1 _ x1 rel1 rx h1 => h1 _ c1 rfl (.refl c1) rel1 ((loc.mono x1).set rx))⟩
  rw [exec_Assign_Name_used _ _ _ _ hsw]
  refine wpAny_bind (wpAny_standAt (wpAny_bind ?_))
  show wpAny _ X.A (do
    let _ ← comprehension (.DictComp kx vx [⟨tg, iter, ifs, 0⟩] scope pos) scope X.env (firstIterPos [⟨tg, iter, ifs, 0⟩] pos) newDict false (eval iter X.env) (some (assign (.Name y py) X.env))) _ _ s0
  have h' : tDc ti g (canonT X.K cm E0 dt) (canonE X.K cm E0 dk) (canonE X.K cm E0 de) (own.map fun z : Str × Nat => z.2) σ H (fun z H1 => gName i z σ H1 Dn.nx) := h
  refine wpAny_bind (thn (dc_core (Qf := fun _ u => SP X pins Dn .next u) G.calm G.nd I pi ok (fun s H C cl fp => (hg s H C cl fp (G.blk _ _ _ _ _)).pg) (fun s H C cl fp => (ht s H C cl fp (G.blk _ _ _ _ _)).canon) (fun s H C cl fp => (hk s H C cl fp (G.blk _ _ _ _ _)).canon) (fun s H C cl fp => (he s H C cl fp (G.blk _ _ _ _ _)).canon) hs h' fun L C u m Hu Iu q hn f => ?_) fun _ u hq => wpAny_pure (wpAny_pure hq))
  show wpAny _ _ (assign (.Name y py) X.env (.ref L)) _ _ _
  refine wpAny_assign_Name (store_ok2 (v := V.ref L) Iu G.nd hy (.inl hyl) rfl (fun u2 I2 ⟨a, sb, ha⟩ => ?_) (.inr hyl))
  obtain ⟨f0, f1, f2, f3, f4, f5⟩ := f
  have ne : C ≠ a := by
    rcases ha with z | z
    · rw [z]; exact f1
    · intro e; exact f4 y a z e.symm
  refine ⟨m, hn.sameBut sb ne, fun u3 sb3 => ?_⟩
  exact ⟨_, Hu, I2.turned (t' := u2.toks) (fun b o hb e => (sb3.2 b hb).trans e) f0 f1 f3 f4 f5, q⟩
end
/-! ### a list comprehension whose list is to be changed later -/
def putL (n : Nat) (y : D) (S : Store) : R Unit := match S[n]? with
  | some (.lst acc) => if acc.length < 1000000 then .ok () (S.set n (.lst (acc ++ [y]))) else .no
  | _ => .no
noncomputable def lmT (n : Nat) (g : DGv) (t : DTv) (e : DEv) (st : DSt) (x : D) (S : Store) : R Unit := (g x st S).bind fun st1 S1 => (t st1 S1).bind fun k S2 => if k = true then (e st1 S2).bind fun y S3 => putL n y S3 else .ok () S2
open Classical in
noncomputable def lmD (s : Src) (n : Nat) (g : DGv) (t : DTv) (e : DEv) (st : DSt) : List D → Store → R Unit
  | [], S => if s.held S then .ok () S else .no
  | x :: xs, S => if s.held S then (lmT n g t e st x S).mute.bind fun _ S' => lmD s n g t e st xs S' else .no
noncomputable def dLm (i : DIv) (g : DGv) (t : DTv) (e : DEv) (vs : List Nat) : DEv := fun st S => (i st S).bind fun s S1 => (lmD s S1.length g t e (wipeD st vs) s.xs (S1 ++ [.lst []])).bind fun _ S2 => .ok (.loc S1.length) S2
theorem snd_lm {K : PySem.W.Frag} {wi : TI} {g : TG} {tt : TT} {te : TE} {vs : List Nat} {di : DIv} {dg : DGv} {dt : DTv} {de : DEv} (si : SndI K cm E wi di) (sg : SndG K cm E0 g dg) (og : OnlyG vs g) (st' : SndT K cm E0 tt dt) (se : Snd K cm E0 te de) :
    Snd K cm E (tLc wi g tt te vs) (dLm di dg dt de vs) := fun A c0 st σ Q rel loc h => by
  refine si A c0 st σ _ rel loc (Post.seq h fun s J c1 _ x1 rel1 ⟨wk, held1⟩ h1 => ?_)
  intro p hp
  have xp : Ext c1 ⟨c1.φ ++ [p], c1.S ++ [.lst []], upd c1.H p (.lst [])⟩ := Ext.push rel1 hp
  have relp : RelC ⟨K, cm, A⟩ ⟨c1.φ ++ [p], c1.S ++ [.lst []], upd c1.H p (.lst [])⟩ := rel1.push (o := .lst []) hp (notA_new rel1 hp) ⟨[], upd_same, rfl⟩
  have φp : (c1.φ ++ [p])[c1.S.length]? = some p := by rw [← rel1.len]; simp
  refine ⟨fun i m H => m = s.xs.length - i ∧ i ≤ s.xs.length ∧ ∃ c : Cfg, c.H = H ∧ Ext c1 c ∧ c.φ[c1.S.length]? = some p ∧ RelC ⟨K, cm, A⟩ c ∧ LocR ⟨K, cm, A⟩ c (wipeD st vs) (wipe σ vs) ∧
      Post ⟨K, cm, A⟩ E (Rp ⟨K, cm, A⟩) c1 Q ((lmD s c1.S.length dg dt de (wipeD st vs) (s.xs.drop i) c.S).bind fun _ S2 => .ok (.loc c1.S.length) S2),
    ⟨_, rfl, Nat.zero_le _, ⟨c1.φ ++ [p], c1.S ++ [.lst []], upd c1.H p (.lst [])⟩, rfl, xp, φp, relp, ((loc.mono x1).wipes vs).mono xp, by rw [List.drop_zero]; exact h1⟩, ?_⟩
  rintro i m H ⟨rfl, hi, c, rfl, x, hφ, relc, locc, hc⟩
  by_cases hlt : i < s.xs.length
  · rw [List.drop_eq_getElem_cons hlt] at hc
    unfold lmD at hc
    split at hc
    · rename_i held
      obtain ⟨w1, _⟩ := wk A (fun a z => .inl z) c x relc held i
      obtain ⟨go, yld⟩ := w1 _ (List.getElem?_eq_getElem hlt)
      refine .inr ⟨go, fun H' => ∃ c' : Cfg, c'.H = H' ∧ Ext c1 c' ∧ c'.φ[c1.S.length]? = some p ∧ RelC ⟨K, cm, A⟩ c' ∧ LocR ⟨K, cm, A⟩ c' (wipeD st vs) (wipe σ vs) ∧
          Post ⟨K, cm, A⟩ E (Rp ⟨K, cm, A⟩) c1 Q ((lmD s c1.S.length dg dt de (wipeD st vs) (s.xs.drop (i + 1)) c'.S).bind fun _ S2 => .ok (.loc c1.S.length) S2),
        fun H' ⟨c', e1, e2, e3, e4, e5, e6⟩ => ⟨s.xs.length - (i + 1), by omega, rfl, hlt, c', e1, e2, e3, e4, e5, e6⟩, fun v H' hy => ?_⟩
      obtain ⟨c2, e2, eS, x2, rel2, rv⟩ := yld v H' hy
      subst e2
      have key : Post ⟨K, cm, A⟩ E0 (fun _ (a : Unit) (b : Unit) => a = b) c2 (fun o H' => True) (lmT c1.S.length dg dt de (wipeD st vs) s.xs[i] c2.S) := by
        rw [eS]
        cases q : lmT c1.S.length dg dt de (wipeD st vs) s.xs[i] c.S with
        | no => rw [q] at hc; exact hc.elim
        | err z S => rw [q] at hc; exact hc.elim
        | ok o S => exact fun _ _ _ _ _ _ => True.intro
      have hc' : ∀ S', lmT c1.S.length dg dt de (wipeD st vs) s.xs[i] c2.S = R.ok () S' →
          Post ⟨K, cm, A⟩ E (Rp ⟨K, cm, A⟩) c1 Q ((lmD s c1.S.length dg dt de (wipeD st vs) (s.xs.drop (i + 1)) S').bind fun _ S2 => .ok (.loc c1.S.length) S2) := fun S' q => by
        rw [eS] at q
        rw [q] at hc
        exact hc
      unfold lmT at key
      refine og v (wipe σ vs) c2.H _ _ (fun σ2 H2 e q => ⟨by rw [e]; exact wipe_wipe, q⟩) (sg _ c2 (wipeD st vs) (wipe σ vs) _ v _ rel2 (locc.mono x2) rv (Post.seq key fun st1 σ1 c3 q3 x3 rel3 loc3 h3 => ?_))
      refine st' _ c3 st1 σ1 _ rel3 loc3 (Post.seq h3 fun k k' c4 q4 x4 rel4 rk h4 => ?_)
      cases rk
      have φ2 : c2.φ[c1.S.length]? = some p := x2.pre _ _ hφ
      cases k with
      | true =>
        rw [if_pos rfl]
        rw [if_pos rfl] at h4
        refine se _ c4 st1 σ1 _ rel4 (loc3.mono x4) (Post.seq h4 fun z w c6 q6 x6 rel6 rw6 h6 => ?_)
        have run : lmT c1.S.length dg dt de (wipeD st vs) s.xs[i] c2.S = putL c1.S.length z c6.S := by
          unfold lmT
          rw [q3, R.bind_ok, q4, R.bind_ok, if_pos rfl, q6, R.bind_ok]
        unfold putL at h6 run
        split at h6
        · rename_i acc hS
          split at h6
          · rename_i hl
            rw [hS] at run
            replace run : lmT c1.S.length dg dt de (wipeD st vs) s.xs[i] c2.S = .ok () (c6.S.set c1.S.length (.lst (acc ++ [z]))) := by rw [run]; exact if_pos hl
            have x26 : Ext c2 c6 := (x3.trans x4).trans x6
            have φ6 : c6.φ[c1.S.length]? = some p := x26.pre _ _ φ2
            obtain ⟨ws, hH, t⟩ := rel6.obj _ _ _ φ6 hS
            have xq : Ext c6 ⟨c6.φ, c6.S.set c1.S.length (.lst (acc ++ [z])), upd c6.H p (.lst (ws ++ [w]))⟩ := Ext.put rel6 φ6 hS (by simp)
            exact ⟨ws, hH, by rw [← t.length]; exact Nat.lt_of_lt_of_le hl million, _, rfl, ((x.trans x2).trans x26).trans xq, φ6, rel6.put (o' := .lst (acc ++ [z])) φ6 hS (by simp) ⟨_, upd_same, RpA.mono xq _ _ (t.append ⟨w, [], rfl, rw6, rfl⟩)⟩, ((locc.mono x2).mono x26).mono xq, hc' _ run⟩
          · exact h6.elim
        · exact h6.elim
      | false =>
        rw [if_neg Bool.false_ne_true]
        have run : lmT c1.S.length dg dt de (wipeD st vs) s.xs[i] c2.S = .ok () c4.S := by
          unfold lmT
          rw [q3, R.bind_ok, q4, R.bind_ok, if_neg Bool.false_ne_true]
        have x24 : Ext c2 c4 := x3.trans x4
        exact ⟨c4, rfl, (x.trans x2).trans x24, x24.pre _ _ φ2, rel4, (locc.mono x2).mono x24, hc' _ run⟩
    · exact hc.elim
  · have e : i = s.xs.length := by omega
    subst e
    rw [List.drop_length] at hc
    unfold lmD at hc
    split at hc
    · rename_i held
      obtain ⟨_, w2⟩ := wk A (fun a z => .inl z) c x relc held s.xs.length
      exact .inl ⟨w2 (Nat.le_refl _), hc (.ref p) c rfl x relc ⟨p, rfl, hφ⟩⟩
    · exact hc.elim
section
variable {elt tg iter : Expr} {ifs : List Expr} {scope : Scope} {own : List (Str × Nat)} {pos : Pos} {di : DIv} {dg : DGv} {dt : DTv} {de : DEv} {g : TG} {k : Nat}
theorem ds_setLm {i : Nat} {y : Str} {py spos : Pos} (G : GX X E k) (hsw : swapsWith (.ListComp elt [⟨tg, iter, ifs, 0⟩] scope pos) (some (.Name y py)) spos.line X.env = pure true) (hi : DI X cm E tg iter di) (ok : BlkOk X.N X.env.scope scope own)
    (hg : ∀ (s : Shared) (H : Hp) (C : Addr) (cl : List (Str × Addr)) (fp : List Addr), GX (X.blk s H scope (compEnvC scope cl C X.env) fp) E0 k → DGo (X.blk s H scope (compEnvC scope cl C X.env) fp) cm E0 tg (own.map (·.2)) dg g)
    (ht : ∀ (s : Shared) (H : Hp) (C : Addr) (cl : List (Str × Addr)) (fp : List Addr), GX (X.blk s H scope (compEnvC scope cl C X.env) fp) E0 k → DTs (X.blk s H scope (compEnvC scope cl C X.env) fp) cm E0 ifs dt)
    (he : ∀ (s : Shared) (H : Hp) (C : Addr) (cl : List (Str × Addr)) (fp : List Addr), GX (X.blk s H scope (compEnvC scope cl C X.env) fp) E0 k → DE (X.blk s H scope (compEnvC scope cl C X.env) fp) cm E0 elt de)
    (hy : X.N[i]? = some y := by rfl) (hyl : X.env.scope.names.lookup y = some .local := by rfl) (hs : ∀ x, foldedSetIterable iter X.env x = pure x := by intro _; rfl) : DS X cm E (.Assign [.Name y py] (.ListComp elt [⟨tg, iter, ifs, 0⟩] scope pos) spos) (dSet i (dLm di dg dt de (own.map (·.2)))) := by
  obtain ⟨ti, pi, si⟩ := hi.ex
  have o := hg {} (fun _ => none) 0 [] [] (G.blk _ _ _ _ _)
  refine ⟨_, ps_setLc (g := g) (tt := canonT X.K cm E0 dt) (te := canonE X.K cm E0 de) G.calm G.nd hy hyl hsw pi ok (fun s H C cl fp => (hg s H C cl fp (G.blk _ _ _ _ _)).pg) (fun s H C cl fp => (ht s H C cl fp (G.blk _ _ _ _ _)).canon) (fun s H C cl fp => (he s H C cl fp (G.blk _ _ _ _ _)).canon) hs, ?_⟩
  have sn := snd_lm si o.snd o.only (snd_canonT (cm := cm) (E := E0) (K := X.K) (d := dt)) (snd_canonE (K := X.K) (cm := cm) (E := E0) (d := de))
  exact fun A c st σ Ds rel loc h => sn A c st σ _ rel loc (Post.seqS h fun x v c1 _ x1 rel1 rx h1 => h1 _ c1 rfl (.refl c1) rel1 ((loc.mono x1).set rx))
theorem de_lcM (G : GX X E k) (hi : DI X cm E tg iter di) (ok : BlkOk X.N X.env.scope scope own)
    (hg : ∀ (s : Shared) (H : Hp) (C : Addr) (cl : List (Str × Addr)) (fp : List Addr), GX (X.blk s H scope (compEnvC scope cl C X.env) fp) E0 k → DGo (X.blk s H scope (compEnvC scope cl C X.env) fp) cm E0 tg (own.map (·.2)) dg g)
    (ht : ∀ (s : Shared) (H : Hp) (C : Addr) (cl : List (Str × Addr)) (fp : List Addr), GX (X.blk s H scope (compEnvC scope cl C X.env) fp) E0 k → DTs (X.blk s H scope (compEnvC scope cl C X.env) fp) cm E0 ifs dt)
    (he : ∀ (s : Shared) (H : Hp) (C : Addr) (cl : List (Str × Addr)) (fp : List Addr), GX (X.blk s H scope (compEnvC scope cl C X.env) fp) E0 k → DE (X.blk s H scope (compEnvC scope cl C X.env) fp) cm E0 elt de)
    (hs : ∀ x, foldedSetIterable iter X.env x = pure x := by intro _; rfl) : DE X cm E (.ListComp elt [⟨tg, iter, ifs, 0⟩] scope pos) (dLm di dg dt de (own.map (·.2))) := by
  obtain ⟨ti, pi, si⟩ := hi.ex
  have o := hg {} (fun _ => none) 0 [] [] (G.blk _ _ _ _ _)
  refine ⟨_, pe_lc (g := g) (tt := canonT X.K cm E0 dt) (te := canonE X.K cm E0 de) G.calm G.nd pi ok (fun s H C cl fp => (hg s H C cl fp (G.blk _ _ _ _ _)).pg) (fun s H C cl fp => (ht s H C cl fp (G.blk _ _ _ _ _)).canon) (fun s H C cl fp => (he s H C cl fp (G.blk _ _ _ _ _)).canon) hs, ?_⟩
  exact snd_lm si o.snd o.only snd_canonT snd_canonE
end

/-! ### more of lists, ranges, tuples of the module -/
def insV (x : D) (ds : List D) (S : Store) : R D := match x, ds with
  | .loc n, [.int i, y] => match S[n]? with
    | some (.lst xs) => if xs.length < 1000000 ∧ 0 ≤ i ∧ i < 2 ^ 60 then .ok .non (S.set n (.lst (xs.take i.toNat ++ [y] ++ xs.drop i.toNat))) else .no
    | _ => .no
  | _, _ => .no
theorem insV_s : MtS K cm (fun x vs H Q => ∃ (l : Addr) (xs : List V) (i : Int) (y : V), x = .ref l ∧ vs = [.int i, y] ∧ H l = some (.lst xs) ∧ xs.length < sizeLine ∧ 0 ≤ i ∧ i < 2 ^ 63 ∧ Q .non (upd H l (.lst (xs.take i.toNat ++ [y] ++ xs.drop i.toNat)))) insV := fun A c x v ds vs Q rel rx rd h => by
  unfold insV at h
  split at h
  · rename_i n i y
    split at h
    · rename_i xs hx
      split at h
      · rename_i hl
        obtain ⟨a, e, hφ, ws, hH, t⟩ := Rp.obj rel rx hx
        obtain ⟨w, u, e2, rw1, ru⟩ := RpA.two rd
        rw [show w = .int i from rw1] at e2
        exact ⟨a, ws, i, u, e, e2, hH, by rw [← t.length]; exact Nat.lt_of_lt_of_le hl.1 million, hl.2.1, by omega, h.setL rel hφ hx (((t.take _).append (RpA.cons ru RpA.nil)).append (t.drop _)) rfl⟩
      · exact h.elim
    · exact h.elim
  · exact h.elim
theorem insV_n : NoErrM insV := fun x ds S => by unfold insV; split <;> (try split) <;> (try split) <;> exact True.intro
theorem RpA.last {G : Gam} {c : Cfg} : ∀ {xs : List D} {vs : List V}, RpA G c xs vs → RpA G c xs.dropLast vs.dropLast := fun {xs vs} h => by
  rw [List.dropLast_eq_take, List.dropLast_eq_take, h.length]
  exact h.take _
def popV (x : D) (ds : List D) (S : Store) : R D := match x, ds with
  | .loc n, [] => match S[n]? with
    | some (.lst xs) => match xs[xs.length - 1]? with
      | some y => .ok y (S.set n (.lst xs.dropLast))
      | none => .no
    | _ => .no
  | _, _ => .no
theorem popV_s : MtS K cm rPop popV := fun A c x v ds vs Q rel rx rd h => by
  unfold popV at h
  split at h
  · rename_i n
    split at h
    · rename_i xs hx
      split at h
      · rename_i y hy
        obtain ⟨a, e, hφ, ws, hH, t⟩ := Rp.obj rel rx hx
        obtain ⟨u, hu, ru⟩ := t.get hy
        rw [t.length] at hu
        exact ⟨a, ws, u, e, rd, hH, hu, h.setL rel hφ hx t.last ru⟩
      · exact h.elim
    · exact h.elim
  · exact h.elim
theorem popV_n : NoErrM popV := fun x ds S => by unfold popV; split <;> (try split) <;> (try split) <;> exact True.intro
theorem RpA.out {G : Gam} {c : Cfg} {xs : List D} {vs : List V} (h : RpA G c xs vs) (k : Nat) : RpA G c (xs.eraseIdx k) (vs.eraseIdx k) := by
  rw [List.eraseIdx_eq_take_drop_succ, List.eraseIdx_eq_take_drop_succ]
  exact (h.take _).append (h.drop _)
def popAtV (x : D) (ds : List D) (S : Store) : R D := match x, ds with
  | .loc n, [.int i] => match S[n]? with
    | some (.lst xs) => if 0 ≤ i ∧ i < 2 ^ 60 then match xs[i.toNat]? with
        | some y => .ok y (S.set n (.lst (xs.eraseIdx i.toNat)))
        | none => .no
      else .no
    | _ => .no
  | _, _ => .no
theorem popAtV_s : MtS K cm rPopAt popAtV := fun A c x v ds vs Q rel rx rd h => by
  unfold popAtV at h
  split at h
  · rename_i n i
    split at h
    · rename_i xs hx
      split at h
      · rename_i hi
        split at h
        · rename_i y hy
          obtain ⟨a, e, hφ, ws, hH, t⟩ := Rp.obj rel rx hx
          obtain ⟨u, hu, ru⟩ := t.get hy
          obtain ⟨w, e2, rw1⟩ := RpA.one rd
          rw [show w = .int i from rw1] at e2
          have hlt := (List.getElem?_eq_some_iff.mp hu).1
          have sq : seqIndex? i ws.length = some i.toNat := by
            simp [seqIndex?, show ¬ i < 0 by omega, hi.1]
            omega
          exact ⟨a, ws, i, i.toNat, u, e, e2, hH, by omega, by omega, sq, hu, h.setL rel hφ hx (t.out _) ru⟩
        · exact h.elim
      · exact h.elim
    · exact h.elim
  · exact h.elim
theorem popAtV_n : NoErrM popAtV := fun x ds S => by unfold popAtV; split <;> (try split) <;> (try split) <;> (try split) <;> exact True.intro
/-- range(i, j, -1) -/
def downD (hi : Int) (n : Nat) : List D := (List.range n).map fun (k : Nat) => .int (hi + (k : Int) * (-1))
def diDown (a : DAv) : DIv := fun st S => (a st S).bind fun ds S1 => match ds with
  | [.int i, .int j, .int c] => if c = -1 ∧ j < 2 ^ 60 ∧ -(2 ^ 60) ≤ j ∧ i < 2 ^ 60 ∧ -(2 ^ 60) ≤ i then .ok ⟨downD i (i - j).toNat, []⟩ S1 else .no
  | _ => .no
theorem walk_down {c0 : Cfg} {lo : Int} {n : Nat} : WalkD K cm A c0 (Itc lo (-1) n) ⟨downD lo n, []⟩ := fun B hB c x rel _ i => by
  have l : (downD lo n).length = n := by simp [downD]
  refine ⟨fun y hy => ?_, fun hl => by
    have hl : (downD lo n).length ≤ i := hl
    rw [l] at hl
    exact hl⟩
  have hy : (downD lo n)[i]? = some y := hy
  have hi : i < n := by
    have := (List.getElem?_eq_some_iff.mp hy).1
    rw [l] at this
    exact this
  unfold downD at hy
  rw [List.getElem?_map, List.getElem?_range hi] at hy
  cases hy
  refine ⟨hi, fun u H' hu => ?_⟩
  obtain ⟨e, hu⟩ := hu
  exact ⟨c, e.symm, rfl, .refl c, rel, hu⟩
theorem di_down {tg a b e : Expr} {d : DAv} {p pos : Pos} (hg : Gl X "range") (hm : X.mg "range" = none) (h : DA X cm E [a, b, e] d) (hs : starEach [a, b, e] X.env = (false, eval a X.env) :: starEach [b, e] X.env := by rfl) (hpl : (backTo pos (starEach [b, e] X.env)).any (·.1) = false := by rfl) :
    DI X cm E tg (.Call (.Name "range" p) [a, b, e] [] pos) (diDown d) := by
  obtain ⟨t, p, s⟩ := h.ex
  refine ⟨_, pi_range3 hg hm p hs hpl, fun A c st σ Q rel loc h => s A c st σ _ rel loc (Post.seq h fun ds vs c1 _ x1 rel1 rx h1 => ?_)⟩
  split at h1
  · split at h1
    · rename_i i j c _ hj
      obtain ⟨v, w, u, e, rv, rw, ru⟩ := RpA.three rx
      obtain ⟨hc, h2, h3, h4, h5⟩ := hj
      subst hc
      exact ⟨i, j, -1, (i - j).toNat, by rw [e, show v = .int i from rv, show w = .int j from rw, show u = .int (-1) from ru], RgC.neg (by omega) (by omega) (by omega) (by omega), h1.here rel1 ⟨walk_down, held_nil⟩⟩
    · exact h1.elim
  · exact h1.elim
/-- in, not in a tuple of the module -/
def inK (xs : List D) (neg : Bool) (d : D) (S : Store) : R D := if flatD d = true ∧ xs.all flatD = true then .ok (.bl (if neg then !(xs.any fun u => eqF u d) else xs.any fun u => eqF u d)) S else .no
theorem dt_inK {op : CmpOp} {neg : Bool} {x : Str} {e : Expr} {a : Addr} {ds : List D} {vs : List V} {da : DEv} {p pos : Pos} (ho : OpR X (compareOp op) (rIn X.K neg)) (hg : Gl X x) (hm : X.mg x = some (.ref a)) (hq : ∀ H, SqT X.K H a vs) (hv : ∀ G c, RpA G c ds vs)
    (ha : DE X cm E e da) (hi : behindInMarks op (.Name x p) = false := by rfl) (hd : (x == ("__debug__" : Str)) = false := by decide) : DT X cm E (.Compare e [op] [.Name x p] pos) (dTest (dUn (inK ds neg) da)) := by
  obtain ⟨ta, pa, sa⟩ := ha.ex
  refine ⟨_, pt_cmpR ho pa (pe_glob (v := .ref a) hg hm rfl hd) hi, snd_test fun A c st σ Q rel loc h => sa A c st σ _ rel loc (Post.seq h fun d v c1 _ x1 rel1 rd h1 => ?_)⟩
  unfold inK at h1
  split at h1
  · rename_i f
    obtain ⟨g1, g2⟩ := inF_rep rd f.1 (hv ⟨X.K, cm, A⟩ c1) f.2
    refine ⟨a, vs, rfl, .inr (hq _), flatD_rep rd f.1, g1, ?_⟩
    rw [g2]
    exact h1.here rel1 rfl
  · exact h1.elim
theorem rpStr {G : Gam} {c : Cfg} {z : Str} (h : strG z = true) : Rp G c (.str z) (.str z) := ⟨rfl, (Bool.and_eq_true_iff.mp h).1, Nat.le_trans (of_decide_eq_true (Bool.and_eq_true_iff.mp h).2) (by decide)⟩

/-! ### running the values: what is left of a run (own work) -/
/-- a law of running that the kernel is handed as such -/
theorem nr {α : Sort u} {a b : α} (h : a = b) : a = b := h
def wpE {α : Type} (r : R α) (P : α → Store → Prop) : Prop := ∃ a S, r = .ok a S ∧ P a S
theorem bind_okN {α β : Type} {a : α} {S : Store} {f : α → Store → R β} : (R.ok a S).bind f = f a S := nr R.bind_ok
theorem wpE_ok {α : Type} {a : α} {S : Store} {P : α → Store → Prop} : wpE (.ok a S) P = P a S := propext ⟨fun ⟨_, _, e, h⟩ => by cases e; exact h, fun h => ⟨a, S, rfl, h⟩⟩
theorem wpE_ok_i {α : Type} {a : α} {S : Store} {P : α → Store → Prop} (h : P a S) : wpE (.ok a S) P := ⟨a, S, rfl, h⟩
theorem wpE_err {α : Type} {x : Err} {S : Store} {P : α → Store → Prop} (h : wpE (.err x S) P) : False := by
  obtain ⟨_, _, e, _⟩ := h
  cases e
theorem wpE_no {α : Type} {P : α → Store → Prop} (h : wpE .no P) : False := by
  obtain ⟨_, _, e, _⟩ := h
  cases e
theorem wpE_bind {α β : Type} {r : R α} {f : α → Store → R β} {P : β → Store → Prop} : wpE (r.bind f) P ↔ wpE r fun a S => wpE (f a S) P := by
  cases r with
  | ok a S => rw [wpE_ok]; exact Iff.rfl
  | err x S => exact ⟨fun h => (wpE_err h).elim, fun h => (wpE_err h).elim⟩
  | no => exact ⟨fun h => (wpE_no h).elim, fun h => (wpE_no h).elim⟩
theorem wpE_mono {α : Type} {r : R α} {P Q : α → Store → Prop} (h : wpE r P) (q : ∀ a S, P a S → Q a S) : wpE r Q := by
  obtain ⟨a, S, e, h⟩ := h
  exact ⟨a, S, e, q a S h⟩
/-- what comes next is kept closed: nothing is run ahead of its turn -/
def cmpK {α β γ : Type} (f : α → Store → R β) (g : β → Store → R γ) (a : α) (S : Store) : R γ := (f a S).bind g
theorem cmpK_ev {α β γ : Type} {f : α → Store → R β} {g : β → Store → R γ} {a : α} {S : Store} : cmpK f g a S = (f a S).bind g := nr rfl
theorem bind_assoc' {α β γ : Type} {r : R α} {f : α → Store → R β} {g : β → Store → R γ} : (r.bind f).bind g = r.bind (cmpK f g) := by
  cases r <;> rfl
theorem cmpK_assoc {α β γ δ : Type} {f : α → Store → R β} {g : β → Store → R γ} {h : γ → Store → R δ} : cmpK (cmpK f g) h = cmpK f (cmpK g h) := by
  funext a S
  exact bind_assoc'
def seqK (f : DSv) (fl : Fl) (S : Store) : R Fl := match fl with
  | .nx st => f st S
  | .rt d => .ok (.rt d) S
  | .bk st => .ok (.bk st) S
  | .ct st => .ok (.ct st) S
theorem seqK_nx {f : DSv} {st : DSt} {S : Store} : seqK f (.nx st) S = f st S := nr rfl
theorem seqK_rt {f : DSv} {d : D} {S : Store} : seqK f (.rt d) S = .ok (.rt d) S := nr rfl
theorem seqK_bk {f : DSv} {st : DSt} {S : Store} : seqK f (.bk st) S = .ok (.bk st) S := nr rfl
theorem seqK_ct {f : DSv} {st : DSt} {S : Store} : seqK f (.ct st) S = .ok (.ct st) S := nr rfl
theorem dSeq_ev {a b : DSv} {st : DSt} {S : Store} : dSeq a b st S = (a st S).bind (seqK b) := by
  unfold dSeq
  cases a st S with
  | ok fl S' => cases fl <;> rfl
  | _ => rfl
def finK (fl : Fl) (S : Store) : R D := match fl with
  | .nx _ => .ok .non S
  | .rt d => .ok d S
  | .bk _ => .no
  | .ct _ => .no
theorem finK_nx {st : DSt} {S : Store} : finK (.nx st) S = .ok .non S := nr rfl
theorem finK_rt {d : D} {S : Store} : finK (.rt d) S = .ok d S := nr rfl
/-- the slots at the start -/
def st0 (N : Nat) (ds : List D) : DSt := ds.map some ++ List.replicate (N - ds.length) none
theorem runD_ev {b : DSv} {N : Nat} {ds : List D} {S : Store} : runD b N ds S = (b (st0 N ds) S).bind finK := by
  unfold runD
  show _ = (b (ds.map some ++ List.replicate (N - ds.length) none) S).bind finK
  cases b (ds.map some ++ List.replicate (N - ds.length) none) S with
  | ok fl S' => cases fl <;> rfl
  | _ => rfl
def pad : Nat → DSt
  | 0 => []
  | n + 1 => none :: pad n
theorem pad_eq (n : Nat) : List.replicate n (none : Option D) = pad n := by
  induction n with
  | zero => rfl
  | succ n ih => rw [List.replicate_succ, ih]; rfl
/-- slots read and written -/
def rdS : Nat → DSt → Store → R D
  | 0, some d :: _, S => .ok d S
  | n + 1, _ :: st, S => rdS n st S
  | _, _, _ => .no
theorem dVar_ev {i : Nat} {st : DSt} {S : Store} : dVar i st S = rdS i st S := by
  induction st generalizing i with
  | nil => cases i <;> rfl
  | cons x st ih =>
    cases i with
    | zero => cases x <;> rfl
    | succ n =>
      have := ih (i := n)
      unfold dVar at this ⊢
      rw [List.getElem?_cons_succ]
      exact this
theorem rdS_0 {d : D} {st : DSt} {S : Store} : rdS 0 (some d :: st) S = .ok d S := nr rfl
theorem rdS_s {n : Nat} {x : Option D} {st : DSt} {S : Store} : rdS (n + 1) (x :: st) S = rdS n st S := nr rfl
section
variable {st : DSt} {S : Store} {a b c : DEv} {f g : D → D → Store → R D} {t u : DTv} {p q : DSv} {r : DAv} {x y : D} {i j : Int}
theorem dC_ev : dC x st S = .ok x S := nr rfl
def opK (f : D → D → Store → R D) (b : DEv) (st : DSt) (x : D) (S : Store) : R D := (b st S).bind (f x)
theorem opK_ev : opK f b st x S = (b st S).bind (f x) := nr rfl
theorem dOp_ev : dOp f a b st S = (a st S).bind (opK f b st) := nr rfl
theorem dUn_ev {f : D → Store → R D} : dUn f a st S = (a st S).bind f := nr rfl
def testK (x : D) (S : Store) : R Bool := match x with
  | .bl k => .ok k S
  | _ => .no
theorem testK_bl {k : Bool} : testK (.bl k) S = .ok k S := nr rfl
theorem dTest_ev : dTest a st S = (a st S).bind testK := nr rfl
def chainK (g : D → D → Store → R D) (c : DEv) (st : DSt) (y : D) (z : D) (S : Store) : R D := match z with
  | .bl true => (c st S).bind (g y)
  | .bl false => .ok (.bl false) S
  | _ => .no
theorem chainK_t : chainK g c st y (.bl true) S = (c st S).bind (g y) := nr rfl
theorem chainK_f : chainK g c st y (.bl false) S = .ok (.bl false) S := nr rfl
theorem chainK_b {k : Bool} : chainK g c st y (.bl k) S = if k = true then (c st S).bind (g y) else .ok (.bl false) S := by cases k <;> rfl
def chain2K (f g : D → D → Store → R D) (c : DEv) (st : DSt) (x y : D) (S : Store) : R D := (f x y S).bind (chainK g c st y)
theorem chain2K_ev : chain2K f g c st x y S = (f x y S).bind (chainK g c st y) := nr rfl
def chain1K (f g : D → D → Store → R D) (b c : DEv) (st : DSt) (x : D) (S : Store) : R D := (b st S).bind (chain2K f g c st x)
theorem chain1K_ev : chain1K f g b c st x S = (b st S).bind (chain2K f g c st x) := nr rfl
theorem dChain_ev : dChain f g a b c st S = (a st S).bind (chain1K f g b c st) := nr rfl
def andTK (u : DTv) (st : DSt) (k : Bool) (S : Store) : R Bool := if k = true then u st S else .ok false S
theorem andTK_ev {k : Bool} : andTK u st k S = if k = true then u st S else .ok false S := nr rfl
def orTK (u : DTv) (st : DSt) (k : Bool) (S : Store) : R Bool := if k = true then .ok true S else u st S
theorem orTK_ev {k : Bool} : orTK u st k S = if k = true then .ok true S else u st S := nr rfl
def notTK (k : Bool) (S : Store) : R Bool := .ok (!k) S
theorem notTK_ev {k : Bool} : notTK k S = .ok (!k) S := nr rfl
theorem dAnd_ev : dAnd t u st S = (t st S).bind (andTK u st) := nr rfl
theorem dOr_ev : dOr t u st S = (t st S).bind (orTK u st) := nr rfl
theorem dNot_ev : dNot t st S = (t st S).bind notTK := nr rfl
def andK (b : DEv) (st : DSt) (x : D) (S : Store) : R D := match x with
  | .bl true => b st S
  | .bl false => .ok (.bl false) S
  | _ => .no
def orK (b : DEv) (st : DSt) (x : D) (S : Store) : R D := match x with
  | .bl true => .ok (.bl true) S
  | .bl false => b st S
  | _ => .no
def notK (x : D) (S : Store) : R D := match x with
  | .bl k => .ok (.bl (!k)) S
  | _ => .no
theorem andK_b {k : Bool} : andK b st (.bl k) S = if k = true then b st S else .ok (.bl false) S := by cases k <;> rfl
theorem orK_b {k : Bool} : orK b st (.bl k) S = if k = true then .ok (.bl true) S else b st S := by cases k <;> rfl
theorem notK_b {k : Bool} : notK (.bl k) S = .ok (.bl (!k)) S := nr rfl
theorem dAndV_ev : dAndV a b st S = (a st S).bind (andK b st) := nr rfl
theorem dOrV_ev : dOrV a b st S = (a st S).bind (orK b st) := nr rfl
theorem dNotV_ev : dNotV a st S = (a st S).bind notK := nr rfl
def ifK (a b : DEv) (st : DSt) (k : Bool) (S : Store) : R D := if k = true then a st S else b st S
theorem ifK_ev {k : Bool} : ifK a b st k S = if k = true then a st S else b st S := nr rfl
theorem dIf_ev : dIf t a b st S = (t st S).bind (ifK a b st) := nr rfl
theorem dNil_ev : dNil st S = .ok [] S := nr rfl
def conK (x : D) (xs : List D) (S : Store) : R (List D) := .ok (x :: xs) S
theorem conK_ev {xs : List D} : conK x xs S = .ok (x :: xs) S := nr rfl
def con1K (r : DAv) (st : DSt) (x : D) (S : Store) : R (List D) := (r st S).bind (conK x)
theorem con1K_ev : con1K r st x S = (r st S).bind (conK x) := nr rfl
theorem dCons_ev : dCons a r st S = (a st S).bind (con1K r st) := nr rfl
def tupK (xs : List D) (S : Store) : R D := if xs.length ≤ 1000 then .ok (.tup xs) S else .no
def lstK (xs : List D) (S : Store) : R D := if xs.length ≤ 1000 then .ok (.lst xs) S else .no
def lstMK (xs : List D) (S : Store) : R D := if xs.length ≤ 1000 then .ok (.loc S.length) (S ++ [.lst xs]) else .no
theorem dTup_ev : dTup r st S = (r st S).bind tupK := nr rfl
theorem dLst_ev : dLst r st S = (r st S).bind lstK := nr rfl
theorem dLstM_ev : dLstM r st S = (r st S).bind lstMK := nr rfl
theorem tupK_ok {xs : List D} (h : Nat.ble xs.length 1000 = true) : tupK xs S = .ok (.tup xs) S := if_pos (Nat.le_of_ble_eq_true h)
theorem lstK_ok {xs : List D} (h : Nat.ble xs.length 1000 = true) : lstK xs S = .ok (.lst xs) S := if_pos (Nat.le_of_ble_eq_true h)
theorem lstMK_ok {xs : List D} (h : Nat.ble xs.length 1000 = true) : lstMK xs S = .ok (.loc S.length) (S ++ [.lst xs]) := if_pos (Nat.le_of_ble_eq_true h)
def callK (F : List D → Store → R D) (n : Nat) (ds : List D) (S : Store) : R D := if ds.length = n then F ds S else .no
theorem callK_ev {F : List D → Store → R D} {n : Nat} {ds : List D} (h : ds.length = n) : callK F n ds S = F ds S := if_pos h
theorem dCall_ev {F : List D → Store → R D} {n : Nat} : dCall F n r st S = (r st S).bind (callK F n) := nr rfl
def callDK (F : List D → Store → R D) (n : Nat) (dd ds : List D) (S : Store) : R D := if (ds ++ dd).length = n then F (ds ++ dd) S else .no
theorem callDK_ev {F : List D → Store → R D} {n : Nat} {dd ds : List D} (h : (ds ++ dd).length = n) : callDK F n dd ds S = F (ds ++ dd) S := if_pos h
theorem dCallD_ev {F : List D → Store → R D} {n : Nat} {dd : List D} : dCallD F n dd r st S = (r st S).bind (callDK F n dd) := nr rfl
def callK2 (F : List D → Store → R D) (m n l : Nat) (g : List D → List D → List D) (ds zs : List D) (S : Store) : R D := if ds.length = n ∧ zs.length = l ∧ (g ds zs).length = m then F (g ds zs) S else .no
theorem callK2_ev {F : List D → Store → R D} {m n l : Nat} {g : List D → List D → List D} {ds zs : List D} (h : ds.length = n) (h1 : zs.length = l) (h2 : (g ds zs).length = m) : callK2 F m n l g ds zs S = F (g ds zs) S := if_pos ⟨h, h1, h2⟩
def callK1 (F : List D → Store → R D) (m n l : Nat) (g : List D → List D → List D) (kk : DAv) (st : DSt) (ds : List D) (S : Store) : R D := (kk st S).bind (callK2 F m n l g ds)
theorem callK1_ev {F : List D → Store → R D} {m n l : Nat} {g : List D → List D → List D} {kk : DAv} {ds : List D} : callK1 F m n l g kk st ds S = (kk st S).bind (callK2 F m n l g ds) := nr rfl
theorem dCallK_ev {F : List D → Store → R D} {m n l : Nat} {g : List D → List D → List D} {kk : DAv} : dCallK F m n l g r kk st S = (r st S).bind (callK1 F m n l g kk st) := nr rfl
theorem dBlt_ev {F : List D → Store → R D} : dBlt F r st S = (r st S).bind F := nr rfl
def mtK (ok : Store → D → Bool) (F : D → List D → Store → R D) (r : DAv) (st : DSt) (x : D) (S : Store) : R D := if ok S x = true then (r st S).bind (F x) else .no
theorem mtK_ev {ok : Store → D → Bool} {F : D → List D → Store → R D} (h : ok S x = true) : mtK ok F r st x S = (r st S).bind (F x) := if_pos h
theorem mtK_l {F : D → List D → Store → R D} {n : Nat} {xs : List D} (h : S[n]? = some (.lst xs)) : mtK isLs F r st (.loc n) S = (r st S).bind (F (.loc n)) := if_pos (by simp only [isLs, lsOf, h, Option.isSome_some])
theorem dMt_ev {ok : Store → D → Bool} {F : D → List D → Store → R D} : dMt ok F a r st S = (a st S).bind (mtK ok F r st) := nr rfl
def sl2K (u : DPv) (st : DSt) (x : D) (i : Option Int) (S : Store) : R D := (u st S).bind (slV x i)
theorem sl2K_ev {u : DPv} {o : Option Int} : sl2K u st x o S = (u st S).bind (slV x o) := nr rfl
def sl1K (l u : DPv) (st : DSt) (x : D) (S : Store) : R D := (l st S).bind (sl2K u st x)
theorem sl1K_ev {l u : DPv} : sl1K l u st x S = (l st S).bind (sl2K u st x) := nr rfl
theorem dSl_ev {l u : DPv} : dSl a l u st S = (a st S).bind (sl1K l u st) := nr rfl
theorem dPNone_ev : dPNone st S = .ok none S := nr rfl
def partK (x : D) (S : Store) : R (Option Int) := match x with
  | .int i => .ok (some i) S
  | _ => .no
theorem partK_i : partK (.int i) S = .ok (some i) S := nr rfl
theorem dPart_ev : dPart a st S = (a st S).bind partK := nr rfl
theorem dFrz_ev : dFrz a st S = (a st S).bind frzV := nr rfl
/-- statements -/
theorem dNext_ev : dNext st S = .ok (.nx st) S := nr rfl
def nxK (st : DSt) (_ : D) (S : Store) : R Fl := .ok (.nx st) S
theorem nxK_ev : nxK st x S = .ok (.nx st) S := nr rfl
theorem dDrop_ev : dDrop a st S = (a st S).bind (nxK st) := nr rfl
def rtK (x : D) (S : Store) : R Fl := .ok (.rt x) S
theorem rtK_ev : rtK x S = .ok (.rt x) S := nr rfl
theorem dRet_ev : dRet a st S = (a st S).bind rtK := nr rfl
theorem dRetN_ev : dRetN st S = .ok (.rt .non) S := nr rfl
theorem dBreak_ev : dBreak st S = .ok (.bk st) S := nr rfl
theorem dCont_ev : dCont st S = .ok (.ct st) S := nr rfl
def ifSK (p q : DSv) (st : DSt) (k : Bool) (S : Store) : R Fl := if k = true then p st S else q st S
theorem ifSK_ev {k : Bool} : ifSK p q st k S = if k = true then p st S else q st S := nr rfl
theorem dIfS_ev : dIfS t p q st S = (t st S).bind (ifSK p q st) := nr rfl
def stK (n : Nat) (st : DSt) (x : D) (S : Store) : R Fl := .ok (.nx (st.set n (some x))) S
theorem stK_ev {n : Nat} : stK n st x S = .ok (.nx (st.set n (some x))) S := nr rfl
theorem dSet_ev {n : Nat} : dSet n a st S = (a st S).bind (stK n st) := nr rfl
def nx2K (st : DSt) (S : Store) : R Fl := .ok (.nx st) S
theorem nx2K_ev : nx2K st S = .ok (.nx st) S := nr rfl
def asgK (g : DGv) (st : DSt) (x : D) (S : Store) : R Fl := (g x st S).bind nx2K
theorem asgK_ev {g : DGv} : asgK g st x S = (g x st S).bind nx2K := nr rfl
theorem dAsg_ev {g : DGv} : dAsg a g st S = (a st S).bind (asgK g st) := nr rfl
theorem dgName_ev {n : Nat} : dgName n x st S = .ok (st.set n (some x)) S := nr rfl
theorem dgNil_ev : dgNil [] st S = .ok st S := nr rfl
theorem dgCons_ev {g : DGv} {gs : DGsv} {xs : List D} : dgCons g gs (x :: xs) st S = (g x st S).bind (gs xs) := nr rfl
theorem dgTup_ev {n : Nat} {gs : DGsv} {xs : List D} (h : xs.length = n) : dgTup n gs (.tup xs) st S = gs xs st S := if_pos h
def sub3K (st : DSt) (_ : Unit) (S : Store) : R DSt := .ok st S
theorem sub3K_ev {u : Unit} : sub3K st u S = .ok st S := nr rfl
def sub2K (st : DSt) (x o k : D) (S : Store) : R DSt := (setO o k x S).bind (sub3K st)
theorem sub2K_ev {o k : D} : sub2K st x o k S = (setO o k x S).bind (sub3K st) := nr rfl
def sub1K (b : DEv) (st : DSt) (x o : D) (S : Store) : R DSt := (b st S).bind (sub2K st x o)
theorem sub1K_ev {o : D} : sub1K b st x o S = (b st S).bind (sub2K st x o) := nr rfl
theorem dgSub_ev : dgSub a b x st S = (a st S).bind (sub1K b st x) := nr rfl
noncomputable def forK (g : DGv) (p : DSv) (st : DSt) (s : Src) (S : Store) : R Fl := forD s g p s.xs st S
theorem forK_ev {g : DGv} {s : Src} : forK g p st s S = forD s g p s.xs st S := nr rfl
theorem dFor_ev {di : DIv} {g : DGv} : dFor di g p st S = (di st S).bind (forK g p st) := nr rfl
def rng1K (ds : List D) (S1 : Store) : R Src := match ds with
  | [.int j] => if j < 2 ^ 60 ∧ -(2 ^ 60) ≤ j then .ok ⟨rangeD 0 j.toNat, []⟩ S1 else .no
  | _ => .no
theorem rng1K_i (h0 : j < 2 ^ 60) (h1 : -(2 ^ 60) ≤ j) : rng1K [.int j] S = .ok ⟨rangeD 0 j.toNat, []⟩ S := if_pos ⟨h0, h1⟩
theorem diRng1_ev : diRng1 r st S = (r st S).bind rng1K := nr rfl
def rng2K (ds : List D) (S1 : Store) : R Src := match ds with
  | [.int i, .int j] => if j < 2 ^ 60 ∧ -(2 ^ 60) ≤ j ∧ i < 2 ^ 60 ∧ -(2 ^ 60) ≤ i then .ok ⟨rangeD i (j - i).toNat, []⟩ S1 else .no
  | _ => .no
theorem rng2K_i (h0 : j < 2 ^ 60) (h1 : -(2 ^ 60) ≤ j) (h2 : i < 2 ^ 60) (h3 : -(2 ^ 60) ≤ i) : rng2K [.int i, .int j] S = .ok ⟨rangeD i (j - i).toNat, []⟩ S := if_pos ⟨h0, h1, h2, h3⟩
theorem diRng2_ev : diRng2 r st S = (r st S).bind rng2K := nr rfl
def anyI (x : D) (S : Store) : R Src := match x with
  | .tup xs => .ok ⟨xs, []⟩ S
  | .str x => .ok ⟨signsOf x, []⟩ S
  | x => match srcOf S x with
    | some s => .ok s S
    | none => .no
theorem diAny_ev : diAny a st S = (a st S).bind anyI := nr rfl
theorem anyI_t {xs : List D} : anyI (.tup xs) S = .ok ⟨xs, []⟩ S := nr rfl
theorem anyI_l {xs : List D} : anyI (.lst xs) S = .ok ⟨xs, []⟩ S := nr rfl
theorem anyI_s {x : Str} : anyI (.str x) S = .ok ⟨signsOf x, []⟩ S := nr rfl
theorem anyI_r {xs : List D} : anyI (.scr xs) S = .ok ⟨xs, []⟩ S := nr rfl
theorem anyI_m {n : Nat} {xs : List D} (h : S[n]? = some (.lst xs)) : anyI (.loc n) S = .ok ⟨xs, [(n, xs)]⟩ S := by
  show (match (match S[n]? with
    | some (.lst xs) => some (Src.mk xs [(n, xs)])
    | some (.frz xs) => some (Src.mk xs [(n, xs)])
    | _ => none) with
    | some s => R.ok s S
    | none => .no) = _
  rw [h]
def lc2K (acc : List D) (S : Store) : R D := .ok (.lst acc) S
theorem lc2K_ev {xs : List D} : lc2K xs S = .ok (.lst xs) S := nr rfl
noncomputable def lc1K (g : DGv) (t : DTv) (a : DEv) (st : DSt) (s : Src) (S : Store) : R D := (lcD s g t a st s.xs [] S).bind lc2K
theorem lc1K_ev {g : DGv} {s : Src} : lc1K g t a st s S = (lcD s g t a st s.xs [] S).bind lc2K := nr rfl
theorem dLc_ev {di : DIv} {g : DGv} {vs : List Nat} : dLc di g t a vs st S = (di st S).bind (lc1K g t a (wipeD st vs)) := nr rfl
theorem wipeD_nil : wipeD st [] = st := nr rfl
theorem wipeD_cons {n : Nat} {ns : List Nat} : wipeD st (n :: ns) = (wipeD st ns).set n none := nr rfl
/-- operators on plain things -/
theorem addV_i : addV (.int i) (.int j) S = .ok (.int (i + j)) S := nr rfl
theorem subV_i : subV (.int i) (.int j) S = .ok (.int (i - j)) S := nr rfl
theorem mulV_l (h0 : -(2 ^ 64) < i) (h1 : i < 2 ^ 64) : mulV (.int i) (.int j) S = .ok (.int (i * j)) S := if_pos (by unfold CMulB; rw [decide_eq_true h0, decide_eq_true h1]; rfl)
theorem mulV_r (h0 : -(2 ^ 64) < j) (h1 : j < 2 ^ 64) : mulV (.int i) (.int j) S = .ok (.int (i * j)) S := if_pos (by unfold CMulB; rw [decide_eq_true h0, decide_eq_true h1]; exact Bool.or_true _)
theorem divV_i (h0 : 0 < j) (h1 : j < 10 ^ 60) : divV (.int i) (.int j) S = .ok (.int (i / j)) S := if_pos ⟨h0, lt_huge h1⟩
theorem modV_i (h0 : 0 < j) : modV (.int i) (.int j) S = .ok (.int (i % j)) S := if_pos h0
theorem powV_i (h0 : 0 ≤ j) (h1 : j ≤ 1000) (h2 : 0 ≤ i) (h3 : i ≤ 1000) : powV (.int i) (.int j) S = .ok (.int (i ^ j.toNat)) S := if_pos ⟨h0, h1, h2, h3⟩
theorem negV_i : negV (.int i) S = .ok (.int (-i)) S := nr rfl
theorem cmpV_i {f : Int → Int → Bool} {g : List Nat → List Nat → Bool} : cmpV f g (.int i) (.int j) S = .ok (.bl (f i j)) S := nr rfl
theorem cmpV_st {f : Int → Int → Bool} {g : List Nat → List Nat → Bool} {x y : Str} : cmpV f g (.str x) (.str y) S = .ok (.bl (g x.cps.toList y.cps.toList)) S := nr rfl
theorem eqV_i : eqV (.int i) (.int j) S = .ok (.bl (i == j)) S := by
  show (if min (PyData.int i).depth (PyData.int j).depth ≤ 64 then R.ok (D.bl (PyData.eqv (.int i) (.int j))) S else .no) = _
  rfl
theorem neV_i : neV (.int i) (.int j) S = .ok (.bl (!(i == j))) S := by
  show (if min (PyData.int i).depth (PyData.int j).depth ≤ 64 then R.ok (D.bl (!PyData.eqv (.int i) (.int j))) S else .no) = _
  rfl
theorem eqV_b {k l : Bool} : eqV (.bl k) (.bl l) S = .ok (.bl (k == l)) S := by
  show (if min (PyData.bool k).depth (PyData.bool l).depth ≤ 64 then R.ok (D.bl (PyData.eqv (.bool k) (.bool l))) S else .no) = _
  rfl
theorem neV_b {k l : Bool} : neV (.bl k) (.bl l) S = .ok (.bl (!(k == l))) S := by
  show (if min (PyData.bool k).depth (PyData.bool l).depth ≤ 64 then R.ok (D.bl (!PyData.eqv (.bool k) (.bool l))) S else .no) = _
  rfl
theorem eqV_s' {x y : Str} : eqV (.str x) (.str y) S = .ok (.bl (x == y)) S := by
  show (if min (PyData.str x).depth (PyData.str y).depth ≤ 64 then R.ok (D.bl (PyData.eqv (.str x) (.str y))) S else .no) = _
  rfl
theorem neV_s' {x y : Str} : neV (.str x) (.str y) S = .ok (.bl (!(x == y))) S := by
  show (if min (PyData.str x).depth (PyData.str y).depth ≤ 64 then R.ok (D.bl (!PyData.eqv (.str x) (.str y))) S else .no) = _
  rfl
theorem eqV_nn : eqV .non .non S = .ok (.bl true) S := by
  show (if min (PyData.depth .none) (PyData.depth .none) ≤ 64 then R.ok (D.bl (PyData.eqv .none .none)) S else .no) = _
  rfl
theorem neV_nn : neV .non .non S = .ok (.bl false) S := by
  show (if min (PyData.depth .none) (PyData.depth .none) ≤ 64 then R.ok (D.bl (!PyData.eqv .none .none)) S else .no) = _
  rfl
theorem eqV_ni : eqV .non (.int i) S = .ok (.bl false) S := by
  show (if min (PyData.depth .none) (PyData.depth (.int i)) ≤ 64 then R.ok (D.bl (PyData.eqv .none (.int i))) S else .no) = _
  rfl
theorem neV_ni : neV .non (.int i) S = .ok (.bl true) S := by
  show (if min (PyData.depth .none) (PyData.depth (.int i)) ≤ 64 then R.ok (D.bl (!PyData.eqv .none (.int i))) S else .no) = _
  rfl
theorem eqV_in : eqV (.int i) .non S = .ok (.bl false) S := by
  show (if min (PyData.depth (.int i)) (PyData.depth .none) ≤ 64 then R.ok (D.bl (PyData.eqv (.int i) .none)) S else .no) = _
  rfl
theorem neV_in : neV (.int i) .non S = .ok (.bl true) S := by
  show (if min (PyData.depth (.int i)) (PyData.depth .none) ≤ 64 then R.ok (D.bl (!PyData.eqv (.int i) .none)) S else .no) = _
  rfl
theorem eqV_ns {z : Str} : eqV .non (.str z) S = .ok (.bl false) S := by
  show (if min (PyData.depth .none) (PyData.depth (.str z)) ≤ 64 then R.ok (D.bl (PyData.eqv .none (.str z))) S else .no) = _
  rfl
theorem neV_ns {z : Str} : neV .non (.str z) S = .ok (.bl true) S := by
  show (if min (PyData.depth .none) (PyData.depth (.str z)) ≤ 64 then R.ok (D.bl (!PyData.eqv .none (.str z))) S else .no) = _
  rfl
theorem eqV_sn {z : Str} : eqV (.str z) .non S = .ok (.bl false) S := by
  show (if min (PyData.depth (.str z)) (PyData.depth .none) ≤ 64 then R.ok (D.bl (PyData.eqv (.str z) .none)) S else .no) = _
  rfl
theorem neV_sn {z : Str} : neV (.str z) .non S = .ok (.bl true) S := by
  show (if min (PyData.depth (.str z)) (PyData.depth .none) ≤ 64 then R.ok (D.bl (!PyData.eqv (.str z) .none)) S else .no) = _
  rfl
theorem eqV_nb {k : Bool} : eqV .non (.bl k) S = .ok (.bl false) S := by
  show (if min (PyData.depth .none) (PyData.depth (.bool k)) ≤ 64 then R.ok (D.bl (PyData.eqv .none (.bool k))) S else .no) = _
  rfl
theorem neV_nb {k : Bool} : neV .non (.bl k) S = .ok (.bl true) S := by
  show (if min (PyData.depth .none) (PyData.depth (.bool k)) ≤ 64 then R.ok (D.bl (!PyData.eqv .none (.bool k))) S else .no) = _
  rfl
theorem eqV_bn {k : Bool} : eqV (.bl k) .non S = .ok (.bl false) S := by
  show (if min (PyData.depth (.bool k)) (PyData.depth .none) ≤ 64 then R.ok (D.bl (PyData.eqv (.bool k) .none)) S else .no) = _
  rfl
theorem neV_bn {k : Bool} : neV (.bl k) .non S = .ok (.bl true) S := by
  show (if min (PyData.depth (.bool k)) (PyData.depth .none) ≤ 64 then R.ok (D.bl (!PyData.eqv (.bool k) .none)) S else .no) = _
  rfl
theorem isNon_n : isNon .non = true := nr rfl
theorem isNon_i : isNon (.int i) = false := nr rfl
theorem isNon_t {xs : List D} : isNon (.tup xs) = false := nr rfl
theorem isNon_l {xs : List D} : isNon (.lst xs) = false := nr rfl
theorem isNon_b {k : Bool} : isNon (.bl k) = false := nr rfl
theorem isNon_s {z : Str} : isNon (.str z) = false := nr rfl
theorem isNon_m {n : Nat} : isNon (.loc n) = false := nr rfl
theorem isV_n' : isV x .non S = .ok (.bl (isNon x)) S := nr rfl
theorem isNotV_n' : isNotV x .non S = .ok (.bl (!isNon x)) S := nr rfl
def ixK (o : Option D) (S : Store) : R D := match o with
  | some d => .ok d S
  | none => .no
theorem ixK_s : ixK (some x) S = .ok x S := nr rfl
theorem ixV_t {xs : List D} : ixV (.tup xs) (.int i) S = ixK (atI xs i) S := by
  show (match atI xs i with | some d => R.ok d S | none => .no) = _
  cases atI xs i <;> rfl
theorem ixV_l {xs : List D} : ixV (.lst xs) (.int i) S = ixK (atI xs i) S := by
  show (match atI xs i with | some d => R.ok d S | none => .no) = _
  cases atI xs i <;> rfl
theorem ixV_r {xs : List D} : ixV (.scr xs) (.int i) S = ixK (atI xs i) S := by
  show (match atI xs i with | some d => R.ok d S | none => .no) = _
  cases atI xs i <;> rfl
theorem ixV_m {n : Nat} {xs : List D} (h : S[n]? = some (.lst xs)) : ixV (.loc n) (.int i) S = ixK (atI xs i) S := by
  unfold ixV
  simp only [sqOf, lsOf, h]
  cases atI xs i <;> rfl
theorem lenV_t {xs : List D} : lenV [.tup xs] S = .ok (.int xs.length) S := nr rfl
theorem lenV_l {xs : List D} : lenV [.lst xs] S = .ok (.int xs.length) S := nr rfl
theorem lenV_r {xs : List D} : lenV [.scr xs] S = .ok (.int xs.length) S := nr rfl
theorem lenV_s' {z : Str} : lenV [.str z] S = .ok (.int z.length) S := nr rfl
theorem lenV_m {n : Nat} {xs : List D} (h : S[n]? = some (.lst xs)) : lenV [.loc n] S = .ok (.int xs.length) S := by
  unfold lenV
  simp only [sqOf, lsOf, h]
theorem absV_i : absV [.int i] S = .ok (.int (if i < 0 then -i else i)) S := nr rfl
theorem maxV_i : maxV [.int i, .int j] S = .ok (.int (if j > i then j else i)) S := nr rfl
theorem minV_i : minV [.int i, .int j] S = .ok (.int (if j < i then j else i)) S := nr rfl
theorem appV_m {n : Nat} {xs : List D} (h : S[n]? = some (.lst xs)) (hl : xs.length < 1000000) : appV (.loc n) [x] S = .ok .non (S.set n (.lst (xs ++ [x]))) := by
  unfold appV
  simp only [h, hl, if_true]
def setK (n : Nat) (xs : List D) (x : D) (S : Store) : Option Nat → R Unit
  | some m => .ok () (S.set n (.lst (xs.set m x)))
  | none => .no
theorem setK_s {n m : Nat} {xs : List D} : setK n xs x S (some m) = .ok () (S.set n (.lst (xs.set m x))) := nr rfl
theorem setO_m {n : Nat} {xs : List D} (h : S[n]? = some (.lst xs)) : setO (.loc n) (.int i) x S = setK n xs x S (ixN xs.length i) := by
  unfold setO
  simp only [h]
  cases ixN xs.length i <;> rfl
theorem ixN_ok {n : Nat} (h0 : 0 ≤ i) (h1 : i < n) : ixN n i = some i.toNat := by
  unfold ixN
  rw [if_pos h0, if_pos h1]
theorem atI_ok {α : Type} {xs : List α} (h0 : 0 ≤ i) (h1 : i < xs.length) : atI xs i = xs[i.toNat]? := by
  unfold atI
  rw [ixN_ok h0 h1]
  rfl
theorem atI_nat' {α : Type} {xs : List α} {n : Nat} : atI xs (n : Int) = xs[n]? := by
  by_cases h : n < xs.length
  · rw [atI_ok (by omega) (by omega)]
    simp
  · rw [List.getElem?_eq_none (by omega)]
    unfold atI ixN
    rw [if_pos (by omega), if_neg (by omega)]
    rfl
theorem atI_0 {α : Type} {x0 : α} {xs : List α} : atI (x0 :: xs) 0 = some x0 := by rw [atI_ok (by decide) (by simp <;> omega)]; rfl
theorem atI_1 {α : Type} {x0 x1 : α} {xs : List α} : atI (x0 :: x1 :: xs) 1 = some x1 := by rw [atI_ok (by decide) (by simp <;> omega)]; rfl
theorem atI_2 {α : Type} {x0 x1 x2 : α} {xs : List α} : atI (x0 :: x1 :: x2 :: xs) 2 = some x2 := by rw [atI_ok (by decide) (by simp <;> omega)]; rfl
theorem atI_3 {α : Type} {x0 x1 x2 x3 : α} {xs : List α} : atI (x0 :: x1 :: x2 :: x3 :: xs) 3 = some x3 := by rw [atI_ok (by decide) (by simp <;> omega)]; rfl
theorem atI_4 {α : Type} {x0 x1 x2 x3 x4 : α} {xs : List α} : atI (x0 :: x1 :: x2 :: x3 :: x4 :: xs) 4 = some x4 := by rw [atI_ok (by decide) (by simp <;> omega)]; rfl
theorem atI_5 {α : Type} {x0 x1 x2 x3 x4 x5 : α} {xs : List α} : atI (x0 :: x1 :: x2 :: x3 :: x4 :: x5 :: xs) 5 = some x5 := by rw [atI_ok (by decide) (by simp <;> omega)]; rfl
theorem atI_6 {α : Type} {x0 x1 x2 x3 x4 x5 x6 : α} {xs : List α} : atI (x0 :: x1 :: x2 :: x3 :: x4 :: x5 :: x6 :: xs) 6 = some x6 := by rw [atI_ok (by decide) (by simp <;> omega)]; rfl
theorem atI_7 {α : Type} {x0 x1 x2 x3 x4 x5 x6 x7 : α} {xs : List α} : atI (x0 :: x1 :: x2 :: x3 :: x4 :: x5 :: x6 :: x7 :: xs) 7 = some x7 := by rw [atI_ok (by decide) (by simp <;> omega)]; rfl
theorem atI_8 {α : Type} {x0 x1 x2 x3 x4 x5 x6 x7 x8 : α} {xs : List α} : atI (x0 :: x1 :: x2 :: x3 :: x4 :: x5 :: x6 :: x7 :: x8 :: xs) 8 = some x8 := by rw [atI_ok (by decide) (by simp <;> omega)]; rfl
theorem atI_9 {α : Type} {x0 x1 x2 x3 x4 x5 x6 x7 x8 x9 : α} {xs : List α} : atI (x0 :: x1 :: x2 :: x3 :: x4 :: x5 :: x6 :: x7 :: x8 :: x9 :: xs) 9 = some x9 := by rw [atI_ok (by decide) (by simp <;> omega)]; rfl
theorem isLs_m {n : Nat} {xs : List D} (h : S[n]? = some (.lst xs)) : isLs S (.loc n) = true := by simp only [isLs, lsOf, h, Option.isSome_some]
end
/-! for: an invariant by the turn -/
/-! where a walk's body is to end -/
def forP (I : Nat → DSt → Store → Prop) (i : Nat) (Q : Fl → Store → Prop) (fl : Fl) (S : Store) : Prop := match fl with
  | .nx st => I (i + 1) st S
  | .ct st => I (i + 1) st S
  | .bk st => Q (.nx st) S
  | .rt d => Q (.rt d) S
section
variable {I : Nat → DSt → Store → Prop} {i : Nat} {Q : Fl → Store → Prop} {st : DSt} {S : Store} {d : D}
theorem forP_nx : forP I i Q (.nx st) S = I (i + 1) st S := nr rfl
theorem forP_ct : forP I i Q (.ct st) S = I (i + 1) st S := nr rfl
theorem forP_bk : forP I i Q (.bk st) S = Q (.nx st) S := nr rfl
theorem forP_rt : forP I i Q (.rt d) S = Q (.rt d) S := nr rfl
end
def kP {α β : Type} (k : β → Store → R α) (P : α → Store → Prop) (x : β) (S : Store) : Prop := wpE (k x S) P
theorem kP_ev {α β : Type} {k : β → Store → R α} {P : α → Store → Prop} {x : β} {S : Store} : kP k P x S = wpE (k x S) P := nr rfl
theorem wp_for {s : Src} {g : DGv} {b : DSv} {st : DSt} {S : Store} {α : Type} {k : Fl → Store → R α} {P : α → Store → Prop} (I : Nat → DSt → Store → Prop) (h0 : I 0 st S)
    (step : ∀ i x st S, s.xs[i]? = some x → I i st S → s.held S ∧ wpE ((g x st S).bind b) (forP I i (kP k P)))
    (done : ∀ st S, I s.xs.length st S → s.held S ∧ wpE (k (.nx st) S) P) : wpE ((forD s g b s.xs st S).bind k) P := by
  have go : ∀ (n i : Nat) (st : DSt) (S : Store), s.xs.length - i = n → i ≤ s.xs.length → I i st S → wpE ((forD s g b (s.xs.drop i) st S).bind k) P := by
    intro n
    induction n with
    | zero =>
      intro i st S e hi h
      have e : i = s.xs.length := by omega
      subst e
      obtain ⟨h1, h2⟩ := done st S h
      rw [List.drop_length]
      unfold forD
      rw [if_pos h1]
      exact h2
    | succ n ih =>
      intro i st S e hi h
      have hlt : i < s.xs.length := by omega
      obtain ⟨h1, h2⟩ := step i _ st S (List.getElem?_eq_getElem hlt) h
      rw [List.drop_eq_getElem_cons hlt]
      unfold forD
      rw [if_pos h1]
      cases q : g s.xs[i] st S with
      | ok st1 S1 =>
        rw [q] at h2
        simp only [R.bind_ok] at h2 ⊢
        obtain ⟨fl, S2, q2, h2⟩ := h2
        rw [q2]
        cases fl with
        | nx st2 => exact ih (i + 1) st2 S2 (by omega) hlt h2
        | ct st2 => exact ih (i + 1) st2 S2 (by omega) hlt h2
        | bk st2 => exact h2
        | rt d => exact h2
      | err x S2 => rw [q] at h2; exact (wpE_err h2).elim
      | no => rw [q] at h2; exact (wpE_no h2).elim
  exact go _ 0 st S rfl (Nat.zero_le _) h0
theorem bind_ret {α : Type} {r : R α} : (r.bind fun a S => .ok a S) = r := by cases r <;> rfl
/-- the same for a walk that ends a body -/
theorem wp_forE {s : Src} {g : DGv} {b : DSv} {st : DSt} {S : Store} {P : Fl → Store → Prop} (I : Nat → DSt → Store → Prop) (h0 : I 0 st S)
    (step : ∀ i x st S, s.xs[i]? = some x → I i st S → s.held S ∧ wpE ((g x st S).bind b) (forP I i P))
    (done : ∀ st S, I s.xs.length st S → s.held S ∧ P (.nx st) S) : wpE (forD s g b s.xs st S) P := by
  rw [← bind_ret (r := forD s g b s.xs st S)]
  refine wp_for I h0 (fun i x st S h1 h2 => ?_) fun st S h => ⟨(done st S h).1, wpE_ok_i (done st S h).2⟩
  obtain ⟨h3, h4⟩ := step i x st S h1 h2
  exact ⟨h3, wpE_mono h4 fun fl S' h => by
    cases fl with
    | nx st => exact h
    | ct st => exact h
    | bk st => exact wpE_ok_i h
    | rt d => exact wpE_ok_i h⟩
theorem rangeD_get {lo : Int} {n i : Nat} {x : D} (h : (rangeD lo n)[i]? = some x) : i < n ∧ x = .int (lo + (i : Int)) := by
  unfold rangeD at h
  rw [List.getElem?_map] at h
  by_cases hi : i < n
  · rw [List.getElem?_range hi] at h
    cases h
    exact ⟨hi, rfl⟩
  · rw [List.getElem?_eq_none (by simpa using Nat.le_of_not_lt hi)] at h
    cases h
theorem rangeD_len {lo : Int} {n : Nat} : (rangeD lo n).length = n := by simp [rangeD]
/-! a comprehension's turn -/
def someK (y : D) (S : Store) : R (Option D) := .ok (some y) S
theorem someK_ev {y : D} {S : Store} : someK y S = .ok (some y) S := nr rfl
def lcT2K (e : DEv) (st : DSt) (k : Bool) (S : Store) : R (Option D) := if k = true then (e st S).bind someK else .ok none S
theorem lcT2K_ev {e : DEv} {st : DSt} {k : Bool} {S : Store} : lcT2K e st k S = if k = true then (e st S).bind someK else .ok none S := nr rfl
def lcT1K (t : DTv) (e : DEv) (st : DSt) (S : Store) : R (Option D) := (t st S).bind (lcT2K e st)
theorem lcT1K_ev {t : DTv} {e : DEv} {st : DSt} {S : Store} : lcT1K t e st S = (t st S).bind (lcT2K e st) := nr rfl
def lcT (g : DGv) (t : DTv) (e : DEv) (st : DSt) (x : D) (S : Store) : R (Option D) := (g x st S).bind (lcT1K t e)
theorem lcT_ev {g : DGv} {t : DTv} {e : DEv} {st : DSt} {x : D} {S : Store} : lcT g t e st x S = (g x st S).bind (lcT1K t e) := nr rfl
/-- where a comprehension's turn is to end -/
def lcP (I : Nat → List D → Store → Prop) (i : Nat) (acc : List D) (o : Option D) (S : Store) : Prop := match o with
  | some y => I (i + 1) (acc ++ [y]) S
  | none => I (i + 1) acc S
theorem lcP_some {I : Nat → List D → Store → Prop} {i : Nat} {acc : List D} {y : D} {S : Store} : lcP I i acc (some y) S = I (i + 1) (acc ++ [y]) S := nr rfl
theorem lcP_none {I : Nat → List D → Store → Prop} {i : Nat} {acc : List D} {S : Store} : lcP I i acc none S = I (i + 1) acc S := nr rfl
/-- each turn leaves the store -/
theorem lcD_pure {s : Src} {g : DGv} {t : DTv} {e : DEv} {st : DSt} {S : Store} (f : D → Option D) (hS : s.held S) : ∀ (xs acc : List D), acc.length + xs.length ≤ 1000000 → (∀ x ∈ xs, lcT g t e st x S = .ok (f x) S) → lcD s g t e st xs acc S = .ok (acc ++ xs.filterMap f) S
  | [], acc, _, _ => by
    unfold lcD
    rw [if_pos hS]
    simp
  | x :: xs, acc, hl, h => by
    have hx : ((g x st S).bind fun st1 S1 => (t st1 S1).bind fun k S2 => if k = true then (e st1 S2).bind fun y S3 => R.ok (some y) S3 else .ok none S2) = .ok (f x) S := h x List.mem_cons_self
    rw [List.length_cons] at hl
    unfold lcD
    rw [if_pos ⟨hS, by omega⟩, hx]
    have tl : ∀ y ∈ xs, lcT g t e st y S = .ok (f y) S := fun y hy => h y (List.mem_cons_of_mem _ hy)
    cases q : f x with
    | none =>
      simp only [R.mute, R.bind_ok]
      rw [lcD_pure f hS xs acc (by omega) tl, List.filterMap_cons, q]
    | some y =>
      simp only [R.mute, R.bind_ok]
      rw [lcD_pure f hS xs (acc ++ [y]) (by rw [List.length_append, List.length_singleton]; omega) tl, List.filterMap_cons, q]
      simp
/-- an invariant over what was made -/
theorem wp_lc {s : Src} {g : DGv} {t : DTv} {e : DEv} {st : DSt} {S : Store} {α : Type} {k : List D → Store → R α} {P : α → Store → Prop} (I : Nat → List D → Store → Prop) (h0 : I 0 [] S)
    (step : ∀ i x acc S, s.xs[i]? = some x → I i acc S → s.held S ∧ acc.length < 1000000 ∧ wpE (lcT g t e st x S) (lcP I i acc))
    (done : ∀ acc S, I s.xs.length acc S → s.held S ∧ wpE (k acc S) P) : wpE ((lcD s g t e st s.xs [] S).bind k) P := by
  have go : ∀ (n i : Nat) (acc : List D) (S : Store), s.xs.length - i = n → i ≤ s.xs.length → I i acc S → wpE ((lcD s g t e st (s.xs.drop i) acc S).bind k) P := by
    intro n
    induction n with
    | zero =>
      intro i acc S e1 hi h
      have e1 : i = s.xs.length := by omega
      subst e1
      obtain ⟨h1, h2⟩ := done acc S h
      rw [List.drop_length]
      unfold lcD
      rw [if_pos h1]
      exact h2
    | succ n ih =>
      intro i acc S e1 hi h
      have hlt : i < s.xs.length := by omega
      obtain ⟨h1, hl, h2⟩ := step i _ acc S (List.getElem?_eq_getElem hlt) h
      rw [List.drop_eq_getElem_cons hlt]
      unfold lcD
      rw [if_pos ⟨h1, hl⟩]
      show wpE ((R.bind (R.mute (lcT g t e st s.xs[i] S)) _).bind k) P
      obtain ⟨o, S2, q, h2⟩ := h2
      rw [q]
      cases o with
      | none => exact ih (i + 1) acc S2 (by omega) hlt h2
      | some y => exact ih (i + 1) (acc ++ [y]) S2 (by omega) hlt h2
  exact go _ 0 [] S rfl (Nat.zero_le _) h0
theorem wp_use {α β : Type} {r : R α} {k : α → Store → R β} {Q : α → Store → Prop} {P : β → Store → Prop} (h : wpE r Q) (q : ∀ a S', Q a S' → wpE (k a S') P) : wpE (r.bind k) P := wpE_bind.mpr (wpE_mono h q)
theorem wp_eq {α β : Type} {r : R α} {a : α} {S' : Store} {k : α → Store → R β} {P : β → Store → Prop} (h : r = .ok a S') (q : wpE (k a S') P) : wpE (r.bind k) P := by rw [h]; exact q
theorem wp_ite {α : Type} {c : Prop} [Decidable c] {a b : R α} {P : α → Store → Prop} (h1 : c → wpE a P) (h2 : ¬ c → wpE b P) : wpE (if c then a else b) P := by
  by_cases h : c
  · rw [if_pos h]; exact h1 h
  · rw [if_neg h]; exact h2 h
theorem wp_iteB {α β : Type} {c : Prop} [Decidable c] {a b : R α} {k : α → Store → R β} {P : β → Store → Prop} (h1 : c → wpE (a.bind k) P) (h2 : ¬ c → wpE (b.bind k) P) : wpE ((if c then a else b).bind k) P := by
  by_cases h : c
  · rw [if_pos h]; exact h1 h
  · rw [if_neg h]; exact h2 h
theorem wp_done {r : R D} {d : D} (h : wpE r fun x _ => x = d) : ∃ S', r = .ok d S' := by
  obtain ⟨a, S, e, rfl⟩ := h
  exact ⟨S, e⟩

/-! ### what stands in the store -/
/-- a bag of draws -/
def BagAt (S : Store) (b : Nat) : Prop := ∃ b0 b1 : Int, S[b]? = some (.lst [.int b0, .int b1])
/-- only b may have changed, more may stand behind -/
structure Fr (b : Nat) (S S' : Store) : Prop where
  bag : BagAt S' b
  len : S.length ≤ S'.length
  keep : ∀ (n : Nat) (o : O), n ≠ b → S[n]? = some o → S'[n]? = some o
theorem BagAt.lt {S : Store} {b : Nat} (h : BagAt S b) : b < S.length := let ⟨_, _, h⟩ := h; (List.getElem?_eq_some_iff.mp h).1
theorem Fr.refl {b : Nat} {S : Store} (h : BagAt S b) : Fr b S S := ⟨h, Nat.le_refl _, fun _ _ _ h => h⟩
theorem Fr.trans {b : Nat} {S S1 S2 : Store} (x : Fr b S S1) (y : Fr b S1 S2) : Fr b S S2 := ⟨y.bag, Nat.le_trans x.len y.len, fun n o h e => y.keep n o h (x.keep n o h e)⟩
theorem Fr.set {b : Nat} {S : Store} {x y : Int} (h : b < S.length) : Fr b S (S.set b (.lst [.int x, .int y])) :=
  ⟨⟨x, y, List.getElem?_set_self h⟩, by simp, fun n o ne e => by rw [List.getElem?_set_ne (Ne.symm ne)]; exact e⟩
theorem Fr.app {b : Nat} {S T : Store} (h : BagAt S b) : Fr b S (S ++ T) := by
  obtain ⟨x, y, e⟩ := h
  exact ⟨⟨x, y, by rw [List.getElem?_append_left (List.getElem?_eq_some_iff.mp e).1]; exact e⟩, by simp, fun n o _ e => by rw [List.getElem?_append_left (List.getElem?_eq_some_iff.mp e).1]; exact e⟩
theorem app_at {S : Store} {o : O} : (S ++ [o])[S.length]? = some o := by simp
/-- a display of a fixed size -/
theorem tupK_0 {S : Store} : tupK [] S = .ok (.tup []) S := nr rfl
theorem lstK_0 {S : Store} : lstK [] S = .ok (.lst []) S := nr rfl
theorem lstMK_0 {S : Store} : lstMK [] S = .ok (.loc S.length) (S ++ [.lst []]) := nr rfl
theorem tupK_1 {x0 : D} {S : Store} : tupK [x0] S = .ok (.tup [x0]) S := nr rfl
theorem lstK_1 {x0 : D} {S : Store} : lstK [x0] S = .ok (.lst [x0]) S := nr rfl
theorem lstMK_1 {x0 : D} {S : Store} : lstMK [x0] S = .ok (.loc S.length) (S ++ [.lst [x0]]) := nr rfl
theorem tupK_2 {x0 x1 : D} {S : Store} : tupK [x0, x1] S = .ok (.tup [x0, x1]) S := nr rfl
theorem lstK_2 {x0 x1 : D} {S : Store} : lstK [x0, x1] S = .ok (.lst [x0, x1]) S := nr rfl
theorem lstMK_2 {x0 x1 : D} {S : Store} : lstMK [x0, x1] S = .ok (.loc S.length) (S ++ [.lst [x0, x1]]) := nr rfl
theorem tupK_3 {x0 x1 x2 : D} {S : Store} : tupK [x0, x1, x2] S = .ok (.tup [x0, x1, x2]) S := nr rfl
theorem lstK_3 {x0 x1 x2 : D} {S : Store} : lstK [x0, x1, x2] S = .ok (.lst [x0, x1, x2]) S := nr rfl
theorem lstMK_3 {x0 x1 x2 : D} {S : Store} : lstMK [x0, x1, x2] S = .ok (.loc S.length) (S ++ [.lst [x0, x1, x2]]) := nr rfl
theorem tupK_4 {x0 x1 x2 x3 : D} {S : Store} : tupK [x0, x1, x2, x3] S = .ok (.tup [x0, x1, x2, x3]) S := nr rfl
theorem lstK_4 {x0 x1 x2 x3 : D} {S : Store} : lstK [x0, x1, x2, x3] S = .ok (.lst [x0, x1, x2, x3]) S := nr rfl
theorem lstMK_4 {x0 x1 x2 x3 : D} {S : Store} : lstMK [x0, x1, x2, x3] S = .ok (.loc S.length) (S ++ [.lst [x0, x1, x2, x3]]) := nr rfl
theorem tupK_5 {x0 x1 x2 x3 x4 : D} {S : Store} : tupK [x0, x1, x2, x3, x4] S = .ok (.tup [x0, x1, x2, x3, x4]) S := nr rfl
theorem lstK_5 {x0 x1 x2 x3 x4 : D} {S : Store} : lstK [x0, x1, x2, x3, x4] S = .ok (.lst [x0, x1, x2, x3, x4]) S := nr rfl
theorem lstMK_5 {x0 x1 x2 x3 x4 : D} {S : Store} : lstMK [x0, x1, x2, x3, x4] S = .ok (.loc S.length) (S ++ [.lst [x0, x1, x2, x3, x4]]) := nr rfl
theorem tupK_6 {x0 x1 x2 x3 x4 x5 : D} {S : Store} : tupK [x0, x1, x2, x3, x4, x5] S = .ok (.tup [x0, x1, x2, x3, x4, x5]) S := nr rfl
theorem lstK_6 {x0 x1 x2 x3 x4 x5 : D} {S : Store} : lstK [x0, x1, x2, x3, x4, x5] S = .ok (.lst [x0, x1, x2, x3, x4, x5]) S := nr rfl
theorem lstMK_6 {x0 x1 x2 x3 x4 x5 : D} {S : Store} : lstMK [x0, x1, x2, x3, x4, x5] S = .ok (.loc S.length) (S ++ [.lst [x0, x1, x2, x3, x4, x5]]) := nr rfl
theorem tupK_7 {x0 x1 x2 x3 x4 x5 x6 : D} {S : Store} : tupK [x0, x1, x2, x3, x4, x5, x6] S = .ok (.tup [x0, x1, x2, x3, x4, x5, x6]) S := nr rfl
theorem lstK_7 {x0 x1 x2 x3 x4 x5 x6 : D} {S : Store} : lstK [x0, x1, x2, x3, x4, x5, x6] S = .ok (.lst [x0, x1, x2, x3, x4, x5, x6]) S := nr rfl
theorem lstMK_7 {x0 x1 x2 x3 x4 x5 x6 : D} {S : Store} : lstMK [x0, x1, x2, x3, x4, x5, x6] S = .ok (.loc S.length) (S ++ [.lst [x0, x1, x2, x3, x4, x5, x6]]) := nr rfl
theorem tupK_8 {x0 x1 x2 x3 x4 x5 x6 x7 : D} {S : Store} : tupK [x0, x1, x2, x3, x4, x5, x6, x7] S = .ok (.tup [x0, x1, x2, x3, x4, x5, x6, x7]) S := nr rfl
theorem lstK_8 {x0 x1 x2 x3 x4 x5 x6 x7 : D} {S : Store} : lstK [x0, x1, x2, x3, x4, x5, x6, x7] S = .ok (.lst [x0, x1, x2, x3, x4, x5, x6, x7]) S := nr rfl
theorem lstMK_8 {x0 x1 x2 x3 x4 x5 x6 x7 : D} {S : Store} : lstMK [x0, x1, x2, x3, x4, x5, x6, x7] S = .ok (.loc S.length) (S ++ [.lst [x0, x1, x2, x3, x4, x5, x6, x7]]) := nr rfl
theorem tupK_9 {x0 x1 x2 x3 x4 x5 x6 x7 x8 : D} {S : Store} : tupK [x0, x1, x2, x3, x4, x5, x6, x7, x8] S = .ok (.tup [x0, x1, x2, x3, x4, x5, x6, x7, x8]) S := nr rfl
theorem lstK_9 {x0 x1 x2 x3 x4 x5 x6 x7 x8 : D} {S : Store} : lstK [x0, x1, x2, x3, x4, x5, x6, x7, x8] S = .ok (.lst [x0, x1, x2, x3, x4, x5, x6, x7, x8]) S := nr rfl
theorem lstMK_9 {x0 x1 x2 x3 x4 x5 x6 x7 x8 : D} {S : Store} : lstMK [x0, x1, x2, x3, x4, x5, x6, x7, x8] S = .ok (.loc S.length) (S ++ [.lst [x0, x1, x2, x3, x4, x5, x6, x7, x8]]) := nr rfl
theorem tupK_10 {x0 x1 x2 x3 x4 x5 x6 x7 x8 x9 : D} {S : Store} : tupK [x0, x1, x2, x3, x4, x5, x6, x7, x8, x9] S = .ok (.tup [x0, x1, x2, x3, x4, x5, x6, x7, x8, x9]) S := nr rfl
theorem lstK_10 {x0 x1 x2 x3 x4 x5 x6 x7 x8 x9 : D} {S : Store} : lstK [x0, x1, x2, x3, x4, x5, x6, x7, x8, x9] S = .ok (.lst [x0, x1, x2, x3, x4, x5, x6, x7, x8, x9]) S := nr rfl
theorem lstMK_10 {x0 x1 x2 x3 x4 x5 x6 x7 x8 x9 : D} {S : Store} : lstMK [x0, x1, x2, x3, x4, x5, x6, x7, x8, x9] S = .ok (.loc S.length) (S ++ [.lst [x0, x1, x2, x3, x4, x5, x6, x7, x8, x9]]) := nr rfl
theorem tupK_11 {x0 x1 x2 x3 x4 x5 x6 x7 x8 x9 x10 : D} {S : Store} : tupK [x0, x1, x2, x3, x4, x5, x6, x7, x8, x9, x10] S = .ok (.tup [x0, x1, x2, x3, x4, x5, x6, x7, x8, x9, x10]) S := nr rfl
theorem lstK_11 {x0 x1 x2 x3 x4 x5 x6 x7 x8 x9 x10 : D} {S : Store} : lstK [x0, x1, x2, x3, x4, x5, x6, x7, x8, x9, x10] S = .ok (.lst [x0, x1, x2, x3, x4, x5, x6, x7, x8, x9, x10]) S := nr rfl
theorem lstMK_11 {x0 x1 x2 x3 x4 x5 x6 x7 x8 x9 x10 : D} {S : Store} : lstMK [x0, x1, x2, x3, x4, x5, x6, x7, x8, x9, x10] S = .ok (.loc S.length) (S ++ [.lst [x0, x1, x2, x3, x4, x5, x6, x7, x8, x9, x10]]) := nr rfl
theorem tupK_12 {x0 x1 x2 x3 x4 x5 x6 x7 x8 x9 x10 x11 : D} {S : Store} : tupK [x0, x1, x2, x3, x4, x5, x6, x7, x8, x9, x10, x11] S = .ok (.tup [x0, x1, x2, x3, x4, x5, x6, x7, x8, x9, x10, x11]) S := nr rfl
theorem lstK_12 {x0 x1 x2 x3 x4 x5 x6 x7 x8 x9 x10 x11 : D} {S : Store} : lstK [x0, x1, x2, x3, x4, x5, x6, x7, x8, x9, x10, x11] S = .ok (.lst [x0, x1, x2, x3, x4, x5, x6, x7, x8, x9, x10, x11]) S := nr rfl
theorem lstMK_12 {x0 x1 x2 x3 x4 x5 x6 x7 x8 x9 x10 x11 : D} {S : Store} : lstMK [x0, x1, x2, x3, x4, x5, x6, x7, x8, x9, x10, x11] S = .ok (.loc S.length) (S ++ [.lst [x0, x1, x2, x3, x4, x5, x6, x7, x8, x9, x10, x11]]) := nr rfl
theorem tupK_13 {x0 x1 x2 x3 x4 x5 x6 x7 x8 x9 x10 x11 x12 : D} {S : Store} : tupK [x0, x1, x2, x3, x4, x5, x6, x7, x8, x9, x10, x11, x12] S = .ok (.tup [x0, x1, x2, x3, x4, x5, x6, x7, x8, x9, x10, x11, x12]) S := nr rfl
theorem tupK_14 {x0 x1 x2 x3 x4 x5 x6 x7 x8 x9 x10 x11 x12 x13 : D} {S : Store} : tupK [x0, x1, x2, x3, x4, x5, x6, x7, x8, x9, x10, x11, x12, x13] S = .ok (.tup [x0, x1, x2, x3, x4, x5, x6, x7, x8, x9, x10, x11, x12, x13]) S := nr rfl
theorem tupK_15 {x0 x1 x2 x3 x4 x5 x6 x7 x8 x9 x10 x11 x12 x13 x14 : D} {S : Store} : tupK [x0, x1, x2, x3, x4, x5, x6, x7, x8, x9, x10, x11, x12, x13, x14] S = .ok (.tup [x0, x1, x2, x3, x4, x5, x6, x7, x8, x9, x10, x11, x12, x13, x14]) S := nr rfl
theorem tupK_16 {x0 x1 x2 x3 x4 x5 x6 x7 x8 x9 x10 x11 x12 x13 x14 x15 : D} {S : Store} : tupK [x0, x1, x2, x3, x4, x5, x6, x7, x8, x9, x10, x11, x12, x13, x14, x15] S = .ok (.tup [x0, x1, x2, x3, x4, x5, x6, x7, x8, x9, x10, x11, x12, x13, x14, x15]) S := nr rfl
theorem tupK_17 {x0 x1 x2 x3 x4 x5 x6 x7 x8 x9 x10 x11 x12 x13 x14 x15 x16 : D} {S : Store} : tupK [x0, x1, x2, x3, x4, x5, x6, x7, x8, x9, x10, x11, x12, x13, x14, x15, x16] S = .ok (.tup [x0, x1, x2, x3, x4, x5, x6, x7, x8, x9, x10, x11, x12, x13, x14, x15, x16]) S := nr rfl
theorem tupK_18 {x0 x1 x2 x3 x4 x5 x6 x7 x8 x9 x10 x11 x12 x13 x14 x15 x16 x17 : D} {S : Store} : tupK [x0, x1, x2, x3, x4, x5, x6, x7, x8, x9, x10, x11, x12, x13, x14, x15, x16, x17] S = .ok (.tup [x0, x1, x2, x3, x4, x5, x6, x7, x8, x9, x10, x11, x12, x13, x14, x15, x16, x17]) S := nr rfl
theorem tupK_19 {x0 x1 x2 x3 x4 x5 x6 x7 x8 x9 x10 x11 x12 x13 x14 x15 x16 x17 x18 : D} {S : Store} : tupK [x0, x1, x2, x3, x4, x5, x6, x7, x8, x9, x10, x11, x12, x13, x14, x15, x16, x17, x18] S = .ok (.tup [x0, x1, x2, x3, x4, x5, x6, x7, x8, x9, x10, x11, x12, x13, x14, x15, x16, x17, x18]) S := nr rfl
theorem tupK_20 {x0 x1 x2 x3 x4 x5 x6 x7 x8 x9 x10 x11 x12 x13 x14 x15 x16 x17 x18 x19 : D} {S : Store} : tupK [x0, x1, x2, x3, x4, x5, x6, x7, x8, x9, x10, x11, x12, x13, x14, x15, x16, x17, x18, x19] S = .ok (.tup [x0, x1, x2, x3, x4, x5, x6, x7, x8, x9, x10, x11, x12, x13, x14, x15, x16, x17, x18, x19]) S := nr rfl
theorem tupK_21 {x0 x1 x2 x3 x4 x5 x6 x7 x8 x9 x10 x11 x12 x13 x14 x15 x16 x17 x18 x19 x20 : D} {S : Store} : tupK [x0, x1, x2, x3, x4, x5, x6, x7, x8, x9, x10, x11, x12, x13, x14, x15, x16, x17, x18, x19, x20] S = .ok (.tup [x0, x1, x2, x3, x4, x5, x6, x7, x8, x9, x10, x11, x12, x13, x14, x15, x16, x17, x18, x19, x20]) S := nr rfl
theorem tupK_22 {x0 x1 x2 x3 x4 x5 x6 x7 x8 x9 x10 x11 x12 x13 x14 x15 x16 x17 x18 x19 x20 x21 : D} {S : Store} : tupK [x0, x1, x2, x3, x4, x5, x6, x7, x8, x9, x10, x11, x12, x13, x14, x15, x16, x17, x18, x19, x20, x21] S = .ok (.tup [x0, x1, x2, x3, x4, x5, x6, x7, x8, x9, x10, x11, x12, x13, x14, x15, x16, x17, x18, x19, x20, x21]) S := nr rfl
theorem tupK_23 {x0 x1 x2 x3 x4 x5 x6 x7 x8 x9 x10 x11 x12 x13 x14 x15 x16 x17 x18 x19 x20 x21 x22 : D} {S : Store} : tupK [x0, x1, x2, x3, x4, x5, x6, x7, x8, x9, x10, x11, x12, x13, x14, x15, x16, x17, x18, x19, x20, x21, x22] S = .ok (.tup [x0, x1, x2, x3, x4, x5, x6, x7, x8, x9, x10, x11, x12, x13, x14, x15, x16, x17, x18, x19, x20, x21, x22]) S := nr rfl
theorem tupK_24 {x0 x1 x2 x3 x4 x5 x6 x7 x8 x9 x10 x11 x12 x13 x14 x15 x16 x17 x18 x19 x20 x21 x22 x23 : D} {S : Store} : tupK [x0, x1, x2, x3, x4, x5, x6, x7, x8, x9, x10, x11, x12, x13, x14, x15, x16, x17, x18, x19, x20, x21, x22, x23] S = .ok (.tup [x0, x1, x2, x3, x4, x5, x6, x7, x8, x9, x10, x11, x12, x13, x14, x15, x16, x17, x18, x19, x20, x21, x22, x23]) S := nr rfl
theorem app_set {S : Store} {o o' : O} : (S ++ [o]).set S.length o' = S ++ [o'] := by
  induction S with
  | nil => rfl
  | cons x S ih => show x :: (S ++ [o]).set S.length o' = x :: (S ++ [o']); rw [ih]
/-! isinstance -/
section
variable {S : Store} {x y : D} {i : Int} {n : Nat} {xs ys : List D}
theorem tyOf_non : tyOf S .non = some .NoneType := nr rfl
theorem tyOf_bl {k : Bool} : tyOf S (.bl k) = some .bool := nr rfl
theorem tyOf_int : tyOf S (.int i) = some .int := nr rfl
theorem tyOf_str {z : Str} : tyOf S (.str z) = some .str := nr rfl
theorem tyOf_tup : tyOf S (.tup xs) = some .tuple := nr rfl
theorem tyOf_lst : tyOf S (.lst xs) = some .list := nr rfl
theorem tyOf_locL (h : S[n]? = some (.lst xs)) : tyOf S (.loc n) = some .list := by
  show (match S[n]? with
    | some (.lst _) => some Ty.list
    | some (.frz _) => some Ty.list
    | some (.dK _) => some Ty.dict
    | some (.dT _) => some Ty.dict
    | _ => none) = _
  rw [h]
def isiK (a b : Option Ty) (S : Store) : R D := match a, b with
  | some a, some t => .ok (.bl (isTy a t)) S
  | _, _ => .no
theorem isiV_ty {m : String} : isiV [x, .ty m] S = isiK (tyOf S x) (tyNm m) S := by
  unfold isiK
  rfl
theorem isiK_s {a b : Ty} : isiK (some a) (some b) S = .ok (.bl (isTy a b)) S := nr rfl
def zipK (ds : List D) (S1 : Store) : R Src := match ds with
  | [.tup xs, .tup ys] => .ok ⟨zipD xs ys, []⟩ S1
  | [x, y] => match srcOf S1 x, srcOf S1 y with
    | some s, some s' => .ok ⟨zipD s.xs s'.xs, s.at_ ++ s'.at_⟩ S1
    | _, _ => .no
  | _ => .no
theorem diZip_ev {a : DAv} {st : DSt} : diZip a st S = (a st S).bind zipK := nr rfl
theorem zipK_t : zipK [.tup xs, .tup ys] S = .ok ⟨zipD xs ys, []⟩ S := nr rfl
theorem zipK_ll : zipK [.lst xs, .lst ys] S = .ok ⟨zipD xs ys, []⟩ S := nr rfl
theorem zipK_ml (h : S[n]? = some (.lst xs)) : zipK [.loc n, .lst ys] S = .ok ⟨zipD xs ys, [(n, xs)]⟩ S := by
  unfold zipK
  simp only [srcOf, h]
  rfl
theorem zipK_lm (h : S[n]? = some (.lst xs)) : zipK [.lst ys, .loc n] S = .ok ⟨zipD ys xs, [(n, xs)]⟩ S := by
  unfold zipK
  simp only [srcOf, h]
  rfl
theorem addV_ll (h : xs.length + ys.length ≤ 1000000) : addV (.lst xs) (.lst ys) S = .ok (.lst (xs ++ ys)) S := if_pos h
theorem addV_tt (h : xs.length + ys.length ≤ 1000000) : addV (.tup xs) (.tup ys) S = .ok (.tup (xs ++ ys)) S := if_pos h
theorem zipD_nil : zipD [] ys = [] := nr rfl
end
theorem castLit {n : Nat} : ((no_index (OfNat.ofNat n) : Nat) : Int) = OfNat.ofNat n := rfl
theorem wp_is {r : R D} {v : D} {S : Store} (h : wpE r fun d S' => d = v ∧ S' = S) : r = .ok v S := by
  obtain ⟨a, S1, e, rfl, rfl⟩ := h
  exact e
theorem isTy_NoneType_bool : isTy .NoneType .bool = false := nr rfl
theorem isTy_NoneType_int : isTy .NoneType .int = false := nr rfl
theorem isTy_NoneType_str : isTy .NoneType .str = false := nr rfl
theorem isTy_NoneType_list : isTy .NoneType .list = false := nr rfl
theorem isTy_NoneType_tuple : isTy .NoneType .tuple = false := nr rfl
theorem isTy_NoneType_dict : isTy .NoneType .dict = false := nr rfl
theorem isTy_bool_bool : isTy .bool .bool = true := nr rfl
theorem isTy_bool_int : isTy .bool .int = true := nr rfl
theorem isTy_bool_str : isTy .bool .str = false := nr rfl
theorem isTy_bool_list : isTy .bool .list = false := nr rfl
theorem isTy_bool_tuple : isTy .bool .tuple = false := nr rfl
theorem isTy_bool_dict : isTy .bool .dict = false := nr rfl
theorem isTy_int_bool : isTy .int .bool = false := nr rfl
theorem isTy_int_int : isTy .int .int = true := nr rfl
theorem isTy_int_str : isTy .int .str = false := nr rfl
theorem isTy_int_list : isTy .int .list = false := nr rfl
theorem isTy_int_tuple : isTy .int .tuple = false := nr rfl
theorem isTy_int_dict : isTy .int .dict = false := nr rfl
theorem isTy_str_bool : isTy .str .bool = false := nr rfl
theorem isTy_str_int : isTy .str .int = false := nr rfl
theorem isTy_str_str : isTy .str .str = true := nr rfl
theorem isTy_str_list : isTy .str .list = false := nr rfl
theorem isTy_str_tuple : isTy .str .tuple = false := nr rfl
theorem isTy_str_dict : isTy .str .dict = false := nr rfl
theorem isTy_list_bool : isTy .list .bool = false := nr rfl
theorem isTy_list_int : isTy .list .int = false := nr rfl
theorem isTy_list_str : isTy .list .str = false := nr rfl
theorem isTy_list_list : isTy .list .list = true := nr rfl
theorem isTy_list_tuple : isTy .list .tuple = false := nr rfl
theorem isTy_list_dict : isTy .list .dict = false := nr rfl
theorem isTy_tuple_bool : isTy .tuple .bool = false := nr rfl
theorem isTy_tuple_int : isTy .tuple .int = false := nr rfl
theorem isTy_tuple_str : isTy .tuple .str = false := nr rfl
theorem isTy_tuple_list : isTy .tuple .list = false := nr rfl
theorem isTy_tuple_tuple : isTy .tuple .tuple = true := nr rfl
theorem isTy_tuple_dict : isTy .tuple .dict = false := nr rfl
theorem isTy_dict_bool : isTy .dict .bool = false := nr rfl
theorem isTy_dict_int : isTy .dict .int = false := nr rfl
theorem isTy_dict_str : isTy .dict .str = false := nr rfl
theorem isTy_dict_list : isTy .dict .list = false := nr rfl
theorem isTy_dict_tuple : isTy .dict .tuple = false := nr rfl
theorem isTy_dict_dict : isTy .dict .dict = true := nr rfl
theorem tyNm_bool : tyNm "bool" = some .bool := nr rfl
theorem tyNm_int : tyNm "int" = some .int := nr rfl
theorem tyNm_str : tyNm "str" = some .str := nr rfl
theorem tyNm_list : tyNm "list" = some .list := nr rfl
theorem tyNm_tuple : tyNm "tuple" = some .tuple := nr rfl
theorem tyNm_dict : tyNm "dict" = some .dict := nr rfl
/-! comprehensions into the store, enumerate, slices, in -/
noncomputable def dc1K (g : DGv) (t : DTv) (ek ev : DEv) (st : DSt) (s : Src) (S : Store) : R D := (dcD s S.length g t ek ev st s.xs (S ++ [.dK []])).bind fun _ S2 => .ok (.loc S.length) S2
theorem dDc_ev {i : DIv} {g : DGv} {t : DTv} {ek ev : DEv} {vs : List Nat} {st : DSt} {S : Store} : dDc i g t ek ev vs st S = (i st S).bind (dc1K g t ek ev (wipeD st vs)) := nr rfl
def locK {α : Type} (n : Nat) (_ : α) (S : Store) : R D := .ok (.loc n) S
theorem locK_ev {α : Type} {n : Nat} {u : α} {S : Store} : locK n u S = .ok (.loc n) S := nr rfl
theorem dc1K_ev {g : DGv} {t : DTv} {ek ev : DEv} {st : DSt} {s : Src} {S : Store} : dc1K g t ek ev st s S = (dcD s S.length g t ek ev st s.xs (S ++ [.dK []])).bind (locK S.length) := nr rfl
def dcT3K (n : Nat) (ev : DEv) (st : DSt) (y : D) (S : Store) : R Unit := (ev st S).bind (putC n y)
theorem dcT3K_ev {n : Nat} {ev : DEv} {st : DSt} {y : D} {S : Store} : dcT3K n ev st y S = (ev st S).bind (putC n y) := nr rfl
def dcT2K (n : Nat) (ek ev : DEv) (st : DSt) (k : Bool) (S : Store) : R Unit := if k = true then (ek st S).bind (dcT3K n ev st) else .ok () S
theorem dcT2K_ev {n : Nat} {ek ev : DEv} {st : DSt} {k : Bool} {S : Store} : dcT2K n ek ev st k S = if k = true then (ek st S).bind (dcT3K n ev st) else .ok () S := nr rfl
def dcT1K (n : Nat) (t : DTv) (ek ev : DEv) (st : DSt) (S : Store) : R Unit := (t st S).bind (dcT2K n ek ev st)
theorem dcT1K_ev {n : Nat} {t : DTv} {ek ev : DEv} {st : DSt} {S : Store} : dcT1K n t ek ev st S = (t st S).bind (dcT2K n ek ev st) := nr rfl
theorem dcT_ev {n : Nat} {g : DGv} {t : DTv} {ek ev : DEv} {st : DSt} {x : D} {S : Store} : dcT n g t ek ev st x S = (g x st S).bind (dcT1K n t ek ev) := nr rfl
theorem putC_ok {n : Nat} {y z : D} {q : Key} {kvs : List (Key × D)} {S : Store} (h : keyOf y = some q) (h1 : S[n]? = some (.dK kvs)) (h2 : kvs.length < 1000000) : putC n y z S = .ok () (S.set n (.dK (putA kvs q z))) := by
  unfold putC
  rw [h, h1]
  exact if_pos h2
theorem wp_dc {s : Src} {n : Nat} {g : DGv} {t : DTv} {ek ev : DEv} {st : DSt} {S : Store} {α : Type} {k : Unit → Store → R α} {P : α → Store → Prop} (I : Nat → Store → Prop) (h0 : I 0 S)
    (step : ∀ i x S, s.xs[i]? = some x → I i S → s.held S ∧ wpE (dcT n g t ek ev st x S) fun _ S2 => I (i + 1) S2)
    (done : ∀ S, I s.xs.length S → s.held S ∧ wpE (k () S) P) : wpE ((dcD s n g t ek ev st s.xs S).bind k) P := by
  have go : ∀ (j i : Nat) (S : Store), s.xs.length - i = j → i ≤ s.xs.length → I i S → wpE ((dcD s n g t ek ev st (s.xs.drop i) S).bind k) P := by
    intro j
    induction j with
    | zero =>
      intro i S e1 hi h
      have e1 : i = s.xs.length := by omega
      subst e1
      obtain ⟨h1, h2⟩ := done S h
      rw [List.drop_length]
      unfold dcD
      rw [if_pos h1]
      exact h2
    | succ j ih =>
      intro i S e1 hi h
      have hlt : i < s.xs.length := by omega
      obtain ⟨h1, h2⟩ := step i _ S (List.getElem?_eq_getElem hlt) h
      rw [List.drop_eq_getElem_cons hlt]
      unfold dcD
      rw [if_pos h1]
      obtain ⟨o, S2, q, h2⟩ := h2
      rw [q]
      exact ih (i + 1) S2 (by omega) hlt h2
  exact go _ 0 S rfl (Nat.zero_le _) h0
noncomputable def lm1K (g : DGv) (t : DTv) (e : DEv) (st : DSt) (s : Src) (S : Store) : R D := (lmD s S.length g t e st s.xs (S ++ [.lst []])).bind fun _ S2 => .ok (.loc S.length) S2
theorem dLm_ev {i : DIv} {g : DGv} {t : DTv} {e : DEv} {vs : List Nat} {st : DSt} {S : Store} : dLm i g t e vs st S = (i st S).bind (lm1K g t e (wipeD st vs)) := nr rfl
theorem lm1K_ev {g : DGv} {t : DTv} {e : DEv} {st : DSt} {s : Src} {S : Store} : lm1K g t e st s S = (lmD s S.length g t e st s.xs (S ++ [.lst []])).bind (locK S.length) := nr rfl
def lmT2K (n : Nat) (e : DEv) (st : DSt) (k : Bool) (S : Store) : R Unit := if k = true then (e st S).bind (putL n) else .ok () S
theorem lmT2K_ev {n : Nat} {e : DEv} {st : DSt} {k : Bool} {S : Store} : lmT2K n e st k S = if k = true then (e st S).bind (putL n) else .ok () S := nr rfl
def lmT1K (n : Nat) (t : DTv) (e : DEv) (st : DSt) (S : Store) : R Unit := (t st S).bind (lmT2K n e st)
theorem lmT1K_ev {n : Nat} {t : DTv} {e : DEv} {st : DSt} {S : Store} : lmT1K n t e st S = (t st S).bind (lmT2K n e st) := nr rfl
theorem lmT_ev {n : Nat} {g : DGv} {t : DTv} {e : DEv} {st : DSt} {x : D} {S : Store} : lmT n g t e st x S = (g x st S).bind (lmT1K n t e) := nr rfl
theorem putL_ok {n : Nat} {y : D} {acc : List D} {S : Store} (h1 : S[n]? = some (.lst acc)) (h2 : acc.length < 1000000) : putL n y S = .ok () (S.set n (.lst (acc ++ [y]))) := by
  unfold putL
  rw [h1]
  exact if_pos h2
theorem wp_lm {s : Src} {n : Nat} {g : DGv} {t : DTv} {e : DEv} {st : DSt} {S : Store} {α : Type} {k : Unit → Store → R α} {P : α → Store → Prop} (I : Nat → Store → Prop) (h0 : I 0 S)
    (step : ∀ i x S, s.xs[i]? = some x → I i S → s.held S ∧ wpE (lmT n g t e st x S) fun _ S2 => I (i + 1) S2)
    (done : ∀ S, I s.xs.length S → s.held S ∧ wpE (k () S) P) : wpE ((lmD s n g t e st s.xs S).bind k) P := by
  have go : ∀ (j i : Nat) (S : Store), s.xs.length - i = j → i ≤ s.xs.length → I i S → wpE ((lmD s n g t e st (s.xs.drop i) S).bind k) P := by
    intro j
    induction j with
    | zero =>
      intro i S e1 hi h
      have e1 : i = s.xs.length := by omega
      subst e1
      obtain ⟨h1, h2⟩ := done S h
      rw [List.drop_length]
      unfold lmD
      rw [if_pos h1]
      exact h2
    | succ j ih =>
      intro i S e1 hi h
      have hlt : i < s.xs.length := by omega
      obtain ⟨h1, h2⟩ := step i _ S (List.getElem?_eq_getElem hlt) h
      rw [List.drop_eq_getElem_cons hlt]
      unfold lmD
      rw [if_pos h1]
      obtain ⟨o, S2, q, h2⟩ := h2
      rw [q]
      exact ih (i + 1) S2 (by omega) hlt h2
  exact go _ 0 S rfl (Nat.zero_le _) h0
theorem dYes_ev {st : DSt} {S : Store} : dYes st S = .ok true S := nr rfl
def enumK (ds : List D) (S1 : Store) : R Src := match ds with
  | [x] => match srcOf S1 x with
    | some s => .ok ⟨(List.range s.xs.length).map fun (k : Nat) => .tup [.int (k : Int), s.xs.getD k .non], s.at_⟩ S1
    | none => .no
  | _ => .no
theorem diEnum_ev {a : DAv} {st : DSt} {S : Store} : diEnumerate a st S = (a st S).bind enumK := nr rfl
def enumL (xs : List D) : List D := (List.range xs.length).map fun (k : Nat) => .tup [.int (k : Int), xs.getD k .non]
theorem enumL_len {xs : List D} : (enumL xs).length = xs.length := by simp [enumL]
theorem enumL_get {xs : List D} {i : Nat} {y : D} (h : (enumL xs)[i]? = some y) : ∃ x, xs[i]? = some x ∧ y = .tup [.int (i : Int), x] := by
  unfold enumL at h
  rw [List.getElem?_map] at h
  by_cases hi : i < xs.length
  · rw [List.getElem?_range hi] at h
    cases h
    exact ⟨xs[i], List.getElem?_eq_getElem hi, by simp [List.getD_eq_getElem?_getD, List.getElem?_eq_getElem hi]⟩
  · rw [List.getElem?_eq_none (by simpa using Nat.le_of_not_lt hi)] at h
    cases h
theorem enumK_l {xs : List D} {S : Store} : enumK [.lst xs] S = .ok ⟨enumL xs, []⟩ S := nr rfl
theorem enumK_m {n : Nat} {xs : List D} {S : Store} (h : S[n]? = some (.lst xs)) : enumK [.loc n] S = .ok ⟨enumL xs, [(n, xs)]⟩ S := by
  unfold enumK
  simp only [srcOf, h]
  rfl
theorem slV_t {xs : List D} {lo hi : Option Int} {S : Store} : slV (.tup xs) lo hi S = .ok (.tup (cutD xs lo hi)) S := nr rfl
theorem slV_l {xs : List D} {lo hi : Option Int} {S : Store} : slV (.lst xs) lo hi S = .ok (.lst (cutD xs lo hi)) S := nr rfl
theorem slV_m {n : Nat} {xs : List D} {lo hi : Option Int} {S : Store} (h : S[n]? = some (.lst xs)) : slV (.loc n) lo hi S = .ok (.lst (cutD xs lo hi)) S := by
  unfold slV
  simp only [lsOf, h]
theorem cutD_to {xs : List D} {k : Nat} : cutD xs none (some (k : Int)) = xs.take k := by
  unfold cutD
  rw [HT.sIx_none, HT.sIx_nat]
  simp only [List.drop_zero, Nat.sub_zero]
  rw [List.take_eq_take_iff]
  omega
theorem listV_l {xs : List D} {S : Store} : listV [.lst xs] S = .ok (.lst xs) S := nr rfl
theorem listV_m {n : Nat} {xs : List D} {S : Store} (h : S[n]? = some (.lst xs)) : listV [.loc n] S = .ok (.lst xs) S := by
  unfold listV
  simp only [sqOf, lsOf, h]
theorem notInV_dk {n : Nat} {i : Int} {kvs : List (Key × D)} {S : Store} (h : S[n]? = some (.dK kvs)) : notInV' (.int i) (.loc n) S = .ok (.bl (!(lookA kvs (.inl i)).isSome)) S := by
  unfold notInV' inC
  simp only [sqOf, lsOf, dGetO, h, keyOf, Option.map_some]
theorem notInV_ints {i : Int} {is : List Int} {S : Store} : notInV' (.int i) (.lst (is.map D.int)) S = .ok (.bl (!decide (i ∈ is))) S := by
  have a : (is.map D.int).all flatD = true := by
    induction is with
    | nil => rfl
    | cons x xs ih => rw [List.map_cons, List.all_cons, ih]; rfl
  have b : ((is.map D.int).any fun u => eqF u (.int i)) = decide (i ∈ is) := by
    induction is with
    | nil => simp
    | cons x xs ih =>
      rw [List.map_cons, List.any_cons, ih (by rw [List.map_cons, List.all_cons, Bool.and_eq_true] at a; exact a.2)]
      show ((x == i) || decide (i ∈ xs)) = _
      by_cases e : x = i
      · subst e
        simp
      · have e' : ¬ i = x := fun z => e z.symm
        simp [e, e']
  unfold notInV' inC
  simp only [sqOf, lsOf, a, b, and_true, flatD, if_true]
def downK (ds : List D) (S1 : Store) : R Src := match ds with
  | [.int i, .int j, .int c] => if c = -1 ∧ j < 2 ^ 60 ∧ -(2 ^ 60) ≤ j ∧ i < 2 ^ 60 ∧ -(2 ^ 60) ≤ i then .ok ⟨downD i (i - j).toNat, []⟩ S1 else .no
  | _ => .no
theorem diDown_ev {r : DAv} {st : DSt} {S : Store} : diDown r st S = (r st S).bind downK := nr rfl
theorem downK_i {i j c : Int} {S : Store} (hc : c = -1) (h0 : j < 2 ^ 60) (h1 : -(2 ^ 60) ≤ j) (h2 : i < 2 ^ 60) (h3 : -(2 ^ 60) ≤ i) : downK [.int i, .int j, .int c] S = .ok ⟨downD i (i - j).toNat, []⟩ S := if_pos ⟨hc, h0, h1, h2, h3⟩
theorem downD_len {i : Int} {n : Nat} : (downD i n).length = n := by simp [downD]
theorem downD_get {lo : Int} {n i : Nat} {x : D} (h : (downD lo n)[i]? = some x) : i < n ∧ x = .int (lo + (i : Int) * (-1)) := by
  have hi : i < n := by
    have := (List.getElem?_eq_some_iff.mp h).1
    rw [downD_len] at this
    exact this
  unfold downD at h
  rw [List.getElem?_map, List.getElem?_range hi] at h
  cases h
  exact ⟨hi, rfl⟩
theorem BagAt.put {S : Store} {b n : Nat} {o : O} (h : BagAt S b) (ne : n ≠ b) : BagAt (S.set n o) b := by
  obtain ⟨u, v, e⟩ := h
  exact ⟨u, v, by rw [List.getElem?_set_ne ne]; exact e⟩
theorem set_at {S : Store} {n : Nat} {o o' : O} (h : S[n]? = some o) : (S.set n o')[n]? = some o' := List.getElem?_set_self (List.getElem?_eq_some_iff.mp h).1
/-- the run, as far as it goes by itself -/
local macro_rules | `(tactic| walk_at "ev") => `(tactic| try simp (disch := first | assumption | omega | (simp only [List.length_cons, List.length_nil, List.length_append, List.cons_append, List.nil_append, Nat.reduceAdd, isLs_m, *] <;> omega) | exact List.getElem?_set_self (by first | assumption | omega) | exact app_at | (split <;> omega) | fail) only [runD_ev, st0, List.map_cons, List.map_nil, List.length_cons, List.length_nil, List.cons_append, List.nil_append, pad_eq, Nat.reduceAdd, Nat.reduceSub, pad, diDown_ev, downK_i, dDc_ev, locK_ev, dc1K_ev, dcT3K_ev, dcT2K_ev, dcT1K_ev, dcT_ev, dLm_ev, lm1K_ev, lmT2K_ev, lmT1K_ev, lmT_ev, dYes_ev, diEnum_ev, enumK_l, enumK_m, slV_t, slV_l, slV_m, listV_l, listV_m, notInV_dk, notInV_ints, putL_ok, tyOf_non, tyOf_bl, tyOf_int, tyOf_str, tyOf_tup, tyOf_lst, tyOf_locL, isiV_ty, isiK_s, diZip_ev, zipK_t, zipK_ll, zipK_ml, zipK_lm, addV_ll, addV_tt, isTy_NoneType_bool, isTy_NoneType_int, isTy_NoneType_str, isTy_NoneType_list, isTy_NoneType_tuple, isTy_NoneType_dict, isTy_bool_bool, isTy_bool_int, isTy_bool_str, isTy_bool_list, isTy_bool_tuple, isTy_bool_dict, isTy_int_bool, isTy_int_int, isTy_int_str, isTy_int_list, isTy_int_tuple, isTy_int_dict, isTy_str_bool, isTy_str_int, isTy_str_str, isTy_str_list, isTy_str_tuple, isTy_str_dict, isTy_list_bool, isTy_list_int, isTy_list_str, isTy_list_list, isTy_list_tuple, isTy_list_dict, isTy_tuple_bool, isTy_tuple_int, isTy_tuple_str, isTy_tuple_list, isTy_tuple_tuple, isTy_tuple_dict, isTy_dict_bool, isTy_dict_int, isTy_dict_str, isTy_dict_list, isTy_dict_tuple, isTy_dict_dict, tyNm_bool, tyNm_int, tyNm_str, tyNm_list, tyNm_tuple, tyNm_dict, app_set, dSeq_ev, seqK_nx, seqK_rt, seqK_bk, seqK_ct, finK_nx, finK_rt, dVar_ev, rdS_0, rdS_s, dC_ev, dOp_ev, dUn_ev,
  testK_bl, dTest_ev, chainK_b, dChain_ev, dAnd_ev, dOr_ev, dNot_ev, andK_b, orK_b, notK_b, dAndV_ev, dOrV_ev, dNotV_ev, dIf_ev, dNil_ev, dCons_ev, tupK_0, lstK_0, lstMK_0, tupK_1, lstK_1, lstMK_1, tupK_2, lstK_2, lstMK_2, tupK_3, lstK_3, lstMK_3, tupK_4, lstK_4, lstMK_4, tupK_5, lstK_5, lstMK_5, tupK_6, lstK_6, lstMK_6, tupK_7, lstK_7, lstMK_7, tupK_8, lstK_8, lstMK_8, tupK_9, lstK_9, lstMK_9, tupK_10, lstK_10, lstMK_10, tupK_11, lstK_11, lstMK_11, tupK_12, lstK_12, lstMK_12, tupK_13, tupK_14, tupK_15, tupK_16, tupK_17, tupK_18, tupK_19, tupK_20, tupK_21, tupK_22, tupK_23, tupK_24, dTup_ev, dLst_ev, dLstM_ev, dCall_ev, dCallD_ev, dCallK_ev, dBlt_ev, dMt_ev, dSl_ev, dPNone_ev, partK_i, dPart_ev, dFrz_ev, dNext_ev, dDrop_ev,
  dRet_ev, dRetN_ev, dBreak_ev, dCont_ev, dIfS_ev, dSet_ev, dAsg_ev, dgName_ev, dgNil_ev, dgCons_ev, dgTup_ev, dgSub_ev, dFor_ev, diRng1_ev, diRng2_ev, diAny_ev, anyI_t, anyI_l, anyI_s, anyI_r, dLc_ev, wipeD_nil, wipeD_cons, addV_i, subV_i, negV_i, mulV_l, mulV_r, divV_i, modV_i, powV_i, cmpV_i, cmpV_st, eqV_i, neV_i, eqV_b, neV_b, eqV_s', neV_s', eqV_nn, neV_nn, eqV_ni, neV_ni, eqV_in, neV_in, eqV_ns, neV_ns, eqV_sn, neV_sn, eqV_nb, neV_nb, eqV_bn, neV_bn, isNon_n, isNon_i, isNon_t, isNon_l, isNon_b, isNon_s, isNon_m, isV_n', isNotV_n', bne_self_eq_false,  ixV_t, ixV_l, ixV_r,
  ixK_s, lenV_t, lenV_l, lenV_r, lenV_s', absV_i, maxV_i, minV_i, bind_okN, bind_assoc', cmpK_assoc, cmpK_ev, opK_ev, chain2K_ev, chain1K_ev, andTK_ev, orTK_ev, notTK_ev, ifK_ev, conK_ev, con1K_ev, callK_ev, callDK_ev, callK2_ev, callK1_ev, mtK_l, mtK_ev, sl2K_ev, sl1K_ev, nxK_ev, rtK_ev, ifSK_ev, stK_ev, nx2K_ev, asgK_ev, sub3K_ev, sub2K_ev, sub1K_ev, forK_ev, rng1K_i, rng2K_i, lc2K_ev, lc1K_ev, forP_nx, forP_ct, forP_bk, forP_rt, kP_ev, someK_ev, lcT2K_ev, lcT1K_ev, lcT_ev, lcP_some, lcP_none, wpE_ok, List.set_cons_zero, List.set_cons_succ, ite_true, if_true, ite_false, if_false, Bool.not_true, Bool.not_false, Bool.false_eq_true, decide_true, decide_false, decide_eq_true_eq, ixV_m, lenV_m, appV_m, isLs_m, anyI_m, setO_m, setK_s, ixN_ok, Int.toNat_zero, Int.reduceToNat, Int.reducePow, Int.reduceAdd, Int.reduceSub, Int.reduceMul, Int.reduceNeg, Nat.reduceLT, List.isEmpty_nil, List.isEmpty_cons, castLit, beq_self_eq_true, Int.reduceBEq, Int.reduceLT, Int.reduceLE, Nat.reduceLeDiff, List.getD_cons_zero, List.getD_cons_succ, true_and, and_true, and_self, Int.zero_add, atI_0, atI_1, atI_2, atI_3, atI_4, atI_5, atI_6, atI_7, atI_8, atI_9])

/-! ### the text by places, the scopes of its defs (printed by wip/gen.py) -/
def topS (i : Nat) : Stmt := PySem.Challenge.pw_pagelend_k45_whole_logs_made_longer.main.body.getD i (.Pass ⟨0, 0, 0, 0⟩)
abbrev s_is_whole : Stmt := topS 2
abbrev N_is_whole : List Str := ["thing"]
theorem sc_is_whole : FnScope N_is_whole ["thing"] (defScope s_is_whole) := ⟨rfl, rfl, rfl, by decide +kernel, rfl, by decide +kernel, by decide +kernel⟩
abbrev s_is_within : Stmt := topS 3
abbrev N_is_within : List Str := ["thing", "least", "most"]
theorem sc_is_within : FnScope N_is_within ["thing", "least", "most"] (defScope s_is_within) := ⟨rfl, rfl, rfl, by decide +kernel, rfl, by decide +kernel, by decide +kernel⟩
abbrev s_is_name : Stmt := topS 4
abbrev N_is_name : List Str := ["thing", "sign"]
theorem sc_is_name : FnScope N_is_name ["thing"] (defScope s_is_name) := ⟨rfl, rfl, rfl, by decide +kernel, rfl, by decide +kernel, by decide +kernel⟩
abbrev s_is_log_row : Stmt := topS 8
abbrev N_is_log_row : List Str := ["thing", "time", "word", "task", "client", "file", "page", "value"]
theorem sc_is_log_row : FnScope N_is_log_row ["thing"] (defScope s_is_log_row) := ⟨rfl, rfl, rfl, by decide +kernel, rfl, by decide +kernel, by decide +kernel⟩
abbrev s_is_log : Stmt := topS 9
abbrev N_is_log : List Str := ["thing", "row"]
theorem sc_is_log : FnScope N_is_log ["thing"] (defScope s_is_log) := ⟨rfl, rfl, rfl, by decide +kernel, rfl, by decide +kernel, by decide +kernel⟩
abbrev s_truth : Stmt := topS 10
abbrev N_truth : List Str := ["log", "file", "page", "lost", "found", "time", "word", "task", "client", "name", "at", "value", "row"]
theorem sc_truth : FnScope N_truth ["log", "file", "page"] (defScope s_truth) := ⟨rfl, rfl, rfl, by decide +kernel, rfl, by decide +kernel, by decide +kernel⟩
abbrev s_first_stale : Stmt := topS 11
abbrev N_first_stale : List Str := ["log", "at", "row"]
theorem sc_first_stale : FnScope N_first_stale ["log"] (defScope s_first_stale) := ⟨rfl, rfl, rfl, by decide +kernel, rfl, by decide +kernel, by decide +kernel⟩
abbrev s_law_bag : Stmt := topS 13
abbrev N_law_bag : List Str := ["script", "k", "cell"]
theorem sc_law_bag : FnScope N_law_bag ["script", "k"] (defScope s_law_bag) := ⟨rfl, rfl, rfl, by decide +kernel, rfl, by decide +kernel, by decide +kernel⟩
abbrev s_law_take : Stmt := topS 14
abbrev N_law_take : List Str := ["bag", "many", "found"]
theorem sc_law_take : FnScope N_law_take ["bag", "many"] (defScope s_law_take) := ⟨rfl, rfl, rfl, by decide +kernel, rfl, by decide +kernel, by decide +kernel⟩
abbrev s_law_log_row : Stmt := topS 15
abbrev N_law_log_row : List Str := ["bag", "word", "file", "number", "value", "way", "client"]
theorem sc_law_log_row : FnScope N_law_log_row ["bag"] (defScope s_law_log_row) := ⟨rfl, rfl, rfl, by decide +kernel, rfl, by decide +kernel, by decide +kernel⟩
abbrev s_law : Stmt := topS 16
abbrev N_law : List Str := ["script", "k", "bag", "rows", "more", "first", "page", "last", "values", "log", "at", "value", "other", "turn"]
theorem sc_law : FnScope N_law ["script"] (defScope s_law) := ⟨rfl, rfl, rfl, by decide +kernel, rfl, by decide +kernel, by decide +kernel⟩

noncomputable def B_law_bag : DSv :=
  dSeq (dSet 2 (dC (.int 0)))
  (dSeq (dIfS (dTest (dOp ltV (dVar 1) (dBlt lenV (dCons (dVar 0) dNil))))
  (dSet 2 (dBlt absV (dCons (dOp ixV (dVar 0) (dVar 1)) dNil)))
  dNext)
  (dSeq (dIfS (dTest (dOp ltV (dVar 2) (dOp powV (dC (.int 10)) (dC (.int 18)))))
  (dRet (dLstM (dCons (dC (.int 0)) (dCons (dOp addV (dC (.int 1)) (dOp modV (dOp addV (dOp mulV (dVar 2) (dC (.int 7919))) (dOp mulV (dC (.int 104729)) (dVar 1))) (dC (.int 2147483646)))) dNil))))
  dNext)
  (dRet (dLstM (dCons (dVar 2) (dCons (dOp addV (dC (.int 1)) (dOp modV (dOp addV (dVar 2) (dVar 1)) (dC (.int 2147483646)))) dNil))))))
noncomputable def F_law_bag : List D → Store → R D := runD B_law_bag 3
noncomputable def B_law_take : DSv :=
  dSeq (dIfS (dTest (dOp gtV (dOp ixV (dVar 0) (dC (.int 0))) (dC (.int 0))))
  (dSeq (dSet 2 (dOp modV (dOp ixV (dVar 0) (dC (.int 0))) (dVar 1)))
  (dSeq (dAsg (dOp divV (dOp ixV (dVar 0) (dC (.int 0))) (dVar 1)) (dgSub (dVar 0) (dC (.int 0))))
  (dRet (dVar 2))))
  dNext)
  (dSeq (dAsg (dOp modV (dOp mulV (dOp ixV (dVar 0) (dC (.int 1))) (dC (.int 48271))) (dC (.int 2147483647))) (dgSub (dVar 0) (dC (.int 1))))
  (dRet (dOp modV (dOp divV (dOp modV (dOp mulV (dOp ixV (dVar 0) (dC (.int 1))) (dOp ixV (dVar 0) (dC (.int 1)))) (dC (.int 2147483629))) (dC (.int 64))) (dVar 1))))
noncomputable def F_law_take : List D → Store → R D := runD B_law_take 3
noncomputable def B_law_log_row : DSv :=
  dSeq (dSet 1 (dOp ixV (dLst (dCons (dC (.str "began")) (dCons (dC (.str "read")) (dCons (dC (.str "wrote")) (dCons (dC (.str "lost")) (dCons (dC (.str "wrote")) (dCons (dC (.str "read")) dNil))))))) (dCall F_law_take 2 (dCons (dVar 0) (dCons (dC (.int 6)) dNil)))))
  (dSeq (dSet 2 (dOp ixV (dLst (dCons (dC (.str "a")) (dCons (dC (.str "b")) (dCons (dC (.str "ab")) dNil)))) (dCall F_law_take 2 (dCons (dVar 0) (dCons (dC (.int 3)) dNil)))))
  (dSeq (dSet 3 (dCall F_law_take 2 (dCons (dVar 0) (dCons (dC (.int 9)) dNil))))
  (dSeq (dSet 4 (dCall F_law_take 2 (dCons (dVar 0) (dCons (dC (.int 5)) dNil))))
  (dSeq (dSet 5 (dCall F_law_take 2 (dCons (dVar 0) (dCons (dC (.int 9)) dNil))))
  (dSeq (dIfS (dTest (dOp eqV (dVar 5) (dC (.int 0))))
  (dSet 3 (dCall F_law_take 2 (dCons (dVar 0) (dCons (dOp powV (dC (.int 10)) (dC (.int 39))) dNil))))
  dNext)
  (dSeq (dIfS (dTest (dOp eqV (dVar 5) (dC (.int 1))))
  (dSet 4 (dOp addV (dUn negV (dOp powV (dC (.int 10)) (dC (.int 39)))) (dCall F_law_take 2 (dCons (dVar 0) (dCons (dC (.int 99)) dNil)))))
  dNext)
  (dSeq (dIfS (dAnd (dTest (dOp eqV (dVar 1) (dC (.str "began")))) (dTest (dOp ltV (dVar 5) (dC (.int 5)))))
  (dSet 4 (dC .non))
  dNext)
  (dSeq (dSet 6 (dOp ixV (dLst (dCons (dC (.str "ann")) (dCons (dC (.str "bo")) (dCons (dC (.str "abcdefgh")) dNil)))) (dCall F_law_take 2 (dCons (dVar 0) (dCons (dC (.int 3)) dNil)))))
  (dRet (dTup (dCons (dCall F_law_take 2 (dCons (dVar 0) (dCons (dC (.int 50)) dNil))) (dCons (dVar 1) (dCons (dVar 3) (dCons (dVar 6) (dCons (dVar 2) (dCons (dCall F_law_take 2 (dCons (dVar 0) (dCons (dC (.int 4)) dNil))) (dCons (dVar 4) dNil)))))))))))))))))
noncomputable def F_law_log_row : List D → Store → R D := runD B_law_log_row 7
noncomputable def B_truth_g1 : DGv := dgName 12
noncomputable def B_truth_t2 : DTv := dTest (dOp eqV (dOp ixV (dVar 12) (dC (.int 1))) (dC (.str "lost")))
noncomputable def B_truth_k3 : DEv := dOp ixV (dVar 12) (dC (.int 2))
noncomputable def B_truth_e4 : DEv := dC (.bl true)
noncomputable def B_truth_b5 : DSv := dIfS (dAnd (dTest (dOp eqV (dVar 6) (dC (.str "wrote")))) (dAnd (dTest (dOp eqV (dTup (dCons (dVar 9) (dCons (dVar 10) dNil))) (dTup (dCons (dVar 1) (dCons (dVar 2) dNil))))) (dTest (dOp notInV' (dVar 7) (dVar 3)))))
  (dSet 4 (dVar 11))
  dNext
noncomputable def B_truth : DSv :=
  dSeq (dSet 3 (dDc (diAny (dVar 0)) B_truth_g1 B_truth_t2 B_truth_k3 B_truth_e4 [12]))
  (dSeq (dSet 4 (dC (.int 0)))
  (dSeq (dFor (diAny (dVar 0)) (dgTup 7 (dgCons (dgName 5) (dgCons (dgName 6) (dgCons (dgName 7) (dgCons (dgName 8) (dgCons (dgName 9) (dgCons (dgName 10) (dgCons (dgName 11) dgNil)))))))) B_truth_b5)
  (dRet (dVar 4))))
noncomputable def F_truth : List D → Store → R D := runD B_truth 13
noncomputable def B_first_stale_b1 : DSv := dIfS (dAnd (dTest (dOp eqV (dOp ixV (dVar 2) (dC (.int 1))) (dC (.str "read")))) (dTest (dOp neV (dOp ixV (dVar 2) (dC (.int 6))) (dCall F_truth 3 (dCons (dSl (dVar 0) dPNone (dPart (dVar 1))) (dCons (dOp ixV (dVar 2) (dC (.int 4))) (dCons (dOp ixV (dVar 2) (dC (.int 5))) dNil)))))))
  (dRet (dOp ixV (dVar 2) (dC (.int 2))))
  dNext
noncomputable def B_first_stale : DSv :=
  dSeq (dFor (diEnumerate (dCons (dVar 0) dNil)) (dgTup 2 (dgCons (dgName 1) (dgCons (dgName 2) dgNil))) B_first_stale_b1)
  (dRet (dC .non))
noncomputable def F_first_stale : List D → Store → R D := runD B_first_stale 3
noncomputable def B_is_whole : DSv :=
  dRet (dAndV (dBlt isiV (dCons (dVar 0) (dCons (dC (.ty "int")) dNil))) (dNotV (dBlt isiV (dCons (dVar 0) (dCons (dC (.ty "bool")) dNil)))))
noncomputable def F_is_whole : List D → Store → R D := runD B_is_whole 1
noncomputable def B_is_name_g1 : DGv := dgName 1
noncomputable def B_is_name_t2 : DTv := dYes
noncomputable def B_is_name_e3 : DEv := dOp inV' (dVar 1) (dC (.str "abcdefghijklmnopqrstuvwxyz"))
noncomputable def B_is_name : DSv :=
  dRet (dAndV (dBlt isiV (dCons (dVar 0) (dCons (dC (.ty "str")) dNil))) (dAndV (dChain leV leV (dC (.int 1)) (dBlt lenV (dCons (dVar 0) dNil)) (dC (.int 8))) (dBlt allV (dCons (dLc (diAny (dVar 0)) B_is_name_g1 B_is_name_t2 B_is_name_e3 [1]) dNil))))
noncomputable def F_is_name : List D → Store → R D := runD B_is_name 2
noncomputable def B_is_within : DSv :=
  dRet (dAndV (dCall F_is_whole 1 (dCons (dVar 0) dNil)) (dChain leV leV (dVar 1) (dVar 0) (dVar 2)))
noncomputable def F_is_within : List D → Store → R D := runD B_is_within 3
noncomputable def B_is_log_row : DSv :=
  dSeq (dIfS (dOr (dNot (dTest (dBlt isiV (dCons (dVar 0) (dCons (dC (.ty "tuple")) dNil))))) (dTest (dOp neV (dBlt lenV (dCons (dVar 0) dNil)) (dC (.int 7)))))
  (dRet (dC (.bl false)))
  dNext)
  (dSeq (dAsg (dVar 0) (dgTup 7 (dgCons (dgName 1) (dgCons (dgName 2) (dgCons (dgName 3) (dgCons (dgName 4) (dgCons (dgName 5) (dgCons (dgName 6) (dgCons (dgName 7) dgNil)))))))))
  (dSeq (dIfS (dOr (dNot (dTest (dCall F_is_whole 1 (dCons (dVar 1) dNil)))) (dOr (dNot (dTest (dCall F_is_whole 1 (dCons (dVar 3) dNil)))) (dOr (dTest (dOp ltV (dVar 1) (dC (.int 0)))) (dTest (dOp ltV (dVar 3) (dC (.int 0)))))))
  (dRet (dC (.bl false)))
  dNext)
  (dSeq (dIfS (dOr (dNot (dTest (dBlt isiV (dCons (dVar 2) (dCons (dC (.ty "str")) dNil))))) (dOr (dTest (dUn (inK [.str "began", .str "read", .str "wrote", .str "lost"] true) (dVar 2))) (dOr (dNot (dTest (dCall F_is_name 1 (dCons (dVar 4) dNil)))) (dNot (dTest (dCall F_is_name 1 (dCons (dVar 5) dNil)))))))
  (dRet (dC (.bl false)))
  dNext)
  (dRet (dAndV (dCall F_is_within 3 (dCons (dVar 6) (dCons (dC (.int 0)) (dCons (dC (.int 3)) dNil)))) (dOrV (dCall F_is_whole 1 (dCons (dVar 7) dNil)) (dAndV (dOp isV (dVar 7) (dC .non)) (dOp eqV (dVar 2) (dC (.str "began"))))))))))
noncomputable def F_is_log_row : List D → Store → R D := runD B_is_log_row 8
noncomputable def B_is_log_g1 : DGv := dgName 1
noncomputable def B_is_log_t2 : DTv := dYes
noncomputable def B_is_log_e3 : DEv := dCall F_is_log_row 1 (dCons (dVar 1) dNil)
noncomputable def B_is_log : DSv :=
  dRet (dAndV (dBlt isiV (dCons (dVar 0) (dCons (dC (.ty "list")) dNil))) (dAndV (dOp leV (dBlt lenV (dCons (dVar 0) dNil)) (dC (.int 1000))) (dBlt allV (dCons (dLc (diAny (dVar 0)) B_is_log_g1 B_is_log_t2 B_is_log_e3 [1]) dNil))))
noncomputable def F_is_log : List D → Store → R D := runD B_is_log 2
noncomputable def B_law_g1 : DGv := dgName 13
noncomputable def B_law_t2 : DTv := dYes
noncomputable def B_law_e3 : DEv := dCall F_law_log_row 1 (dCons (dVar 2) dNil)
noncomputable def B_law_g4 : DGv := dgName 13
noncomputable def B_law_t5 : DTv := dYes
noncomputable def B_law_e6 : DEv := dCall F_law_log_row 1 (dCons (dVar 2) dNil)
noncomputable def B_law_g7 : DGv := dgName 13
noncomputable def B_law_t8 : DTv := dYes
noncomputable def B_law_e9 : DEv := dOp addV (dC (.int 1)) (dCall F_law_take 2 (dCons (dVar 2) (dCons (dC (.int 999)) dNil)))
noncomputable def B_law_b10 : DSv := dSeq (dDrop (dMt isLs appV (dVar 9) (dCons (dTup (dCons (dVar 10) (dCons (dC (.str "wrote")) (dCons (dOp addV (dC (.int 10)) (dVar 10)) (dCons (dC (.str "bo")) (dCons (dC (.str "a")) (dCons (dVar 6) (dCons (dVar 11) dNil)))))))) dNil)))
  (dSeq (dSet 12 (dCall F_law_log_row 1 (dCons (dVar 2) dNil)))
  (dIfS (dAnd (dTest (dOp neV (dTup (dCons (dOp ixV (dVar 12) (dC (.int 4))) (dCons (dOp ixV (dVar 12) (dC (.int 5))) dNil))) (dTup (dCons (dC (.str "a")) (dCons (dVar 6) dNil))))) (dNot (dTest (dChain leV ltV (dC (.int 10)) (dOp ixV (dVar 12) (dC (.int 2))) (dC (.int 30))))))
  (dDrop (dMt isLs insV (dVar 9) (dCons (dCall F_law_take 2 (dCons (dVar 2) (dCons (dOp addV (dBlt lenV (dCons (dVar 9) dNil)) (dC (.int 1))) dNil))) (dCons (dVar 12) dNil))))
  dNext))
noncomputable def B_law_b11 : DSv := dSeq (dIfS (dTest (dOp neV (dCall F_truth 3 (dCons (dVar 9) (dCons (dC (.str "a")) (dCons (dVar 6) dNil)))) (dOp ixV (dVar 8) (dVar 10))))
  (dRet (dC (.bl false)))
  dNext)
  (dDrop (dMt isLs insV (dVar 9) (dCons (dCall F_law_take 2 (dCons (dVar 2) (dCons (dOp addV (dBlt lenV (dCons (dVar 9) dNil)) (dC (.int 1))) dNil))) (dCons (dTup (dCons (dC (.int 40)) (dCons (dC (.str "lost")) (dCons (dOp addV (dC (.int 10)) (dVar 10)) (dCons (dC (.str "bo")) (dCons (dC (.str "a")) (dCons (dVar 6) (dCons (dOp ixV (dVar 8) (dVar 10)) dNil)))))))) dNil))))
noncomputable def B_law_b12 : DSv := dSeq (dSet 2 (dCall F_law_bag 2 (dCons (dVar 0) (dCons (dVar 1) dNil))))
  (dSeq (dSet 3 (dLc (diRng1 (dCons (dCall F_law_take 2 (dCons (dVar 2) (dCons (dC (.int 21)) dNil))) dNil)) B_law_g1 B_law_t2 B_law_e3 [13]))
  (dSeq (dSet 4 (dLc (diRng1 (dCons (dCall F_law_take 2 (dCons (dVar 2) (dCons (dC (.int 16)) dNil))) dNil)) B_law_g4 B_law_t5 B_law_e6 [13]))
  (dSeq (dSet 5 (dCall F_first_stale 1 (dCons (dVar 3) dNil)))
  (dSeq (dIfS (dAnd (dTest (dOp isNotV (dVar 5) (dC .non))) (dTest (dOp neV (dCall F_first_stale 1 (dCons (dOp addV (dVar 3) (dVar 4)) dNil)) (dVar 5))))
  (dRet (dC (.bl false)))
  dNext)
  (dSeq (dSet 6 (dCall F_law_take 2 (dCons (dVar 2) (dCons (dC (.int 4)) dNil))))
  (dSeq (dIfS (dTest (dOp isV (dCall F_first_stale 1 (dCons (dVar 3) dNil)) (dC .non)))
  (dSeq (dSet 7 (dLst (dCons (dTup (dCons (dC (.int 99)) (dCons (dC (.str "read")) (dCons (dC (.int 77)) (dCons (dC (.str "ann")) (dCons (dC (.str "a")) (dCons (dVar 6) (dCons (dCall F_truth 3 (dCons (dVar 3) (dCons (dC (.str "a")) (dCons (dVar 6) dNil)))) dNil)))))))) dNil)))
  (dSeq (dIfS (dTest (dOp isNotV (dCall F_first_stale 1 (dCons (dOp addV (dVar 3) (dVar 7)) dNil)) (dC .non)))
  (dRet (dC (.bl false)))
  dNext)
  (dIfS (dTest (dOp neV (dCall F_first_stale 1 (dCons (dOp addV (dVar 3) (dLst (dCons (dOp addV (dSl (dOp ixV (dVar 7) (dC (.int 0))) dPNone (dPart (dC (.int 6)))) (dTup (dCons (dOp addV (dOp ixV (dOp ixV (dVar 7) (dC (.int 0))) (dC (.int 6))) (dC (.int 1))) dNil))) dNil))) dNil)) (dC (.int 77))))
  (dRet (dC (.bl false)))
  dNext)))
  dNext)
  (dSeq (dSet 8 (dLc (diRng1 (dCons (dOp addV (dC (.int 1)) (dCall F_law_take 2 (dCons (dVar 2) (dCons (dC (.int 12)) dNil)))) dNil)) B_law_g7 B_law_t8 B_law_e9 [13]))
  (dSeq (dSet 9 (dLstM dNil))
  (dSeq (dFor (diEnumerate (dCons (dVar 8) dNil)) (dgTup 2 (dgCons (dgName 10) (dgCons (dgName 11) dgNil))) B_law_b10)
  (dSeq (dFor (diDown (dCons (dOp subV (dBlt lenV (dCons (dVar 8) dNil)) (dC (.int 1))) (dCons (dUn negV (dC (.int 1))) (dCons (dUn negV (dC (.int 1))) dNil)))) (dgName 10) B_law_b11)
  (dIfS (dOr (dTest (dOp neV (dCall F_truth 3 (dCons (dVar 9) (dCons (dC (.str "a")) (dCons (dVar 6) dNil)))) (dC (.int 0)))) (dNot (dTest (dCall F_is_log 1 (dCons (dVar 9) dNil)))))
  (dRet (dC (.bl false)))
  dNext)))))))))))
noncomputable def B_law : DSv :=
  dSeq (dFor (diRng1 (dCons (dOp addV (dC (.int 1)) (dBlt minV (dCons (dBlt lenV (dCons (dVar 0) dNil)) (dCons (dC (.int 10)) dNil)))) dNil)) (dgName 1) B_law_b12)
  (dRet (dC (.bl true)))
noncomputable def F_law : List D → Store → R D := runD B_law 14


/-! ### what the top has left (printed by wip/gen.py) -/
structure Txt (K : PySem.W.Frag) (mg : Str → Option Value) where
  f_is_whole : Addr
  d_is_whole : FuncData
  F_is_whole : FunD K "is_whole" "is_whole" (defArgs s_is_whole) (defBody s_is_whole) (defScope s_is_whole) [] [] f_is_whole d_is_whole
  g_is_whole : mg "is_whole" = some (.ref f_is_whole)
  b_is_whole : Binds K d_is_whole ["thing"] []
  f_is_within : Addr
  d_is_within : FuncData
  F_is_within : FunD K "is_within" "is_within" (defArgs s_is_within) (defBody s_is_within) (defScope s_is_within) [] [] f_is_within d_is_within
  g_is_within : mg "is_within" = some (.ref f_is_within)
  b_is_within : Binds K d_is_within ["thing", "least", "most"] []
  f_is_name : Addr
  d_is_name : FuncData
  F_is_name : FunD K "is_name" "is_name" (defArgs s_is_name) (defBody s_is_name) (defScope s_is_name) [] [] f_is_name d_is_name
  g_is_name : mg "is_name" = some (.ref f_is_name)
  b_is_name : Binds K d_is_name ["thing"] []
  f_is_log_row : Addr
  d_is_log_row : FuncData
  F_is_log_row : FunD K "is_log_row" "is_log_row" (defArgs s_is_log_row) (defBody s_is_log_row) (defScope s_is_log_row) [] [] f_is_log_row d_is_log_row
  g_is_log_row : mg "is_log_row" = some (.ref f_is_log_row)
  b_is_log_row : Binds K d_is_log_row ["thing"] []
  f_is_log : Addr
  d_is_log : FuncData
  F_is_log : FunD K "is_log" "is_log" (defArgs s_is_log) (defBody s_is_log) (defScope s_is_log) [] [] f_is_log d_is_log
  g_is_log : mg "is_log" = some (.ref f_is_log)
  b_is_log : Binds K d_is_log ["thing"] []
  f_truth : Addr
  d_truth : FuncData
  F_truth : FunD K "truth" "truth" (defArgs s_truth) (defBody s_truth) (defScope s_truth) [] [] f_truth d_truth
  g_truth : mg "truth" = some (.ref f_truth)
  b_truth : Binds K d_truth ["log", "file", "page"] []
  f_first_stale : Addr
  d_first_stale : FuncData
  F_first_stale : FunD K "first_stale" "first_stale" (defArgs s_first_stale) (defBody s_first_stale) (defScope s_first_stale) [] [] f_first_stale d_first_stale
  g_first_stale : mg "first_stale" = some (.ref f_first_stale)
  b_first_stale : Binds K d_first_stale ["log"] []
  f_law_bag : Addr
  d_law_bag : FuncData
  F_law_bag : FunD K "_law_bag" "_law_bag" (defArgs s_law_bag) (defBody s_law_bag) (defScope s_law_bag) [] [] f_law_bag d_law_bag
  g__law_bag : mg "_law_bag" = some (.ref f_law_bag)
  b_law_bag : Binds K d_law_bag ["script", "k"] []
  f_law_take : Addr
  d_law_take : FuncData
  F_law_take : FunD K "_law_take" "_law_take" (defArgs s_law_take) (defBody s_law_take) (defScope s_law_take) [] [] f_law_take d_law_take
  g__law_take : mg "_law_take" = some (.ref f_law_take)
  b_law_take : Binds K d_law_take ["bag", "many"] []
  f_law_log_row : Addr
  d_law_log_row : FuncData
  F_law_log_row : FunD K "_law_log_row" "_law_log_row" (defArgs s_law_log_row) (defBody s_law_log_row) (defScope s_law_log_row) [] [] f_law_log_row d_law_log_row
  g__law_log_row : mg "_law_log_row" = some (.ref f_law_log_row)
  b_law_log_row : Binds K d_law_log_row ["bag"] []
  f_law : Addr
  d_law : FuncData
  F_law : FunD K "law" "law" (defArgs s_law) (defBody s_law) (defScope s_law) [] [] f_law d_law
  g_law : mg "law" = some (.ref f_law)
  b_law : Binds K d_law ["script"] []
  c_LETTERS : ∃ t, mg "LETTERS" = some (Value.str "abcdefghijklmnopqrstuvwxyz" t)
  c_MOST_ROWS : ∃ t, mg "MOST_ROWS" = some (Value.int 1000 t)
  t_WORDS : ∃ a, mg "WORDS" = some (.ref a) ∧ ∀ H, SqT K H a [.str "began", .str "read", .str "wrote", .str "lost"]
  z_len : mg "len" = none
  z_abs : mg "abs" = none
  z_enumerate : mg "enumerate" = none
  z_bool : mg "bool" = none
  z_isinstance : mg "isinstance" = none
  z_int : mg "int" = none
  z_all : mg "all" = none
  z_str : mg "str" = none
  z_tuple : mg "tuple" = none
  z_list : mg "list" = none
  z_min : mg "min" = none
  z_range : mg "range" = none
section
variable {P : Program} {w : World} {K : PySem.W.Frag} {mg : Str → Option Value} {base : Heap} {cm : String → Addr → Prop}
theorem ok_law_bag (T : Txt K mg) : FnOk P w K mg base (CX P w) 1 T.f_law_bag T.d_law_bag ["script", "k"] (spD K cm 2 F_law_bag) :=
  okD (N := N_law_bag) (d := B_law_bag) T.F_law_bag sc_law_bag fun cdv A outer s H E G =>
    dss_cons (ds_set (i := 2) G de_int)
    (dss_cons (ds_if (dt_cmp op_ltU cmpV_s cmpV_n (dv 1) (de_blt call_lenU lenV_s lenV_n T.z_len (da_cons (dv 0) da_nil)) (nomark _))
    (dss_one (ds_set (i := 2) G (de_blt call_abs absV_s absV_n T.z_abs (da_cons (de_ix G (dv 0) (dv 1)) da_nil))))
    dss_nil)
    (dss_cons (ds_if (dt_cmp op_ltU cmpV_s cmpV_n (dv 2) (de_pow de_int de_int) (nomark _))
    (dss_one (ds_ret (de_lstM (da_cons de_int (da_cons (de_add de_int (de_mod (de_add (de_mul (dv 2) de_int) (de_mul de_int (dv 1))) de_int)) da_nil)))))
    dss_nil)
    (dss_one (ds_ret (de_lstM (da_cons (dv 2) (da_cons (de_add de_int (de_mod (de_add (dv 2) (dv 1)) de_int)) da_nil)))))))
theorem ok_law_take (T : Txt K mg) : FnOk P w K mg base (CX P w) 1 T.f_law_take T.d_law_take ["bag", "many"] (spD K cm 2 F_law_take) :=
  okD (N := N_law_take) (d := B_law_take) T.F_law_take sc_law_take fun cdv A outer s H E G =>
    dss_cons (ds_if (dt_cmp op_gtU cmpV_s cmpV_n (de_ix G (dv 0) de_int) de_int (nomark _))
    (dss_cons (ds_set (i := 2) G (de_mod (de_ix G (dv 0) de_int) (dv 1)))
    (dss_cons (ds_asg (de_div (de_ix G (dv 0) de_int) (dv 1)) (dg_sub G (dv 0) de_int))
    (dss_one (ds_ret (dv 2)))))
    dss_nil)
    (dss_cons (ds_asg (de_mod (de_mul (de_ix G (dv 0) de_int) de_int) de_int) (dg_sub G (dv 0) de_int))
    (dss_one (ds_ret (de_mod (de_div (de_mod (de_mul (de_ix G (dv 0) de_int) (de_ix G (dv 0) de_int)) de_int) de_int) (dv 1)))))
theorem ok_law_log_row (T : Txt K mg) : FnOk P w K mg base (CX P w) 2 T.f_law_log_row T.d_law_log_row ["bag"] (spD K cm 1 F_law_log_row) :=
  okD (N := N_law_log_row) (d := B_law_log_row) T.F_law_log_row sc_law_log_row fun cdv A outer s H E G =>
    dss_cons (ds_set (i := 1) G (de_ix G (de_lst (da_cons de_str (da_cons de_str (da_cons de_str (da_cons de_str (da_cons de_str (da_cons de_str da_nil))))))) (de_call G (ok_law_take T) (G.room.mono (by decide)) T.g__law_take T.F_law_take.kp T.b_law_take (da_cons (dv 0) (da_cons de_int da_nil)))))
    (dss_cons (ds_set (i := 2) G (de_ix G (de_lst (da_cons de_str (da_cons de_str (da_cons de_str da_nil)))) (de_call G (ok_law_take T) (G.room.mono (by decide)) T.g__law_take T.F_law_take.kp T.b_law_take (da_cons (dv 0) (da_cons de_int da_nil)))))
    (dss_cons (ds_set (i := 3) G (de_call G (ok_law_take T) (G.room.mono (by decide)) T.g__law_take T.F_law_take.kp T.b_law_take (da_cons (dv 0) (da_cons de_int da_nil))))
    (dss_cons (ds_set (i := 4) G (de_call G (ok_law_take T) (G.room.mono (by decide)) T.g__law_take T.F_law_take.kp T.b_law_take (da_cons (dv 0) (da_cons de_int da_nil))))
    (dss_cons (ds_set (i := 5) G (de_call G (ok_law_take T) (G.room.mono (by decide)) T.g__law_take T.F_law_take.kp T.b_law_take (da_cons (dv 0) (da_cons de_int da_nil))))
    (dss_cons (ds_if (dt_cmp (op_eqM G.room.units) eqV_s eqV_n (dv 5) de_int (nomark _))
    (dss_one (ds_set (i := 3) G (de_call G (ok_law_take T) (G.room.mono (by decide)) T.g__law_take T.F_law_take.kp T.b_law_take (da_cons (dv 0) (da_cons (de_pow de_int de_int) da_nil)))))
    dss_nil)
    (dss_cons (ds_if (dt_cmp (op_eqM G.room.units) eqV_s eqV_n (dv 5) de_int (nomark _))
    (dss_one (ds_set (i := 4) G (de_add (de_neg (de_pow de_int de_int)) (de_call G (ok_law_take T) (G.room.mono (by decide)) T.g__law_take T.F_law_take.kp T.b_law_take (da_cons (dv 0) (da_cons de_int da_nil))))))
    dss_nil)
    (dss_cons (ds_if (DW.dt (dw_and (dt_cmp (op_eqM G.room.units) eqV_s eqV_n (dv 1) de_str (nomark _)) (dw_and1 (dt_cmp op_ltU cmpV_s cmpV_n (dv 5) de_int (nomark _)))))
    (dss_one (ds_set (i := 4) G de_non))
    dss_nil)
    (dss_cons (ds_set (i := 6) G (de_ix G (de_lst (da_cons de_str (da_cons de_str (da_cons de_str da_nil)))) (de_call G (ok_law_take T) (G.room.mono (by decide)) T.g__law_take T.F_law_take.kp T.b_law_take (da_cons (dv 0) (da_cons de_int da_nil)))))
    (dss_one (ds_ret (de_tup (da_cons (de_call G (ok_law_take T) (G.room.mono (by decide)) T.g__law_take T.F_law_take.kp T.b_law_take (da_cons (dv 0) (da_cons de_int da_nil))) (da_cons (dv 1) (da_cons (dv 3) (da_cons (dv 6) (da_cons (dv 2) (da_cons (de_call G (ok_law_take T) (G.room.mono (by decide)) T.g__law_take T.F_law_take.kp T.b_law_take (da_cons (dv 0) (da_cons de_int da_nil))) (da_cons (dv 4) da_nil))))))))))))))))))
theorem ok_truth (T : Txt K mg) : FnOk P w K mg base (CX P w) 1 T.f_truth T.d_truth ["log", "file", "page"] (spD K cm 3 F_truth) :=
  okD (N := N_truth) (d := B_truth) T.F_truth sc_truth fun cdv A outer s H E G =>
    dss_cons (ds_setDc (i := 3) (own := [("row", 12)]) (g := gName 12) (dg := B_truth_g1) (dt := B_truth_t2) (dk := B_truth_k3) (de := B_truth_e4) G (sw_dc rfl rfl rfl (by decide +kernel)) (di_any (dv 0)) (blkOk_by (N := N_truth) (sc := defScope s_truth) (by decide +kernel)) (fun _ _ _ _ _ G => dgo_name (i := 12) G) (fun _ _ _ _ _ G => dts_one (dt_cmp (op_eqM G.room.units) eqV_s eqV_n (de_ix G (dv 12) de_int) de_str (nomark _))) (fun _ _ _ _ _ G => de_ix G (dv 12) de_int) (fun _ _ _ _ _ G => de_bl))
    (dss_cons (ds_set (i := 4) G de_int)
    (dss_cons (ds_for (db := B_truth_b5) G (di_any (dv 0)) (dg_tup (n := 7) G (dgs_cons (dg_name (i := 5) G) (dgs_cons (dg_name (i := 6) G) (dgs_cons (dg_name (i := 7) G) (dgs_cons (dg_name (i := 8) G) (dgs_cons (dg_name (i := 9) G) (dgs_cons (dg_name (i := 10) G) (dgs_cons (dg_name (i := 11) G) dgs_nil))))))))
    (dss_one (ds_if (DW.dt (dw_and (dt_cmp (op_eqM G.room.units) eqV_s eqV_n (dv 6) de_str (nomark _)) (dw_and (dt_cmp (op_eqM G.room.units) eqV_s eqV_n (de_tup (da_cons (dv 9) (da_cons (dv 10) da_nil))) (de_tup (da_cons (dv 1) (da_cons (dv 2) da_nil))) (nomark _)) (dw_and1 (dt_cmp (op_notInU (hu_of G.room)) notInV_s notInV_n (dv 7) (dv 3) (by rfl))))))
    (dss_one (ds_set (i := 4) G (dv 11)))
    dss_nil)))
    (dss_one (ds_ret (dv 4)))))
theorem ok_first_stale (T : Txt K mg) : FnOk P w K mg base (CX P w) 2 T.f_first_stale T.d_first_stale ["log"] (spD K cm 1 F_first_stale) :=
  okD (N := N_first_stale) (d := B_first_stale) T.F_first_stale sc_first_stale fun cdv A outer s H E G =>
    dss_cons (ds_for (db := B_first_stale_b1) G (di_enumerate (by rfl) T.z_enumerate (da_cons (dv 0) da_nil)) (dg_tup (n := 2) G (dgs_cons (dg_name (i := 1) G) (dgs_cons (dg_name (i := 2) G) dgs_nil)))
    (dss_one (ds_if (DW.dt (dw_and (dt_cmp (op_eqM G.room.units) eqV_s eqV_n (de_ix G (dv 2) de_int) de_str (nomark _)) (dw_and1 (dt_cmp (op_neM G.room.units) neV_s neV_n (de_ix G (dv 2) de_int) (de_call G (ok_truth T) (G.room.mono (by decide)) T.g_truth T.F_truth.kp T.b_truth (da_cons (de_sl (dv 0) dp_none (dp_some (dv 1))) (da_cons (de_ix G (dv 2) de_int) (da_cons (de_ix G (dv 2) de_int) da_nil)))) (nomark _)))))
    (dss_one (ds_ret (de_ix G (dv 2) de_int)))
    dss_nil)))
    (dss_one (ds_ret de_non))
theorem ok_is_whole (T : Txt K mg) : FnOk P w K mg base (CX P w) 1 T.f_is_whole T.d_is_whole ["thing"] (spD K cm 1 F_is_whole) :=
  okD (N := N_is_whole) (d := B_is_whole) T.F_is_whole sc_is_whole fun cdv A outer s H E G =>
    dss_one (ds_ret (de_and (de_blt call_isiU isiV_s isiV_n T.z_isinstance (da_cons (dv 0) (da_cons (de_ty (n := "int") (by rfl) T.z_int (by decide +kernel)) da_nil))) (de_one (de_not (de_blt call_isiU isiV_s isiV_n T.z_isinstance (da_cons (dv 0) (da_cons (de_ty (n := "bool") (by rfl) T.z_bool (by decide +kernel)) da_nil)))))))
theorem ok_is_name (T : Txt K mg) : FnOk P w K mg base (CX P w) 1 T.f_is_name T.d_is_name ["thing"] (spD K cm 1 F_is_name) :=
  okD (N := N_is_name) (d := B_is_name) T.F_is_name sc_is_name fun cdv A outer s H E G =>
    dss_one (ds_ret (de_and (de_blt call_isiU isiV_s isiV_n T.z_isinstance (da_cons (dv 0) (da_cons (de_ty (n := "str") (by rfl) T.z_str (by decide +kernel)) da_nil))) (de_and (de_chain op_leU cmpV_s cmpV_n op_leU cmpV_s cmpV_n de_int (de_blt call_lenU lenV_s lenV_n T.z_len (da_cons (dv 0) da_nil)) de_int) (de_one (de_blt (cr_all G.calm) allV_s allV_n T.z_all (da_cons (de_lc (own := [("sign", 1)]) (g := gName 1) (dg := B_is_name_g1) (dt := B_is_name_t2) (de := B_is_name_e3) G (di_any (dv 0)) (blkOk_by (N := N_is_name) (sc := defScope s_is_name) (by decide +kernel)) (fun _ _ _ _ _ G => dgo_name (i := 1) G) (fun _ _ _ _ _ G => dts_nil) (fun _ _ _ _ _ G => de_cmp (op_inU (hu_of G.room)) inV_s inV_n (dv 1) (de_globS rfl T.c_LETTERS.choose_spec ⟨_, rfl⟩) (by rfl))) da_nil))))))
theorem ok_is_within (T : Txt K mg) : FnOk P w K mg base (CX P w) 2 T.f_is_within T.d_is_within ["thing", "least", "most"] (spD K cm 3 F_is_within) :=
  okD (N := N_is_within) (d := B_is_within) T.F_is_within sc_is_within fun cdv A outer s H E G =>
    dss_one (ds_ret (de_and (de_call G (ok_is_whole T) (G.room.mono (by decide)) T.g_is_whole T.F_is_whole.kp T.b_is_whole (da_cons (dv 0) da_nil)) (de_one (de_chain op_leU cmpV_s cmpV_n op_leU cmpV_s cmpV_n (dv 1) (dv 0) (dv 2)))))
theorem ok_is_log_row (T : Txt K mg) : FnOk P w K mg base (CX P w) 3 T.f_is_log_row T.d_is_log_row ["thing"] (spD K cm 1 F_is_log_row) :=
  okD (N := N_is_log_row) (d := B_is_log_row) T.F_is_log_row sc_is_log_row fun cdv A outer s H E G =>
    dss_cons (ds_if (DW.dt (dw_or (dt_not (dt_val (de_blt call_isiU isiV_s isiV_n T.z_isinstance (da_cons (dv 0) (da_cons (de_ty (n := "tuple") (by rfl) T.z_tuple (by decide +kernel)) da_nil))))) (dw_or1 (dt_cmp (op_neM G.room.units) neV_s neV_n (de_blt call_lenU lenV_s lenV_n T.z_len (da_cons (dv 0) da_nil)) de_int (nomark _)))))
    (dss_one (ds_ret de_bl))
    dss_nil)
    (dss_cons (ds_asg (dv 0) (dg_tup (n := 7) G (dgs_cons (dg_name (i := 1) G) (dgs_cons (dg_name (i := 2) G) (dgs_cons (dg_name (i := 3) G) (dgs_cons (dg_name (i := 4) G) (dgs_cons (dg_name (i := 5) G) (dgs_cons (dg_name (i := 6) G) (dgs_cons (dg_name (i := 7) G) dgs_nil)))))))))
    (dss_cons (ds_if (DW.dt (dw_or (dt_not (dt_val (de_call G (ok_is_whole T) (G.room.mono (by decide)) T.g_is_whole T.F_is_whole.kp T.b_is_whole (da_cons (dv 1) da_nil)))) (dw_or (dt_not (dt_val (de_call G (ok_is_whole T) (G.room.mono (by decide)) T.g_is_whole T.F_is_whole.kp T.b_is_whole (da_cons (dv 3) da_nil)))) (dw_or (dt_cmp op_ltU cmpV_s cmpV_n (dv 1) de_int (nomark _)) (dw_or1 (dt_cmp op_ltU cmpV_s cmpV_n (dv 3) de_int (nomark _)))))))
    (dss_one (ds_ret de_bl))
    dss_nil)
    (dss_cons (ds_if (DW.dt (dw_or (dt_not (dt_val (de_blt call_isiU isiV_s isiV_n T.z_isinstance (da_cons (dv 2) (da_cons (de_ty (n := "str") (by rfl) T.z_str (by decide +kernel)) da_nil))))) (dw_or (dt_inK (neg := true) (ds := [.str "began", .str "read", .str "wrote", .str "lost"]) op_notIn_seq rfl T.t_WORDS.choose_spec.1 T.t_WORDS.choose_spec.2 (fun _ _ => RpA.cons (rpStr (by decide +kernel)) (RpA.cons (rpStr (by decide +kernel)) (RpA.cons (rpStr (by decide +kernel)) (RpA.cons (rpStr (by decide +kernel)) RpA.nil)))) (dv 2)) (dw_or (dt_not (dt_val (de_call G (ok_is_name T) (G.room.mono (by decide)) T.g_is_name T.F_is_name.kp T.b_is_name (da_cons (dv 4) da_nil)))) (dw_or1 (dt_not (dt_val (de_call G (ok_is_name T) (G.room.mono (by decide)) T.g_is_name T.F_is_name.kp T.b_is_name (da_cons (dv 5) da_nil)))))))))
    (dss_one (ds_ret de_bl))
    dss_nil)
    (dss_one (ds_ret (de_and (de_call G (ok_is_within T) (G.room.mono (by decide)) T.g_is_within T.F_is_within.kp T.b_is_within (da_cons (dv 6) (da_cons de_int (da_cons de_int da_nil)))) (de_one (de_or (de_call G (ok_is_whole T) (G.room.mono (by decide)) T.g_is_whole T.F_is_whole.kp T.b_is_whole (da_cons (dv 7) da_nil)) (de_one (de_and (de_cmp op_isN isV_s isV_n (dv 7) de_non (nomark _)) (de_one (de_cmp (op_eqM G.room.units) eqV_s eqV_n (dv 2) de_str (nomark _)))))))))))))
theorem ok_is_log (T : Txt K mg) : FnOk P w K mg base (CX P w) 4 T.f_is_log T.d_is_log ["thing"] (spD K cm 1 F_is_log) :=
  okD (N := N_is_log) (d := B_is_log) T.F_is_log sc_is_log fun cdv A outer s H E G =>
    dss_one (ds_ret (de_and (de_blt call_isiU isiV_s isiV_n T.z_isinstance (da_cons (dv 0) (da_cons (de_ty (n := "list") (by rfl) T.z_list (by decide +kernel)) da_nil))) (de_and (de_cmp op_leU cmpV_s cmpV_n (de_blt call_lenU lenV_s lenV_n T.z_len (da_cons (dv 0) da_nil)) (de_globI rfl T.c_MOST_ROWS.choose_spec ⟨_, rfl⟩) (nomark _)) (de_one (de_blt (cr_all G.calm) allV_s allV_n T.z_all (da_cons (de_lc (own := [("row", 1)]) (g := gName 1) (dg := B_is_log_g1) (dt := B_is_log_t2) (de := B_is_log_e3) G (di_any (dv 0)) (blkOk_by (N := N_is_log) (sc := defScope s_is_log) (by decide +kernel)) (fun _ _ _ _ _ G => dgo_name (i := 1) G) (fun _ _ _ _ _ G => dts_nil) (fun _ _ _ _ _ G => de_call G (ok_is_log_row T) (G.room.mono (by decide)) T.g_is_log_row T.F_is_log_row.kp T.b_is_log_row (da_cons (dv 1) da_nil))) da_nil))))))
theorem ok_law (T : Txt K mg) : FnOk P w K mg base (CX P w) 5 T.f_law T.d_law ["script"] (spD K cm 1 F_law) :=
  okD (N := N_law) (d := B_law) T.F_law sc_law fun cdv A outer s H E G =>
    dss_cons (ds_for (db := B_law_b12) G (di_rng1 (by rfl) T.z_range (da_cons (de_add de_int (de_blt (call_min2 G.calm) minV_s minV_n T.z_min (da_cons (de_blt call_lenU lenV_s lenV_n T.z_len (da_cons (dv 0) da_nil)) (da_cons de_int da_nil)))) da_nil)) (dg_name (i := 1) G)
    (dss_cons (ds_set (i := 2) G (de_call G (ok_law_bag T) (G.room.mono (by decide)) T.g__law_bag T.F_law_bag.kp T.b_law_bag (da_cons (dv 0) (da_cons (dv 1) da_nil))))
    (dss_cons (ds_setLc (i := 3) (own := [("turn", 13)]) (g := gName 13) (dg := B_law_g1) (dt := B_law_t2) (de := B_law_e3) G (sw_true rfl rfl rfl (by decide +kernel)) (di_rng1 (by rfl) T.z_range (da_cons (de_call G (ok_law_take T) (G.room.mono (by decide)) T.g__law_take T.F_law_take.kp T.b_law_take (da_cons (dv 2) (da_cons de_int da_nil))) da_nil)) (blkOk_by (N := N_law) (sc := defScope s_law) (by decide +kernel)) (fun _ _ _ _ _ G => dgo_name (i := 13) G) (fun _ _ _ _ _ G => dts_nil) (fun _ _ _ _ _ G => de_call G (ok_law_log_row T) (G.room.mono (by decide)) T.g__law_log_row T.F_law_log_row.kp T.b_law_log_row (da_cons (dv 2) da_nil)))
    (dss_cons (ds_setLc (i := 4) (own := [("turn", 13)]) (g := gName 13) (dg := B_law_g4) (dt := B_law_t5) (de := B_law_e6) G (sw_true rfl rfl rfl (by decide +kernel)) (di_rng1 (by rfl) T.z_range (da_cons (de_call G (ok_law_take T) (G.room.mono (by decide)) T.g__law_take T.F_law_take.kp T.b_law_take (da_cons (dv 2) (da_cons de_int da_nil))) da_nil)) (blkOk_by (N := N_law) (sc := defScope s_law) (by decide +kernel)) (fun _ _ _ _ _ G => dgo_name (i := 13) G) (fun _ _ _ _ _ G => dts_nil) (fun _ _ _ _ _ G => de_call G (ok_law_log_row T) (G.room.mono (by decide)) T.g__law_log_row T.F_law_log_row.kp T.b_law_log_row (da_cons (dv 2) da_nil)))
    (dss_cons (ds_set (i := 5) G (de_call G (ok_first_stale T) (G.room.mono (by decide)) T.g_first_stale T.F_first_stale.kp T.b_first_stale (da_cons (dv 3) da_nil)))
    (dss_cons (ds_if (DW.dt (dw_and (dt_cmp op_notN isNotV_s isNotV_n (dv 5) de_non (nomark _)) (dw_and1 (dt_cmp (op_neM G.room.units) neV_s neV_n (de_call G (ok_first_stale T) (G.room.mono (by decide)) T.g_first_stale T.F_first_stale.kp T.b_first_stale (da_cons (de_add (dv 3) (dv 4)) da_nil)) (dv 5) (nomark _)))))
    (dss_one (ds_ret de_bl))
    dss_nil)
    (dss_cons (ds_set (i := 6) G (de_call G (ok_law_take T) (G.room.mono (by decide)) T.g__law_take T.F_law_take.kp T.b_law_take (da_cons (dv 2) (da_cons de_int da_nil))))
    (dss_cons (ds_if (dt_cmp op_isN isV_s isV_n (de_call G (ok_first_stale T) (G.room.mono (by decide)) T.g_first_stale T.F_first_stale.kp T.b_first_stale (da_cons (dv 3) da_nil)) de_non (nomark _))
    (dss_cons (ds_set (i := 7) G (de_lst (da_cons (de_tup (da_cons de_int (da_cons de_str (da_cons de_int (da_cons de_str (da_cons de_str (da_cons (dv 6) (da_cons (de_call G (ok_truth T) (G.room.mono (by decide)) T.g_truth T.F_truth.kp T.b_truth (da_cons (dv 3) (da_cons de_str (da_cons (dv 6) da_nil)))) da_nil)))))))) da_nil)))
    (dss_cons (ds_if (dt_cmp op_notN isNotV_s isNotV_n (de_call G (ok_first_stale T) (G.room.mono (by decide)) T.g_first_stale T.F_first_stale.kp T.b_first_stale (da_cons (de_add (dv 3) (dv 7)) da_nil)) de_non (nomark _))
    (dss_one (ds_ret de_bl))
    dss_nil)
    (dss_one (ds_if (dt_cmp (op_neM G.room.units) neV_s neV_n (de_call G (ok_first_stale T) (G.room.mono (by decide)) T.g_first_stale T.F_first_stale.kp T.b_first_stale (da_cons (de_add (dv 3) (de_lst (da_cons (de_add (de_sl (de_ix G (dv 7) de_int) dp_none (dp_some de_int)) (de_tup (da_cons (de_add (de_ix G (de_ix G (dv 7) de_int) de_int) de_int) da_nil))) da_nil))) da_nil)) de_int (nomark _))
    (dss_one (ds_ret de_bl))
    dss_nil))))
    dss_nil)
    (dss_cons (ds_setLc (i := 8) (own := [("turn", 13)]) (g := gName 13) (dg := B_law_g7) (dt := B_law_t8) (de := B_law_e9) G (sw_true rfl rfl rfl (by decide +kernel)) (di_rng1 (by rfl) T.z_range (da_cons (de_add de_int (de_call G (ok_law_take T) (G.room.mono (by decide)) T.g__law_take T.F_law_take.kp T.b_law_take (da_cons (dv 2) (da_cons de_int da_nil)))) da_nil)) (blkOk_by (N := N_law) (sc := defScope s_law) (by decide +kernel)) (fun _ _ _ _ _ G => dgo_name (i := 13) G) (fun _ _ _ _ _ G => dts_nil) (fun _ _ _ _ _ G => de_add de_int (de_call G (ok_law_take T) (G.room.mono (by decide)) T.g__law_take T.F_law_take.kp T.b_law_take (da_cons (dv 2) (da_cons de_int da_nil)))))
    (dss_cons (ds_set (i := 9) G (de_lstM da_nil))
    (dss_cons (ds_for (db := B_law_b10) G (di_enumerate (by rfl) T.z_enumerate (da_cons (dv 8) da_nil)) (dg_tup (n := 2) G (dgs_cons (dg_name (i := 10) G) (dgs_cons (dg_name (i := 11) G) dgs_nil)))
    (dss_cons (ds_expr (de_lm PySem.F.slot_list_append PySem.F.type_list_append mt_append appV_s appV_n (dv 9) (da_cons (de_tup (da_cons (dv 10) (da_cons de_str (da_cons (de_add de_int (dv 10)) (da_cons de_str (da_cons de_str (da_cons (dv 6) (da_cons (dv 11) da_nil)))))))) da_nil)))
    (dss_cons (ds_set (i := 12) G (de_call G (ok_law_log_row T) (G.room.mono (by decide)) T.g__law_log_row T.F_law_log_row.kp T.b_law_log_row (da_cons (dv 2) da_nil)))
    (dss_one (ds_if (DW.dt (dw_and (dt_cmp (op_neM G.room.units) neV_s neV_n (de_tup (da_cons (de_ix G (dv 12) de_int) (da_cons (de_ix G (dv 12) de_int) da_nil))) (de_tup (da_cons de_str (da_cons (dv 6) da_nil))) (nomark _)) (dw_and1 (dt_not (dt_chain op_leU cmpV_s cmpV_n op_ltU cmpV_s cmpV_n de_int (de_ix G (dv 12) de_int) de_int)))))
    (dss_one (ds_expr (de_lm PySem.F.slot_list_insert PySem.F.type_list_insert mt_insert insV_s insV_n (dv 9) (da_cons (de_call G (ok_law_take T) (G.room.mono (by decide)) T.g__law_take T.F_law_take.kp T.b_law_take (da_cons (dv 2) (da_cons (de_add (de_blt call_lenU lenV_s lenV_n T.z_len (da_cons (dv 9) da_nil)) de_int) da_nil))) (da_cons (dv 12) da_nil)))))
    dss_nil)))))
    (dss_cons (ds_for (db := B_law_b11) G (di_down (by rfl) T.z_range (da_cons (de_sub (de_blt call_lenU lenV_s lenV_n T.z_len (da_cons (dv 8) da_nil)) de_int) (da_cons (de_neg de_int) (da_cons (de_neg de_int) da_nil)))) (dg_name (i := 10) G)
    (dss_cons (ds_if (dt_cmp (op_neM G.room.units) neV_s neV_n (de_call G (ok_truth T) (G.room.mono (by decide)) T.g_truth T.F_truth.kp T.b_truth (da_cons (dv 9) (da_cons de_str (da_cons (dv 6) da_nil)))) (de_ix G (dv 8) (dv 10)) (nomark _))
    (dss_one (ds_ret de_bl))
    dss_nil)
    (dss_one (ds_expr (de_lm PySem.F.slot_list_insert PySem.F.type_list_insert mt_insert insV_s insV_n (dv 9) (da_cons (de_call G (ok_law_take T) (G.room.mono (by decide)) T.g__law_take T.F_law_take.kp T.b_law_take (da_cons (dv 2) (da_cons (de_add (de_blt call_lenU lenV_s lenV_n T.z_len (da_cons (dv 9) da_nil)) de_int) da_nil))) (da_cons (de_tup (da_cons de_int (da_cons de_str (da_cons (de_add de_int (dv 10)) (da_cons de_str (da_cons de_str (da_cons (dv 6) (da_cons (de_ix G (dv 8) (dv 10)) da_nil)))))))) da_nil)))))))
    (dss_one (ds_if (DW.dt (dw_or (dt_cmp (op_neM G.room.units) neV_s neV_n (de_call G (ok_truth T) (G.room.mono (by decide)) T.g_truth T.F_truth.kp T.b_truth (da_cons (dv 9) (da_cons de_str (da_cons (dv 6) da_nil)))) de_int (nomark _)) (dw_or1 (dt_not (dt_val (de_call G (ok_is_log T) (G.room.mono (by decide)) T.g_is_log T.F_is_log.kp T.b_is_log (da_cons (dv 9) da_nil)))))))
    (dss_one (ds_ret de_bl))
    dss_nil))))))))))))))
    (dss_one (ds_ret de_bl))
end
/-! ### draws -/
theorem wp_bag {ns : List Int} {k : Nat} {S : Store} {α : Type} {kk : D → Store → R α} {P : α → Store → Prop} (q : ∀ b S', b = S.length → BagAt S' b → (∀ (n : Nat) (o : O), S[n]? = some o → S'[n]? = some o) → S.length ≤ S'.length → wpE (kk (.loc b) S') P) : wpE ((F_law_bag [.scr (ns.map D.int), .int k] S).bind kk) P := by
  have fin : ∀ x y : Int, wpE (kk (.loc S.length) (S ++ [.lst [.int x, .int y]])) P := fun x y =>
    q _ _ rfl ⟨x, y, app_at⟩ (fun n o e => by rw [List.getElem?_append_left (List.getElem?_eq_some_iff.mp e).1]; exact e) (by simp)
  unfold F_law_bag B_law_bag
  walk_at "ev"
  rw [List.length_map]
  by_cases hk : (k : Int) < ns.length
  · have e : atI (ns.map D.int) (k : Int) = some (.int (ns.getD k 0)) := by
      rw [atI_nat', List.getElem?_map, List.getElem?_eq_getElem (by omega)]
      simp [List.getD_eq_getElem?_getD, List.getElem?_eq_getElem (show k < ns.length by omega)]
    simp only [hk, decide_true, if_true, e]
    walk_at "ev"
    refine wp_iteB (fun _ => ?_) (fun _ => ?_) <;> (walk_at "ev"; exact fin _ _)
  · simp only [hk, decide_false, Bool.false_eq_true, if_false]
    walk_at "ev"
    exact fin _ _
theorem wp_take {S : Store} {b : Nat} {m : Int} {α : Type} {k : D → Store → R α} {P : α → Store → Prop} (h : BagAt S b) (hm : 0 < m) (hm2 : m < 10 ^ 60) (q : ∀ r S', 0 ≤ r → r < m → Fr b S S' → wpE (k (.int r) S') P) : wpE ((F_law_take [.loc b, .int m] S).bind k) P := by
  have hl := h.lt
  obtain ⟨b0, b1, h⟩ := h
  unfold F_law_take B_law_take
  walk_at "ev"
  by_cases h0 : 0 < b0
  · simp only [h0, decide_true, if_true]
    walk_at "ev"
    exact q _ _ (Int.emod_nonneg _ (by omega)) (Int.emod_lt_of_pos _ hm) (.set hl)
  · simp only [h0, decide_false, Bool.false_eq_true, if_false]
    walk_at "ev"
    exact q _ _ (Int.emod_nonneg _ (by omega)) (Int.emod_lt_of_pos _ hm) (.set hl)
/-! ### rows of a log -/
structure Row where
  t : Int
  w : Str
  n : Int
  c : Str
  f : Str
  p : Int
  v : Option Int
def vD : Option Int → D
  | none => .non
  | some i => .int i
def Row.d (r : Row) : D := .tup [.int r.t, .str r.w, .int r.n, .str r.c, .str r.f, .int r.p, vD r.v]
def Row.Ok (r : Row) : Prop := r.w ≠ "began" → ∃ i, r.v = some i
structure Keep (S S' : Store) : Prop where
  len : S.length ≤ S'.length
  keep : ∀ (n : Nat) (o : O), S[n]? = some o → S'[n]? = some o
theorem Keep.refl {S : Store} : Keep S S := ⟨Nat.le_refl _, fun _ _ h => h⟩
theorem Keep.trans {S S1 S2 : Store} (x : Keep S S1) (y : Keep S1 S2) : Keep S S2 := ⟨Nat.le_trans x.len y.len, fun n o h => y.keep n o (x.keep n o h)⟩
theorem Keep.app {S : Store} {o : O} : Keep S (S ++ [o]) := ⟨by simp, fun n o e => by rw [List.getElem?_append_left (List.getElem?_eq_some_iff.mp e).1]; exact e⟩
theorem Keep.bag {S S' : Store} {b : Nat} (x : Keep S S') (h : BagAt S b) : BagAt S' b := by
  obtain ⟨i, j, h⟩ := h
  exact ⟨i, j, x.keep _ _ h⟩
theorem Keep.put {S S' : Store} {n : Nat} {o : O} (x : Keep S S') (h : S.length ≤ n) : Keep S (S'.set n o) :=
  ⟨by simp [x.len], fun m u e => by
    have := (List.getElem?_eq_some_iff.mp e).1
    rw [List.getElem?_set_ne (by omega)]
    exact x.keep m u e⟩
/-- what holds rows: a list made here, or one of the store -/
def IsRows (S : Store) (x : D) (rs : List Row) : Prop := x = .lst (rs.map Row.d) ∨ ∃ n, x = .loc n ∧ S[n]? = some (.lst (rs.map Row.d))
theorem IsRows.keep {S S' : Store} {x : D} {rs : List Row} (h : IsRows S x rs) (k : Keep S S') : IsRows S' x rs := by
  rcases h with h | ⟨n, e, h⟩
  · exact .inl h
  · exact .inr ⟨n, e, k.keep _ _ h⟩
theorem IsRows.any {S : Store} {x : D} {rs : List Row} (h : IsRows S x rs) : ∃ at_, anyI x S = .ok ⟨rs.map Row.d, at_⟩ S ∧ ∀ S', Keep S S' → Src.held ⟨rs.map Row.d, at_⟩ S' := by
  rcases h with h | ⟨n, e, h⟩
  · subst h
    exact ⟨[], anyI_l, fun _ _ => held_nil⟩
  · subst e
    exact ⟨_, anyI_m h, fun S' k => held_one.mpr (.inl (k.keep _ _ h))⟩
theorem cut46 {a b c d e f g : D} : cutD [a, b, c, d, e, f, g] (some 4) (some 6) = [e, f] := nr rfl
theorem eqV_tsi {a b : Str} {i j : Int} {S : Store} : eqV (.tup [.str a, .int i]) (.tup [.str b, .int j]) S = .ok (.bl (a == b && i == j)) S := by
  show (if min (PyData.tuple [.str a, .int i]).depth (PyData.tuple [.str b, .int j]).depth ≤ 64 then R.ok (D.bl (PyData.eqv (.tuple [.str a, .int i]) (.tuple [.str b, .int j]))) S else .no) = _
  rw [if_pos (Nat.le_of_ble_eq_true rfl)]
  congr 2
  simp [PyData.eqv, PyData.eqvAll]
/-- the numbers of the rows "lost" -/
def lostNs (rs : List Row) : List Int := rs.filterMap fun r => if r.w == ("lost" : Str) then some r.n else none
def hit (gone : List Int) (f : Str) (p : Int) (r : Row) : Bool := (r.w == ("wrote" : Str)) && ((r.f == f && r.p == p) && !decide (r.n ∈ gone))
def truthA (gone : List Int) (f : Str) (p : Int) (rs : List Row) (a : Int) : Int := rs.foldl (fun a r => if hit gone f p r = true then r.v.getD 0 else a) a
def truthI (rs : List Row) (f : Str) (p : Int) : Int := truthA (lostNs rs) f p rs 0
/-- the law's own way -/
def f1 : D → Option D
  | .tup [_, .str w, n, _, _, _, _] => if w == ("lost" : Str) then some n else none
  | _ => none
def f2 (gone : List Int) (f : Str) (p : Int) : D → Option D
  | .tup [_, .str w, .int n, _, .str f', .int p', v] => if ((w == ("wrote" : Str)) && ((f' == f && p' == p) && !decide (n ∈ gone))) = true then some v else none
  | _ => none
theorem f1_rows (rs : List Row) : (rs.map Row.d).filterMap f1 = (lostNs rs).map D.int := by
  induction rs with
  | nil => rfl
  | cons r rs ih =>
    have e : lostNs (r :: rs) = (if r.w == ("lost" : Str) then [r.n] else []) ++ lostNs rs := by
      unfold lostNs
      rw [List.filterMap_cons]
      cases r.w == ("lost" : Str) <;> rfl
    have e1 : f1 r.d = if r.w == ("lost" : Str) then some (.int r.n) else none := rfl
    rw [List.map_cons, List.filterMap_cons, e1, e, ih]
    cases r.w == ("lost" : Str) <;> rfl
theorem f2_rows (gone : List Int) (f : Str) (p : Int) (rs : List Row) (ok : ∀ r ∈ rs, r.Ok) (a : Int) : ∃ ys, (rs.map Row.d).filterMap (f2 gone f p) = ys ∧ ((D.int a) :: ys).getLast (List.cons_ne_nil _ _) = .int (truthA gone f p rs a) ∧ ys.length ≤ rs.length := by
  induction rs generalizing a with
  | nil => exact ⟨[], rfl, rfl, Nat.le_refl _⟩
  | cons r rs ih =>
    have e1 : f2 gone f p r.d = if hit gone f p r = true then some (vD r.v) else none := rfl
    rw [List.map_cons, List.filterMap_cons, e1]
    by_cases h : hit gone f p r = true
    · have hw : r.w ≠ "began" := fun z => by
        unfold hit at h
        rw [z] at h
        have q : ((Str.ofString "began" == Str.ofString "wrote") : Bool) = false := by decide
        rw [q] at h
        exact absurd h (by simp)
      obtain ⟨i, hi⟩ := ok r List.mem_cons_self hw
      obtain ⟨ys, e, l, n⟩ := ih (fun r h => ok r (List.mem_cons_of_mem _ h)) i
      rw [if_pos h, hi]
      refine ⟨.int i :: ys, by rw [← e]; rfl, ?_, by simp only [List.length_cons]; omega⟩
      rw [List.getLast_cons (List.cons_ne_nil _ _), l]
      show _ = D.int (truthA gone f p rs (if hit gone f p r = true then r.v.getD 0 else a))
      rw [if_pos h, hi]
      rfl
    · obtain ⟨ys, e, l, n⟩ := ih (fun r h => ok r (List.mem_cons_of_mem _ h)) a
      rw [if_neg h]
      refine ⟨ys, e, ?_, by simp only [List.length_cons]; omega⟩
      rw [l]
      show _ = D.int (truthA gone f p rs (if hit gone f p r = true then r.v.getD 0 else a))
      rw [if_neg h]
theorem atI_last {xs : List D} (h : xs ≠ []) : atI xs (-1) = some (xs.getLast h) := by
  have l : 0 < xs.length := List.length_pos_iff.mpr h
  unfold atI ixN
  rw [if_neg (by decide), if_pos (by omega)]
  show xs[_]? = _
  rw [List.getLast_eq_getElem h, List.getElem?_eq_some_iff]
  exact ⟨by omega, by congr 1; omega⟩
theorem fm_congr {α β : Type} {f g : α → Option β} : ∀ {l : List α}, (∀ a ∈ l, f a = g a) → l.filterMap f = l.filterMap g
  | [], _ => rfl
  | a :: l, h => by
    rw [List.filterMap_cons, List.filterMap_cons, h a List.mem_cons_self, fm_congr fun b hb => h b (List.mem_cons_of_mem _ hb)]
section
variable {κ : Type} [DecidableEq κ] {α : Type}
theorem lookA_any (kvs : List (κ × α)) (j : κ) : (lookA kvs j).isSome = kvs.any fun kv => decide (kv.1 = j) := by
  unfold lookA
  rw [Option.isSome_map]
  induction kvs with
  | nil => rfl
  | cons a l ih =>
    rw [List.find?_cons, List.any_cons]
    cases decide (a.1 = j) with
    | true => rfl
    | false => rw [Bool.false_or]; exact ih
theorem putA_any (kvs : List (κ × α)) (k j : κ) (v : α) : ((putA kvs k v).any fun kv => decide (kv.1 = j)) = (decide (k = j) || kvs.any fun kv => decide (kv.1 = j)) := by
  unfold putA
  by_cases h : (kvs.any fun kv => decide (kv.1 = k)) = true
  · rw [if_pos h, List.any_map]
    have e : ((fun kv : κ × α => decide (kv.1 = j)) ∘ fun kv => if kv.1 = k then (kv.1, v) else kv) = fun kv => decide (kv.1 = j) := by
      funext kv
      show decide ((if kv.1 = k then (kv.1, v) else kv).1 = j) = _
      split <;> rfl
    rw [e]
    by_cases hj : k = j
    · subst hj
      rw [h]
      simp
    · simp [hj]
  · rw [if_neg h, List.any_append]
    simp [Bool.or_comm]
theorem putA_len (kvs : List (κ × α)) (k : κ) (v : α) : (putA kvs k v).length ≤ kvs.length + 1 := by
  unfold putA
  split
  · simp
  · simp
end
theorem rows_get {rs : List Row} {i : Nat} {y : D} (h : (rs.map Row.d)[i]? = some y) : ∃ r, rs[i]? = some r ∧ y = r.d := by
  rw [List.getElem?_map] at h
  obtain ⟨r, e, h⟩ := Option.map_eq_some_iff.mp h
  exact ⟨r, e, h.symm⟩
theorem take_more {α : Type} {rs : List α} {i : Nat} {r : α} (h : rs[i]? = some r) : rs.take (i + 1) = rs.take i ++ [r] := by
  rw [List.take_add_one, h]
  rfl
theorem wp_truth {S : Store} {x : D} {rs : List Row} {f : Str} {p : Int} {α : Type} {k : D → Store → R α} {P : α → Store → Prop} (hx : IsRows S x rs) (ok : ∀ r ∈ rs, r.Ok) (hn : rs.length ≤ 1000) (q : ∀ S', Keep S S' → wpE (k (.int (truthI rs f p)) S') P) : wpE ((F_truth [x, .str f, .int p] S).bind k) P := by
  obtain ⟨at_, ha, hh⟩ := hx.any
  unfold F_truth B_truth
  walk_at "ev"
  rw [ha]
  walk_at "ev"
  refine wp_dc (s := ⟨rs.map Row.d, at_⟩) (fun i S' => ∃ kvs : List (Key × D), S'[S.length]? = some (.dK kvs) ∧ kvs.length ≤ i ∧ (∀ m : Int, (lookA kvs (.inl m)).isSome = decide (m ∈ lostNs (rs.take i))) ∧ Keep S S') ⟨[], app_at, Nat.le_refl _, fun m => rfl, Keep.app⟩ ?_ ?_
  · rintro i y S' hy ⟨kvs, h1, h2, h3, h4⟩
    obtain ⟨r, hr, rfl⟩ := rows_get hy
    have il : i < rs.length := (List.getElem?_eq_some_iff.mp hr).1
    refine ⟨hh _ h4, ?_⟩
    unfold Row.d B_truth_g1 B_truth_t2 B_truth_k3 B_truth_e4
    walk_at "ev"
    have tk : lostNs (rs.take (i + 1)) = lostNs (rs.take i) ++ (if r.w == ("lost" : Str) then [r.n] else []) := by
      rw [take_more hr]
      unfold lostNs
      rw [List.filterMap_append]
      congr 1
      rw [List.filterMap_cons]
      cases r.w == ("lost" : Str) <;> rfl
    refine wp_ite (fun e => ?_) fun e => ?_
    · rw [if_pos e] at tk
      rw [putC_ok (q := .inl r.n) rfl h1 (by omega)]
      refine wpE_ok_i ⟨putA kvs (.inl r.n) (.bl true), List.getElem?_set_self (List.getElem?_eq_some_iff.mp h1).1, Nat.le_trans (putA_len _ _ _) (by omega), fun m => ?_, h4.put (Nat.le_refl _)⟩
      rw [lookA_any, putA_any, ← lookA_any, h3 m, tk]
      by_cases e : r.n = m
      · simp [e]
      · have e' : ¬ m = r.n := fun z => e z.symm
        simp [e, e']
    · rw [if_neg e, List.append_nil] at tk
      refine wpE_ok_i ⟨kvs, h1, by omega, fun m => ?_, h4⟩
      rw [h3 m, tk]
  · rintro S1 ⟨kvs, h1, h2, h3, h4⟩
    have h3 : ∀ m : Int, (lookA kvs (.inl m)).isSome = decide (m ∈ lostNs rs) := fun m => by
      rw [h3 m, show (Src.mk (rs.map Row.d) at_).xs.length = rs.length from List.length_map _, List.take_length]
    refine ⟨hh _ h4, ?_⟩
    walk_at "ev"
    obtain ⟨at2, ha2, hh2⟩ := (hx.keep h4).any
    rw [ha2]
    walk_at "ev"
    refine wp_for (s := ⟨rs.map Row.d, at2⟩) (fun i st S' => S' = S1 ∧ ∃ y5 y6 y7 y8 y9 y10 y11 y12, st = [some x, some (.str f), some (.int p), some (.loc S.length), some (.int (truthA (lostNs rs) f p (rs.take i) 0)), y5, y6, y7, y8, y9, y10, y11, y12]) ⟨rfl, _, _, _, _, _, _, _, _, rfl⟩ ?_ ?_
    · rintro i y st _ hy ⟨rfl, y5, y6, y7, y8, y9, y10, y11, y12, rfl⟩
      obtain ⟨r, hr, rfl⟩ := rows_get hy
      refine ⟨hh2 _ .refl, ?_⟩
      have tk : truthA (lostNs rs) f p (rs.take (i + 1)) 0 = if hit (lostNs rs) f p r = true then r.v.getD 0 else truthA (lostNs rs) f p (rs.take i) 0 := by
        rw [take_more hr]
        unfold truthA
        rw [List.foldl_append]
        rfl
      have ro := ok r (List.mem_of_getElem? hr)
      unfold Row.d B_truth_b5
      unfold hit at tk
      walk_at "ev"
      cases w : r.w == ("wrote" : Str) with
      | false =>
        rw [w] at tk
        walk_at "ev"
        rw [tk]
        exact ⟨_, _, _, _, _, _, _, _, rfl⟩
      | true =>
        rw [w] at tk
        walk_at "ev"
        rw [eqV_tsi]
        walk_at "ev"
        cases u : r.f == f && r.p == p with
        | false =>
          rw [u] at tk
          walk_at "ev"
          rw [tk]
          exact ⟨_, _, _, _, _, _, _, _, rfl⟩
        | true =>
          rw [u] at tk
          walk_at "ev"
          rw [h3 r.n]
          cases z : decide (r.n ∈ lostNs rs) with
          | true =>
            rw [z] at tk
            walk_at "ev"
            rw [tk]
            exact ⟨_, _, _, _, _, _, _, _, rfl⟩
          | false =>
            rw [z] at tk
            walk_at "ev"
            have : r.w ≠ "began" := fun z => by
              rw [z] at w
              exact absurd w (by decide)
            obtain ⟨i, hi⟩ := ro this
            rw [hi] at tk ⊢
            rw [tk]
            exact ⟨_, _, _, _, _, _, _, _, rfl⟩
    · rintro st _ ⟨rfl, y5, y6, y7, y8, y9, y10, y11, y12, rfl⟩
      refine ⟨hh2 _ .refl, ?_⟩
      walk_at "ev"
      rw [show (Src.mk (rs.map Row.d) at2).xs.length = rs.length from List.length_map _, List.take_length]
      exact q _ h4
noncomputable def B_law_log_row_end : DSv :=
  dSeq (dSet 6 (dOp ixV (dLst (dCons (dC (.str "ann")) (dCons (dC (.str "bo")) (dCons (dC (.str "abcdefgh")) dNil)))) (dCall F_law_take 2 (dCons (dVar 0) (dCons (dC (.int 3)) dNil)))))
  (dRet (dTup (dCons (dCall F_law_take 2 (dCons (dVar 0) (dCons (dC (.int 50)) dNil))) (dCons (dVar 1) (dCons (dVar 3) (dCons (dVar 6) (dCons (dVar 2) (dCons (dCall F_law_take 2 (dCons (dVar 0) (dCons (dC (.int 4)) dNil))) (dCons (dVar 4) dNil)))))))))
structure Row.Fine (r : Row) : Prop where
  t : 0 ≤ r.t
  n : 0 ≤ r.n
  w : r.w = "began" ∨ r.w = "read" ∨ r.w = "wrote" ∨ r.w = "lost"
  c : r.c = "ann" ∨ r.c = "bo" ∨ r.c = "abcdefgh"
  f : r.f = "a" ∨ r.f = "b" ∨ r.f = "ab"
  p : 0 ≤ r.p ∧ r.p ≤ 3
theorem wp_row {S : Store} {b : Nat} {α : Type} {k : D → Store → R α} {P : α → Store → Prop} (h : BagAt S b) (q : ∀ r S', Row.Ok r → Row.Fine r → Fr b S S' → wpE (k r.d S') P) : wpE ((F_law_log_row [.loc b] S).bind k) P := by
  unfold F_law_log_row B_law_log_row
  walk_at "ev"
  refine wp_take h (by decide) (by decide) fun r1 S1 p1 q1 f1 => ?_
  obtain ⟨w, hw, iw⟩ : ∃ w : Str, atI [D.str "began", .str "read", .str "wrote", .str "lost", .str "wrote", .str "read"] r1 = some (.str w) ∧ (w = "began" ∨ w = "read" ∨ w = "wrote" ∨ w = "lost") := by
    have z : r1 = 0 ∨ r1 = 1 ∨ r1 = 2 ∨ r1 = 3 ∨ r1 = 4 ∨ r1 = 5 := by omega
    rcases z with rfl | rfl | rfl | rfl | rfl | rfl
    · exact ⟨_, rfl, .inl rfl⟩
    · exact ⟨_, rfl, .inr (.inl rfl)⟩
    · exact ⟨_, rfl, .inr (.inr (.inl rfl))⟩
    · exact ⟨_, rfl, .inr (.inr (.inr rfl))⟩
    · exact ⟨_, rfl, .inr (.inr (.inl rfl))⟩
    · exact ⟨_, rfl, .inr (.inl rfl)⟩
  walk_at "ev"
  rw [hw]
  walk_at "ev"
  refine wp_take f1.bag (by decide) (by decide) fun r2 S2 p2 q2 f2 => ?_
  obtain ⟨f, hf, jf⟩ : ∃ w : Str, atI [D.str "a", .str "b", .str "ab"] r2 = some (.str w) ∧ (w = "a" ∨ w = "b" ∨ w = "ab") := by
    have z : r2 = 0 ∨ r2 = 1 ∨ r2 = 2 := by omega
    rcases z with rfl | rfl | rfl
    · exact ⟨_, rfl, .inl rfl⟩
    · exact ⟨_, rfl, .inr (.inl rfl)⟩
    · exact ⟨_, rfl, .inr (.inr rfl)⟩
  walk_at "ev"
  rw [hf]
  walk_at "ev"
  refine wp_take f2.bag (by decide) (by decide) fun n S3 p3 q3 f3 => ?_
  walk_at "ev"
  refine wp_take f3.bag (by decide) (by decide) fun v S4 p4 q4 f4 => ?_
  walk_at "ev"
  refine wp_take f4.bag (by decide) (by decide) fun way S5 p5 q5 f5 => ?_
  walk_at "ev"
  have f05 := (((f1.trans f2).trans f3).trans f4).trans f5
  refine wp_use (Q := fun fl S' => Fr b S S' ∧ ∃ n : Int, 0 ≤ n ∧ fl = .nx [some (.loc b), some (.str w), some (.str f), some (.int n), some (.int v), some (.int way), none]) (wp_ite (fun e => ?_) fun e => ?_) ?_
  · walk_at "ev"
    refine wp_take f05.bag (by decide) (by decide) fun n S6 p6 q6 f6 => ?_
    walk_at "ev"
    exact ⟨f05.trans f6, _, p6, rfl⟩
  · walk_at "ev"
    exact ⟨f05, _, p3, rfl⟩
  rintro _ S6 ⟨f06, n, pn, rfl⟩
  walk_at "ev"
  refine wp_use (Q := fun fl S' => Fr b S S' ∧ ∃ v : Int, fl = .nx [some (.loc b), some (.str w), some (.str f), some (.int n), some (.int v), some (.int way), none]) (wp_ite (fun e => ?_) fun e => ?_) ?_
  · walk_at "ev"
    refine wp_take f06.bag (by decide) (by decide) fun n S6 p6 q6 f6 => ?_
    walk_at "ev"
    exact ⟨f06.trans f6, _, rfl⟩
  · walk_at "ev"
    exact ⟨f06, _, rfl⟩
  rintro _ S7 ⟨f07, v, rfl⟩
  walk_at "ev"
  have fin : ∀ vo : Option Int, (w ≠ "began" → ∃ i, vo = some i) → wpE ((B_law_log_row_end [some (.loc b), some (.str w), some (.str f), some (.int n), some (vD vo), some (.int way), none] S7).bind (cmpK finK k)) P := fun vo hv => by
    unfold B_law_log_row_end
    walk_at "ev"
    refine wp_take f07.bag (by decide) (by decide) fun r8 S8 p8 q8 f8 => ?_
    obtain ⟨c, hc, jc⟩ : ∃ w : Str, atI [D.str "ann", .str "bo", .str "abcdefgh"] r8 = some (.str w) ∧ (w = "ann" ∨ w = "bo" ∨ w = "abcdefgh") := by
      have z : r8 = 0 ∨ r8 = 1 ∨ r8 = 2 := by omega
      rcases z with rfl | rfl | rfl
      · exact ⟨_, rfl, .inl rfl⟩
      · exact ⟨_, rfl, .inr (.inl rfl)⟩
      · exact ⟨_, rfl, .inr (.inr rfl)⟩
    walk_at "ev"
    rw [hc]
    walk_at "ev"
    refine wp_take f8.bag (by decide) (by decide) fun t S9 p9 q9 f9 => ?_
    walk_at "ev"
    refine wp_take f9.bag (by decide) (by decide) fun p S10 p10 q10 f10 => ?_
    walk_at "ev"
    exact q ⟨t, w, n, c, f, p, vo⟩ S10 hv ⟨p9, pn, iw, jc, jf, p10, show p ≤ 3 by omega⟩ (((f07.trans f8).trans f9).trans f10)
  cases e : w == ("began" : Str) with
  | false =>
    have e' : w ≠ "began" := fun z => by rw [z] at e; exact absurd e (by decide)
    walk_at "ev"
    have := fin (some v) fun _ => ⟨v, rfl⟩
    unfold B_law_log_row_end vD at this
    walk_at "ev"
    revert this
    walk_at "ev"
    exact id
  | true =>
    have e' : w = "began" := eq_of_beq e
    walk_at "ev"
    by_cases g : way < 5
    · simp only [g, decide_true]
      walk_at "ev"
      have := fin none fun z => absurd e' z
      unfold B_law_log_row_end vD at this
      revert this
      walk_at "ev"
      exact id
    · simp only [g, decide_false]
      walk_at "ev"
      have := fin (some v) fun z => absurd e' z
      unfold B_law_log_row_end vD at this
      revert this
      walk_at "ev"
      exact id
/-! ### stale reads -/
theorem eqV_vD {o : Option Int} {j : Int} {S : Store} : eqV (vD o) (.int j) S = .ok (.bl (o == some j)) S := by
  cases o with
  | none => exact eqV_ni
  | some i => exact eqV_i
theorem neV_vD {o : Option Int} {j : Int} {S : Store} : neV (vD o) (.int j) S = .ok (.bl (!(o == some j))) S := by
  cases o with
  | none => exact neV_ni
  | some i => exact neV_i
theorem neV_vv {o : Option Int} {S : Store} : neV (vD o) (vD o) S = .ok (.bl false) S := by
  cases o with
  | none => exact neV_nn
  | some i =>
    unfold vD
    rw [neV_i, beq_self_eq_true]
    rfl
def staleB (rs : List Row) (i : Nat) (r : Row) : Bool := (r.w == ("read" : Str)) && !(r.v == some (truthI (rs.take i) r.f r.p))
def staleO (rs : List Row) (i : Nat) : Option Int := match rs[i]? with
  | some r => if staleB rs i r = true then some r.n else none
  | none => none
def staleL (rs : List Row) : List Int := (List.range rs.length).filterMap (staleO rs)
theorem stale_head {rs : List Row} {i : Nat} {r : Row} (hr : rs[i]? = some r) (h : staleB rs i r = true) (n : ∀ j, j < i → staleO rs j = none) : (staleL rs).head? = some r.n := by
  have il : i < rs.length := (List.getElem?_eq_some_iff.mp hr).1
  have e : rs.length = i + ((rs.length - i - 1) + 1) := by omega
  unfold staleL
  rw [e, List.range_add, List.filterMap_append, List.range_succ_eq_map, List.map_cons, List.filterMap_cons]
  have a : (List.range i).filterMap (staleO rs) = [] := by
    rw [List.filterMap_eq_nil_iff]
    exact fun j hj => n j (List.mem_range.mp hj)
  have b : staleO rs (i + 0) = some r.n := by
    unfold staleO
    rw [Nat.add_zero, hr]
    exact if_pos h
  rw [a, b]
  rfl
theorem stale_none {rs : List Row} (n : ∀ j, j < rs.length → staleO rs j = none) : (staleL rs).head? = none := by
  unfold staleL
  rw [List.filterMap_eq_nil_iff.mpr fun j hj => n j (List.mem_range.mp hj)]
  rfl
theorem IsRows.enum {S : Store} {x : D} {rs : List Row} (h : IsRows S x rs) : ∃ at_, enumK [x] S = .ok ⟨enumL (rs.map Row.d), at_⟩ S ∧ ∀ S', Keep S S' → Src.held ⟨enumL (rs.map Row.d), at_⟩ S' := by
  rcases h with h | ⟨n, e, h⟩
  · subst h
    exact ⟨[], enumK_l, fun _ _ => held_nil⟩
  · subst e
    exact ⟨_, enumK_m h, fun S' k => held_one.mpr (.inl (k.keep _ _ h))⟩
theorem IsRows.cut {S : Store} {x : D} {rs : List Row} {i : Nat} (h : IsRows S x rs) : slV x none (some (i : Int)) S = .ok (.lst ((rs.take i).map Row.d)) S := by
  rcases h with h | ⟨n, e, h⟩
  · subst h
    rw [slV_l, cutD_to, List.map_take]
  · subst e
    rw [slV_m h, cutD_to, List.map_take]
theorem wp_first {S : Store} {x : D} {rs : List Row} {α : Type} {k : D → Store → R α} {P : α → Store → Prop} (hx : IsRows S x rs) (ok : ∀ r ∈ rs, r.Ok) (hn : rs.length ≤ 1000) (q : ∀ S', Keep S S' → wpE (k (vD (staleL rs).head?) S') P) : wpE ((F_first_stale [x] S).bind k) P := by
  obtain ⟨at_, ha, hh⟩ := hx.enum
  unfold F_first_stale B_first_stale
  walk_at "ev"
  rw [ha]
  walk_at "ev"
  refine wp_for (s := ⟨enumL (rs.map Row.d), at_⟩) (fun i st S' => Keep S S' ∧ (∃ y1 y2, st = [some x, y1, y2]) ∧ ∀ j, j < i → staleO rs j = none) ⟨.refl, ⟨_, _, rfl⟩, fun j hj => absurd hj (Nat.not_lt_zero _)⟩ ?_ ?_
  · rintro i y st S' hy ⟨kp, ⟨y1, y2, rfl⟩, ih⟩
    obtain ⟨z, hz, rfl⟩ := enumL_get hy
    obtain ⟨r, hr, rfl⟩ := rows_get hz
    refine ⟨hh _ kp, ?_⟩
    unfold B_first_stale_b1
    walk_at "ev"
    have so : staleO rs i = if staleB rs i r = true then some r.n else none := by
      unfold staleO
      rw [hr]
    have nxt : staleB rs i r = false → ∀ j, j < i + 1 → staleO rs j = none := fun e j hj => by
      by_cases q : j = i
      · subst q
        rw [so, e]
        rfl
      · exact ih j (by omega)
    have hd := stale_head (i := i) (r := r) hr
    unfold staleB at nxt so hd
    unfold Row.d
    walk_at "ev"
    cases w : r.w == ("read" : Str) with
    | false =>
      rw [w] at nxt
      walk_at "ev"
      exact ⟨kp, ⟨_, _, rfl⟩, nxt rfl⟩
    | true =>
      rw [w] at nxt hd
      walk_at "ev"
      rw [(hx.keep kp).cut]
      walk_at "ev"
      refine wp_truth (.inl rfl) (fun r h => ok r (List.mem_of_mem_take h)) (by rw [List.length_take]; omega) fun S2 k2 => ?_
      walk_at "ev"
      rw [neV_vD]
      walk_at "ev"
      cases u : r.v == some (truthI (rs.take i) r.f r.p) with
      | true =>
        rw [u] at nxt
        walk_at "ev"
        exact ⟨kp.trans k2, ⟨_, _, rfl⟩, nxt rfl⟩
      | false =>
        rw [u] at hd
        walk_at "ev"
        have e := hd rfl ih
        have := q S2 (kp.trans k2)
        rw [e] at this
        exact this
  · rintro st S' ⟨kp, ⟨y1, y2, rfl⟩, ih⟩
    refine ⟨hh _ kp, ?_⟩
    walk_at "ev"
    have l : (Src.mk (enumL (rs.map Row.d)) at_).xs.length = rs.length := by
      show (enumL (rs.map Row.d)).length = _
      rw [enumL_len, List.length_map]
    rw [l] at ih
    have := q S' kp
    rw [stale_none ih] at this
    exact this
/-! ### names, rows, logs told -/
def nameB (z : Str) : Bool := (decide (1 ≤ (z.length : Int)) && decide ((z.length : Int) ≤ 8)) && z.cps.toList.all fun k => decide (k ∈ ("abcdefghijklmnopqrstuvwxyz" : Str).cps.toList)
theorem boolsOf_map {α : Type} (f : α → Bool) (l : List α) : boolsOf (l.map fun a => D.bl (f a)) = some (l.map f) := by
  induction l with
  | nil => rfl
  | cons a l ih =>
    rw [List.map_cons, List.map_cons]
    unfold boolsOf
    rw [ih]
    rfl
theorem allV_map {α : Type} (f : α → Bool) (l : List α) {S : Store} : allV [.lst (l.map fun a => D.bl (f a))] S = .ok (.bl (l.all f)) S := by
  show (match boolsOf (l.map fun a => D.bl (f a)) with
    | some bs => R.ok (D.bl (bs.all id)) S
    | none => .no) = _
  rw [boolsOf_map]
  show R.ok (D.bl ((l.map f).all id)) S = _
  rw [List.all_map]
  rfl
theorem fm_all {α : Type} (g : D → Option D) (f : α → D) (h : α → D) (l : List α) (e : ∀ a ∈ l, g (f a) = some (h a)) : (l.map f).filterMap g = l.map h := by
  induction l with
  | nil => rfl
  | cons a l ih =>
    rw [List.map_cons, List.filterMap_cons, e a List.mem_cons_self, List.map_cons, ih fun b hb => e b (List.mem_cons_of_mem _ hb)]
theorem in_sign {k : Nat} {z : Str} {S : Store} : inV' (.str ⟨#[k]⟩) (.str z) S = .ok (.bl (decide (k ∈ z.cps.toList))) S := nr rfl
def letB : D → Option D
  | .str z => match z.cps.toList with
    | [k] => some (.bl (decide (k ∈ ("abcdefghijklmnopqrstuvwxyz" : Str).cps.toList)))
    | _ => none
  | _ => none
theorem name_eq {z : Str} {S : Store} (hl : z.length ≤ 100000) : F_is_name [.str z] S = .ok (.bl (nameB z)) S := by
  have ln : z.cps.toList.length = z.length := rfl
  unfold F_is_name B_is_name nameB
  walk_at "ev"
  by_cases c1 : 1 ≤ (z.length : Int)
  · simp only [c1, decide_true]
    walk_at "ev"
    by_cases c2 : (z.length : Int) ≤ 8
    · simp only [c2, decide_true]
      walk_at "ev"
      rw [lcD_pure letB held_nil _ [] (by unfold signsOf; rw [List.length_map, ln]; simp; omega) (fun x hx => by
        unfold signsOf at hx
        obtain ⟨k, _, rfl⟩ := List.mem_map.mp hx
        unfold B_is_name_g1 B_is_name_t2 B_is_name_e3
        walk_at "ev"
        rw [in_sign]
        walk_at "ev"
        rfl)]
      unfold signsOf
      rw [fm_all letB _ (fun k => .bl (decide (k ∈ ("abcdefghijklmnopqrstuvwxyz" : Str).cps.toList))) _ fun a _ => rfl]
      walk_at "ev"
      rw [allV_map]
      walk_at "ev"
      rw [Bool.true_and, Bool.true_and]
    · simp only [c2, decide_false]
      walk_at "ev"
      rfl
  · simp only [c1, decide_false]
    walk_at "ev"
    rfl
theorem iswhole_i {i : Int} {S : Store} : F_is_whole [.int i] S = .ok (.bl true) S := by
  unfold F_is_whole B_is_whole
  walk_at "ev"
theorem iswhole_n {S : Store} : F_is_whole [.non] S = .ok (.bl false) S := by
  unfold F_is_whole B_is_whole
  walk_at "ev"
theorem within_i {i a b : Int} {S : Store} (h1 : a ≤ i) (h2 : i ≤ b) : F_is_within [.int i, .int a, .int b] S = .ok (.bl true) S := by
  unfold F_is_within B_is_within
  walk_at "ev"
  rw [iswhole_i]
  walk_at "ev"
  simp only [h1, h2, decide_true]
  walk_at "ev"
theorem logrow_eq {r : Row} {S : Store} (ok : r.Ok) (fine : r.Fine) : F_is_log_row [r.d] S = .ok (.bl true) S := by
  obtain ⟨t0, n0, hw, hc, hf, hp⟩ := fine
  have c1 : nameB r.c = true ∧ r.c.length ≤ 100000 := by
    rcases hc with z | z | z <;> rw [z] <;> decide
  have f1 : nameB r.f = true ∧ r.f.length ≤ 100000 := by
    rcases hf with z | z | z <;> rw [z] <;> decide
  have w1 : inK [.str "began", .str "read", .str "wrote", .str "lost"] true (.str r.w) S = .ok (.bl false) S := by
    rcases hw with z | z | z | z <;> rw [z] <;> rfl
  have nt : ¬ r.t < 0 := by omega
  have nn : ¬ r.n < 0 := by omega
  unfold F_is_log_row B_is_log_row Row.d
  walk_at "ev"
  rw [iswhole_i]
  walk_at "ev"
  rw [iswhole_i]
  walk_at "ev"
  simp only [nt, nn, decide_false]
  walk_at "ev"
  rw [w1]
  walk_at "ev"
  rw [name_eq c1.2, c1.1]
  walk_at "ev"
  rw [name_eq f1.2, f1.1]
  walk_at "ev"
  rw [within_i hp.1 hp.2]
  walk_at "ev"
  cases v : r.v with
  | some i =>
    unfold vD
    rw [iswhole_i]
    walk_at "ev"
  | none =>
    have e : r.w = "began" := by
      by_cases e : r.w = "began"
      · exact e
      · obtain ⟨i, h⟩ := ok e
        rw [v] at h
        cases h
    unfold vD
    rw [iswhole_n, e]
    walk_at "ev"
theorem islog_eq {S : Store} {n : Nat} {rs : List Row} (hS : S[n]? = some (.lst (rs.map Row.d))) (ok : ∀ r ∈ rs, r.Ok ∧ r.Fine) (hn : rs.length ≤ 1000) : F_is_log [.loc n] S = .ok (.bl true) S := by
  have l : ((rs.map Row.d).length : Int) ≤ 1000 := by rw [List.length_map]; omega
  unfold F_is_log B_is_log
  walk_at "ev"
  simp only [l, decide_true]
  walk_at "ev"
  rw [lcD_pure (fun _ => some (.bl true)) (held_one.mpr (.inl hS)) _ [] (by rw [List.length_map]; simp; omega) (fun x hx => by
    obtain ⟨r, hr, rfl⟩ := List.mem_map.mp hx
    unfold B_is_log_g1 B_is_log_t2 B_is_log_e3
    walk_at "ev"
    rw [logrow_eq (ok r hr).1 (ok r hr).2]
    walk_at "ev"), fm_all _ Row.d (fun _ => .bl true) rs fun a _ => rfl]
  have av : allV [.lst (rs.map fun _ => D.bl true)] S = .ok (.bl (rs.all fun _ => true)) S := allV_map (fun _ => true) rs
  walk_at "ev"
  rw [av]
  walk_at "ev"
  simp
/-! ### rows added -/
theorem staleO_app {rs ms : List Row} {i : Nat} (h : i < rs.length) : staleO (rs ++ ms) i = staleO rs i := by
  unfold staleO staleB
  rw [List.getElem?_append_left h, List.take_append_of_le_length (Nat.le_of_lt h)]
theorem stale_app (rs ms : List Row) : staleL (rs ++ ms) = staleL rs ++ (List.range ms.length).filterMap fun j => staleO (rs ++ ms) (rs.length + j) := by
  unfold staleL
  rw [List.length_append, List.range_add, List.filterMap_append, List.filterMap_map]
  congr 1
  exact fm_congr fun i hi => staleO_app (List.mem_range.mp hi)
theorem stale_more {rs ms : List Row} {v : Int} (h : (staleL rs).head? = some v) : (staleL (rs ++ ms)).head? = some v := by
  rw [stale_app, List.head?_append, h]
  rfl
theorem stale_one {rs : List Row} {r : Row} (h : (staleL rs).head? = none) : (staleL (rs ++ [r])).head? = if staleB rs rs.length r = true then some r.n else none := by
  rw [stale_app, List.head?_append, h]
  have e : staleO (rs ++ [r]) (rs.length + 0) = if staleB rs rs.length r = true then some r.n else none := by
    unfold staleO staleB
    rw [Nat.add_zero, List.getElem?_append_right (Nat.le_refl _), Nat.sub_self]
    show (if (_ && !(r.v == some (truthI ((rs ++ [r]).take rs.length) r.f r.p))) = true then _ else _) = _
    rw [List.take_append_of_le_length (Nat.le_refl _)]
  show Option.or none ((List.filterMap _ [0]).head?) = _
  rw [List.filterMap_cons, e]
  split <;> simp_all
/-- the writes of the page -/
def isW (page : Int) (r : Row) : Bool := (r.w == ("wrote" : Str)) && (r.f == ("a" : Str) && r.p == page)
def rowW (vs : List Int) (page : Int) (j : Nat) : Row := ⟨j, "wrote", 10 + j, "bo", "a", page, some (vs.getD j 0)⟩
def Ws (vs : List Int) (page : Int) (i : Nat) : List Row := (List.range i).map (rowW vs page)
theorem truth_ws (gone : List Int) (page : Int) (L : List Row) (a : Int) : truthA gone "a" page L a = (L.filter (isW page)).foldl (fun a r => if decide (r.n ∈ gone) = true then a else r.v.getD 0) a := by
  induction L generalizing a with
  | nil => rfl
  | cons r L ih =>
    show truthA gone "a" page L (if hit gone "a" page r = true then r.v.getD 0 else a) = _
    have e : hit gone "a" page r = (isW page r && !decide (r.n ∈ gone)) := by
      unfold hit isW
      cases r.w == ("wrote" : Str) <;> cases (r.f == ("a" : Str) && r.p == page) <;> rfl
    rw [ih, List.filter_cons, e]
    cases isW page r with
    | false => rfl
    | true =>
      rw [if_pos rfl, List.foldl_cons]
      cases decide (r.n ∈ gone) <;> rfl
theorem mem_lost {L : List Row} {m : Int} : m ∈ lostNs L ↔ ∃ r ∈ L, r.w = "lost" ∧ r.n = m := by
  unfold lostNs
  rw [List.mem_filterMap]
  constructor
  · rintro ⟨r, h, e⟩
    by_cases g : (r.w == ("lost" : Str)) = true
    · rw [if_pos g] at e
      exact ⟨r, h, eq_of_beq g, Option.some.inj e⟩
    · rw [if_neg g] at e
      cases e
  · rintro ⟨r, h, e, rfl⟩
    exact ⟨r, h, by rw [e]; rfl⟩
theorem fold_ws {gone : List Int} {vs : List Int} {page : Int} {c : Nat} : ∀ n : Nat, (∀ j : Nat, j < n → ((10 + (j : Int)) ∈ gone ↔ c ≤ j)) → (Ws vs page n).foldl (fun a r => if decide (r.n ∈ gone) = true then a else r.v.getD 0) 0 = if min c n = 0 then 0 else vs.getD (min c n - 1) 0
  | 0, _ => by rw [Nat.min_zero]; rfl
  | n + 1, h => by
    have ih := fold_ws (vs := vs) (page := page) (c := c) n fun j hj => h j (by omega)
    unfold Ws at ih ⊢
    rw [List.range_succ, List.map_append, List.foldl_append, ih]
    show (if decide ((10 + (n : Int)) ∈ gone) = true then _ else vs.getD n 0) = _
    have hn := h n (by omega)
    by_cases g : c ≤ n
    · rw [if_pos (decide_eq_true (hn.mpr g)), show min c n = c by omega, show min c (n + 1) = c by omega]
    · rw [if_neg (by simp only [decide_eq_true_eq]; exact fun z => g (hn.mp z)), show min c (n + 1) = n + 1 by omega, if_neg (by omega)]
      rfl
theorem truth_at {L : List Row} {vs : List Int} {page : Int} {c n : Nat} (hw : L.filter (isW page) = Ws vs page n) (hl : ∀ j : Nat, j < n → ((10 + (j : Int)) ∈ lostNs L ↔ c ≤ j)) (hc : c ≤ n) : truthI L "a" page = if c = 0 then 0 else vs.getD (c - 1) 0 := by
  unfold truthI
  rw [truth_ws, hw, fold_ws n hl, show min c n = c by omega]
/-- a row put in -/
def putIn (L : List Row) (k : Nat) (x : Row) : List Row := L.take k ++ [x] ++ L.drop k
theorem putIn_mem {L : List Row} {k : Nat} {x r : Row} : r ∈ putIn L k x ↔ r = x ∨ r ∈ L := by
  unfold putIn
  have := List.take_append_drop k L
  constructor
  · intro h
    rcases List.mem_append.mp h with h | h
    · rcases List.mem_append.mp h with h | h
      · exact .inr (List.mem_of_mem_take h)
      · exact .inl (List.mem_singleton.mp h)
    · exact .inr (List.mem_of_mem_drop h)
  · rintro (h | h)
    · rw [h]; simp
    · rw [← this] at h
      rcases List.mem_append.mp h with h | h
      · simp [h]
      · simp [h]
theorem putIn_filter {L : List Row} {k : Nat} {x : Row} {p : Row → Bool} (h : p x = false) : (putIn L k x).filter p = L.filter p := by
  unfold putIn
  rw [List.filter_append, List.filter_append, List.filter_cons, h]
  simp only [Bool.false_eq_true, if_false, List.filter_nil, List.append_nil]
  rw [← List.filter_append, List.take_append_drop]
theorem putIn_len {L : List Row} {k : Nat} {x : Row} : (putIn L k x).length = L.length + 1 := by
  unfold putIn
  simp
  omega
theorem insV_rows {S : Store} {n : Nat} {L : List Row} {i : Int} {x : Row} (h : S[n]? = some (.lst (L.map Row.d))) (hl : L.length < 1000) (h0 : 0 ≤ i) (h1 : i < 1000) : insV (.loc n) [.int i, x.d] S = .ok .non (S.set n (.lst ((putIn L i.toNat x).map Row.d))) := by
  unfold insV
  simp only [h]
  rw [if_pos ⟨by rw [List.length_map]; omega, h0, by omega⟩]
  unfold putIn
  rw [List.map_append, List.map_append, List.map_take, List.map_drop]
  rfl
theorem neV_tsi {a b : Str} {i j : Int} {S : Store} : neV (.tup [.str a, .int i]) (.tup [.str b, .int j]) S = .ok (.bl (!(a == b && i == j))) S := by
  show (if min (PyData.tuple [.str a, .int i]).depth (PyData.tuple [.str b, .int j]).depth ≤ 64 then R.ok (D.bl (!PyData.eqv (.tuple [.str a, .int i]) (.tuple [.str b, .int j]))) S else .no) = _
  rw [if_pos (Nat.le_of_ble_eq_true rfl)]
  congr 2
  simp [PyData.eqv, PyData.eqvAll]
theorem cut06 {a b c d e f g : D} : cutD [a, b, c, d, e, f, g] none (some 6) = [a, b, c, d, e, f] := nr rfl
theorem map_snoc {rs : List Row} {r : Row} : rs.map Row.d ++ [r.d] = (rs ++ [r]).map Row.d := by simp
/-- rows drawn by a comprehension -/
theorem wp_drawn {g : DGv} {t : DTv} {e : DEv} {st : DSt} {b : Nat} {m : Int} {S : Store} {α : Type} {k : List D → Store → R α} {P : α → Store → Prop} (bag : BagAt S b) (m0 : 0 ≤ m) (m1 : m ≤ 21)
    (turn : ∀ (i : Int) (S' : Store), lcT g t e st (.int i) S' = (F_law_log_row [.loc b] S').bind someK)
    (q : ∀ (rs : List Row) S', (∀ r ∈ rs, Row.Ok r ∧ Row.Fine r) → rs.length ≤ 21 → BagAt S' b → wpE (k (rs.map Row.d) S') P) : wpE ((lcD ⟨rangeD 0 m.toNat, []⟩ g t e st (rangeD 0 m.toNat) [] S).bind k) P := by
  refine wp_lc (s := ⟨rangeD 0 m.toNat, []⟩) (fun i acc S' => ∃ rs : List Row, acc = rs.map Row.d ∧ rs.length = i ∧ (∀ r ∈ rs, r.Ok ∧ r.Fine) ∧ BagAt S' b) ⟨[], rfl, rfl, fun _ h => absurd h (by simp), bag⟩ ?_ ?_
  · rintro i x acc S' hx ⟨rs, rfl, h2, h3, h4⟩
    obtain ⟨hi, rfl⟩ := rangeD_get hx
    refine ⟨held_nil, by rw [List.length_map]; omega, ?_⟩
    rw [turn]
    refine wp_row h4 fun r S3 ro rf f3 => ?_
    walk_at "ev"
    refine ⟨rs ++ [r], map_snoc, by simp [h2], fun u hu => ?_, f3.bag⟩
    rcases List.mem_append.mp hu with z | z
    · exact h3 u z
    · rw [List.mem_singleton.mp z]
      exact ⟨ro, rf⟩
  · rintro acc S' ⟨rs, rfl, h2, h3, h4⟩
    refine ⟨held_nil, q rs S' h3 ?_ h4⟩
    rw [h2]
    show (rangeD 0 m.toNat).length ≤ 21
    rw [rangeD_len]
    omega
theorem row_2 {r : Row} {S : Store} : ixV r.d (.int 2) S = .ok (.int r.n) S := by
  unfold Row.d
  walk_at "ev"
theorem row_4 {r : Row} {S : Store} : ixV r.d (.int 4) S = .ok (.str r.f) S := by
  unfold Row.d
  walk_at "ev"
theorem row_5 {r : Row} {S : Store} : ixV r.d (.int 5) S = .ok (.int r.p) S := by
  unfold Row.d
  walk_at "ev"
theorem Ws_snoc {vs : List Int} {page : Int} {i : Nat} : Ws vs page (i + 1) = Ws vs page i ++ [rowW vs page i] := by
  unfold Ws
  rw [List.range_succ, List.map_append]
  rfl
theorem isW_row {vs : List Int} {page : Int} {i : Nat} : isW page (rowW vs page i) = true := by
  unfold isW rowW
  simp
structure LInv (S : Store) (b n : Nat) (page : Int) (L : List Row) (m : Nat) : Prop where
  at_ : S[n]? = some (.lst (L.map Row.d))
  len : L.length ≤ m
  ok : ∀ r ∈ L, r.Ok ∧ r.Fine
  bag : BagAt S b
/-- a turn of writing -/
theorem wp_write {ns : List Int} {kk b n i : Nat} {page v : Int} {vs : List Int} {L : List Row} {S : Store} {y3 y4 y5 y7 y12 y13 : Option D} {P : Fl → Store → Prop} (I : LInv S b n page L 40) (ne : n ≠ b) (hv : vs[i]? = some v) (pg0 : 0 ≤ page) (pg1 : page < 4) (hL : L.length + 2 ≤ 40)
    (hw : L.filter (isW page) = Ws vs page i) (hg : ∀ m ∈ lostNs L, m < 10 ∨ 30 ≤ m)
    (q : ∀ L' S' y12, LInv S' b n page L' (L.length + 2) → L'.filter (isW page) = Ws vs page (i + 1) → (∀ m ∈ lostNs L', m < 10 ∨ 30 ≤ m) → P (.nx [some (.scr (ns.map D.int)), some (.int kk), some (.loc b), y3, y4, y5, some (.int page), y7, some (.lst (vs.map D.int)), some (.loc n), some (.int i), some (.int v), y12, y13]) S') :
    wpE (B_law_b10 [some (.scr (ns.map D.int)), some (.int kk), some (.loc b), y3, y4, y5, some (.int page), y7, some (.lst (vs.map D.int)), some (.loc n), some (.int i), some (.int v), y12, y13] S) P := by
  obtain ⟨h, hl, ok, bag⟩ := I
  have hlm : (L.map Row.d).length ≤ 40 := by rw [List.length_map]; omega
  have rw_ : D.tup [.int i, .str "wrote", .int (10 + i), .str "bo", .str "a", .int page, .int v] = (rowW vs page i).d := by
    unfold rowW Row.d vD
    rw [List.getD_eq_getElem?_getD, hv]
    rfl
  have fineW : (rowW vs page i).Ok ∧ (rowW vs page i).Fine := ⟨fun _ => ⟨_, rfl⟩, by unfold rowW; exact ⟨by show (0 : Int) ≤ i; omega, by show (0 : Int) ≤ 10 + i; omega, .inr (.inr (.inl rfl)), .inr (.inl rfl), .inl rfl, pg0, by show page ≤ 3; omega⟩⟩
  unfold B_law_b10
  walk_at "ev"
  rw [rw_, map_snoc]
  refine wp_row (bag.put ne) fun r S1 ro rf f1 => ?_
  have h1 := f1.keep _ _ ne (set_at h)
  have ok1 : ∀ u ∈ L ++ [rowW vs page i], u.Ok ∧ u.Fine := fun u hu => by
    rcases List.mem_append.mp hu with z | z
    · exact ok u z
    · rw [List.mem_singleton.mp z]; exact fineW
  have w1 : (L ++ [rowW vs page i]).filter (isW page) = Ws vs page (i + 1) := by
    rw [List.filter_append, hw, Ws_snoc, List.filter_cons, isW_row]
    rfl
  have g1 : ∀ m ∈ lostNs (L ++ [rowW vs page i]), m < 10 ∨ 30 ≤ m := fun m hm => by
    obtain ⟨u, hu, e, e2⟩ := mem_lost.mp hm
    rcases List.mem_append.mp hu with z | z
    · exact hg m (mem_lost.mpr ⟨u, z, e, e2⟩)
    · rw [List.mem_singleton.mp z] at e
      exact absurd (show (("wrote" : Str) = "lost") from e) (by decide)
  have l1 : (L ++ [rowW vs page i]).length = L.length + 1 := by simp
  generalize L ++ [rowW vs page i] = M at h1 ok1 w1 g1 l1
  have Mlm : (M.map Row.d).length = L.length + 1 := by rw [List.length_map]; exact l1
  walk_at "ev"
  rw [row_4]
  walk_at "ev"
  rw [row_5]
  walk_at "ev"
  rw [neV_tsi]
  walk_at "ev"
  cases c1 : (r.f == ("a" : Str) && r.p == page) with
  | true =>
    walk_at "ev"
    exact q M S1 _ ⟨h1, by omega, ok1, f1.bag⟩ w1 g1
  | false =>
    walk_at "ev"
    rw [row_2]
    walk_at "ev"
    by_cases c2 : 10 ≤ r.n
    · simp only [c2, decide_true]
      walk_at "ev"
      by_cases c3 : r.n < 30
      · simp only [c3, decide_true]
        walk_at "ev"
        exact q M S1 _ ⟨h1, by omega, ok1, f1.bag⟩ w1 g1
      simp only [c3, decide_false]
      walk_at "ev"
      refine wp_take f1.bag (by omega) (by omega) fun u S2 u0 u1 f2 => ?_
      have h2 := f2.keep _ _ ne h1
      walk_at "ev"
      rw [insV_rows h2 (by omega) u0 (by omega)]
      walk_at "ev"
      refine q (putIn M u.toNat r) _ _ ⟨set_at h2, by rw [putIn_len]; omega, fun z hz => (putIn_mem.mp hz).elim (fun e => by rw [e]; exact ⟨ro, rf⟩) (ok1 z), f2.bag.put ne⟩ (by rw [putIn_filter (by unfold isW; rw [c1]; exact Bool.and_false _)]; exact w1) fun m hm => ?_
      obtain ⟨z, hz, e, e2⟩ := mem_lost.mp hm
      rcases putIn_mem.mp hz with e3 | hz
      · rw [e3] at e2
        omega
      · exact g1 m (mem_lost.mpr ⟨z, hz, e, e2⟩)
    · simp only [c2, decide_false]
      walk_at "ev"
      refine wp_take f1.bag (by omega) (by omega) fun u S2 u0 u1 f2 => ?_
      have h2 := f2.keep _ _ ne h1
      walk_at "ev"
      rw [insV_rows h2 (by omega) u0 (by omega)]
      walk_at "ev"
      refine q (putIn M u.toNat r) _ _ ⟨set_at h2, by rw [putIn_len]; omega, fun z hz => (putIn_mem.mp hz).elim (fun e => by rw [e]; exact ⟨ro, rf⟩) (ok1 z), f2.bag.put ne⟩ (by rw [putIn_filter (by unfold isW; rw [c1]; exact Bool.and_false _)]; exact w1) fun m hm => ?_
      obtain ⟨z, hz, e, e2⟩ := mem_lost.mp hm
      rcases putIn_mem.mp hz with e3 | hz
      · rw [e3] at e2
        omega
      · exact g1 m (mem_lost.mpr ⟨z, hz, e, e2⟩)
/-- a turn of losing -/
theorem wp_lose {ns : List Int} {kk b n c m : Nat} {page : Int} {vs : List Int} {L : List Row} {S : Store} {y3 y4 y5 y7 y11 y12 y13 : Option D} {P : Fl → Store → Prop} (I : LInv S b n page L m) (hm : m ≤ 100) (ne : n ≠ b) (pg0 : 0 ≤ page) (pg1 : page < 4) (hc : c < vs.length)
    (hw : L.filter (isW page) = Ws vs page vs.length) (hg : ∀ j : Nat, j < vs.length → ((10 + (j : Int)) ∈ lostNs L ↔ c + 1 ≤ j))
    (q : ∀ L' S', LInv S' b n page L' (m + 1) → L'.filter (isW page) = Ws vs page vs.length → (∀ j : Nat, j < vs.length → ((10 + (j : Int)) ∈ lostNs L' ↔ c ≤ j)) → P (.nx [some (.scr (ns.map D.int)), some (.int kk), some (.loc b), y3, y4, y5, some (.int page), y7, some (.lst (vs.map D.int)), some (.loc n), some (.int c), y11, y12, y13]) S') :
    wpE (B_law_b11 [some (.scr (ns.map D.int)), some (.int kk), some (.loc b), y3, y4, y5, some (.int page), y7, some (.lst (vs.map D.int)), some (.loc n), some (.int c), y11, y12, y13] S) P := by
  obtain ⟨h, hl, ok, bag⟩ := I
  have tv : truthI L "a" page = vs.getD c 0 := by
    rw [truth_at (c := c + 1) hw hg hc, if_neg (by omega)]
    rfl
  have av : atI (vs.map D.int) (c : Int) = some (.int (vs.getD c 0)) := by
    rw [atI_nat', List.getElem?_map, List.getD_eq_getElem?_getD, List.getElem?_eq_getElem hc]
    rfl
  unfold B_law_b11
  walk_at "ev"
  refine wp_truth (.inr ⟨n, rfl, h⟩) (fun r hr => (ok r hr).1) (by omega) fun S1 k1 => ?_
  have h1 := k1.keep _ _ h
  have bag1 := k1.bag bag
  have lm : (L.map Row.d).length ≤ m := by rw [List.length_map]; exact hl
  walk_at "ev"
  rw [av, tv]
  walk_at "ev"
  refine wp_take bag1 (by omega) (by omega) fun u S2 u0 u1 f2 => ?_
  have h2 := f2.keep _ _ ne h1
  walk_at "ev"
  rw [av]
  walk_at "ev"
  have re : D.tup [.int 40, .str "lost", .int (10 + c), .str "bo", .str "a", .int page, .int (vs.getD c 0)] = (⟨40, "lost", 10 + c, "bo", "a", page, some (vs.getD c 0)⟩ : Row).d := rfl
  rw [re, insV_rows h2 (by omega) u0 (by omega)]
  walk_at "ev"
  refine q (putIn L u.toNat ⟨40, "lost", 10 + c, "bo", "a", page, some (vs.getD c 0)⟩) _ ⟨set_at h2, by rw [putIn_len]; omega, fun z hz => (putIn_mem.mp hz).elim (fun e => ?_) (ok z), f2.bag.put ne⟩ (by rw [putIn_filter (by unfold isW; rfl)]; exact hw) fun j hj => ?_
  · rw [e]
    exact ⟨fun _ => ⟨_, rfl⟩, ⟨by show (0 : Int) ≤ 40; decide, by show (0 : Int) ≤ 10 + c; omega, .inr (.inr (.inr rfl)), .inr (.inl rfl), .inl rfl, pg0, by show page ≤ 3; omega⟩⟩
  · rw [mem_lost]
    constructor
    · rintro ⟨z, hz, e, e2⟩
      rcases putIn_mem.mp hz with e3 | hz
      · rw [e3] at e2
        have : (10 + (c : Int)) = 10 + j := e2
        omega
      · have := (hg j hj).mp (mem_lost.mpr ⟨z, hz, e, e2⟩)
        omega
    · intro hcj
      by_cases e : j = c
      · subst e
        exact ⟨_, putIn_mem.mpr (.inl rfl), rfl, rfl⟩
      · obtain ⟨z, hz, e, e2⟩ := mem_lost.mp ((hg j hj).mpr (by omega))
        exact ⟨z, putIn_mem.mpr (.inr hz), e, e2⟩
theorem main (ns : List Int) (hl : ns.length ≤ 63) : ∃ S', F_law [.scr (ns.map D.int)] [] = .ok (.bl true) S' := by
  refine wp_done ?_
  unfold F_law B_law
  walk_at "ev"
  refine wp_for (fun _ st _ => ∃ x1 x2 x3 x4 x5 x6 x7 x8 x9 x10 x11 x12 x13 : Option D, st = [some (.scr (ns.map D.int)), x1, x2, x3, x4, x5, x6, x7, x8, x9, x10, x11, x12, x13]) ⟨_, _, _, _, _, _, _, _, _, _, _, _, _, rfl⟩ ?_ ?_
  · rintro kk x st S hx ⟨x1, x2, x3, x4, x5, x6, x7, x8, x9, x10, x11, x12, x13, rfl⟩
    obtain ⟨_, rfl⟩ := rangeD_get hx
    refine ⟨held_nil, ?_⟩
    unfold B_law_b12
    walk_at "ev"
    refine wp_bag fun b S1 _ bag _ _ => ?_
    walk_at "ev"
    refine wp_take bag (by decide) (by decide) fun m1 S2 _ _ f2 => ?_
    walk_at "ev"
    refine wp_drawn f2.bag (by omega) (by omega) (fun i S' => by unfold B_law_g1 B_law_t2 B_law_e3; walk_at "ev") fun rs S3 h3 l3 bag3 => ?_
    walk_at "ev"
    refine wp_take bag3 (by decide) (by decide) fun m2 S4 _ _ f4 => ?_
    walk_at "ev"
    refine wp_drawn f4.bag (by omega) (by omega) (fun i S' => by unfold B_law_g4 B_law_t5 B_law_e6; walk_at "ev") fun ms S5 h5 l5 bag5 => ?_
    walk_at "ev"
    have ok3 : ∀ r ∈ rs, r.Ok := fun r h => (h3 r h).1
    refine wp_first (.inl rfl) ok3 (by omega) fun S6 k6 => ?_
    have bag6 := k6.bag bag5
    walk_at "ev"
    refine wp_use (Q := fun k S' => k = false ∧ Keep S6 S') ?_ ?_
    · cases hd : (staleL rs).head? with
      | none =>
        unfold vD
        walk_at "ev"
        exact Keep.refl
      | some v =>
        unfold vD
        walk_at "ev"
        rw [addV_ll (by rw [List.length_map, List.length_map]; omega), ← List.map_append]
        walk_at "ev"
        refine wp_first (.inl rfl) (fun r h => (List.mem_append.mp h).elim (ok3 r) fun h => (h5 r h).1) (by rw [List.length_append]; omega) fun S7 k7 => ?_
        walk_at "ev"
        rw [stale_more hd]
        unfold vD
        walk_at "ev"
        exact k7
    rintro _ S7 ⟨rfl, k7⟩
    have bag7 := k7.bag bag6
    walk_at "ev"
    refine wp_take bag7 (by decide) (by decide) fun page S8 pg0 pg1 f8 => ?_
    walk_at "ev"
    refine wp_first (.inl rfl) ok3 (by omega) fun S9 k9 => ?_
    have bag9 := k9.bag f8.bag
    walk_at "ev"
    refine wp_use (Q := fun fl S' => Keep S9 S' ∧ ∃ y7, fl = .nx [some (.scr (ns.map D.int)), some (.int kk), some (.loc b), some (.lst (rs.map Row.d)), some (.lst (ms.map Row.d)), some (vD (staleL rs).head?), some (.int page), y7, x8, x9, x10, x11, x12, x13]) (wp_ite (fun hd => ?_) fun hd => ?_) ?_
    · have hd : (staleL rs).head? = none := by
        cases e : (staleL rs).head? with
        | none => rfl
        | some v => rw [e] at hd; cases hd
      refine wp_truth (.inl rfl) ok3 (by omega) fun S10 k10 => ?_
      have okl : ∀ t : Int, ∀ r ∈ rs ++ [(⟨99, "read", 77, "ann", "a", page, some t⟩ : Row)], r.Ok := fun t r hr => by
        rcases List.mem_append.mp hr with z | z
        · exact ok3 r z
        · rw [List.mem_singleton.mp z]; exact fun _ => ⟨_, rfl⟩
      have al : ∀ (t : Int) (S : Store), addV (.lst (rs.map Row.d)) (.lst [.tup [.int 99, .str "read", .int 77, .str "ann", .str "a", .int page, .int t]]) S = .ok (.lst ((rs ++ [(⟨99, "read", 77, "ann", "a", page, some t⟩ : Row)]).map Row.d)) S := fun t S => by
        rw [addV_ll (by rw [List.length_map]; simp only [List.length_cons, List.length_nil]; omega), ← map_snoc]
        rfl
      walk_at "ev"
      rw [al]
      walk_at "ev"
      refine wp_first (.inl rfl) (okl _) (by simp; omega) fun S11 k11 => ?_
      have s1 : (staleL (rs ++ [(⟨99, "read", 77, "ann", "a", page, some (truthI rs "a" page)⟩ : Row)])).head? = none := by
        rw [stale_one hd]
        unfold staleB
        rw [List.take_length]
        simp
      rw [s1]
      unfold vD
      walk_at "ev"
      rw [cut06]
      walk_at "ev"
      rw [al]
      walk_at "ev"
      refine wp_first (.inl rfl) (okl _) (by simp; omega) fun S12 k12 => ?_
      have s2 : (staleL (rs ++ [(⟨99, "read", 77, "ann", "a", page, some (truthI rs "a" page + 1)⟩ : Row)])).head? = some 77 := by
        rw [stale_one hd]
        unfold staleB
        rw [List.take_length]
        simp
        omega
      rw [s2]
      unfold vD
      walk_at "ev"
      exact ⟨(k10.trans k11).trans k12, _, rfl⟩
    · exact wpE_ok_i ⟨.refl, _, rfl⟩
    rintro _ S10 ⟨k10, y7, rfl⟩
    have bag10 := k10.bag bag9
    walk_at "ev"
    refine wp_take bag10 (by decide) (by decide) fun m3 S11 _ _ f11 => ?_
    walk_at "ev"
    refine wp_lc (s := ⟨rangeD 0 (1 + m3).toNat, []⟩) (fun i acc S' => ∃ vs : List Int, acc = vs.map D.int ∧ vs.length = i ∧ BagAt S' b) ⟨[], rfl, rfl, f11.bag⟩ ?_ ?_
    · rintro i x acc S' hx ⟨vs, rfl, h2, h4⟩
      obtain ⟨hi, rfl⟩ := rangeD_get hx
      refine ⟨held_nil, by rw [List.length_map]; omega, ?_⟩
      unfold B_law_g7 B_law_t8 B_law_e9
      walk_at "ev"
      refine wp_take h4 (by decide) (by decide) fun v S2 _ _ f => ?_
      walk_at "ev"
      exact ⟨vs ++ [1 + v], by simp, by simp [h2], f.bag⟩
    rintro _ S12 ⟨vs, rfl, lv, bag12⟩
    have lv : vs.length ≤ 12 := by
      rw [lv]
      show (rangeD 0 (1 + m3).toNat).length ≤ 12
      rw [rangeD_len]
      omega
    refine ⟨held_nil, ?_⟩
    walk_at "ev"
    have ne : S12.length ≠ b := by
      have := bag12.lt
      omega
    have bag13 := (Fr.app (T := [.lst []]) bag12).bag
    have hS13 : (S12 ++ [O.lst []])[S12.length]? = some (.lst (([] : List Row).map Row.d)) := app_at
    generalize S12 ++ [O.lst []] = S13 at bag13 hS13 ⊢
    generalize S12.length = n at ne hS13 ⊢
    refine wp_for (s := ⟨enumL (vs.map D.int), []⟩) (fun i st S' => ∃ L, LInv S' b n page L (2 * i) ∧ L.filter (isW page) = Ws vs page i ∧ (∀ m ∈ lostNs L, m < 10 ∨ 30 ≤ m) ∧ ∃ y10 y11 y12 y13, st = [some (.scr (ns.map D.int)), some (.int kk), some (.loc b), some (.lst (rs.map Row.d)), some (.lst (ms.map Row.d)), some (vD (staleL rs).head?), some (.int page), y7, some (.lst (vs.map D.int)), some (.loc n), y10, y11, y12, y13]) ⟨[], ⟨hS13, Nat.le_refl _, fun _ h => absurd h (by simp), bag13⟩, rfl, fun _ h => absurd h (by simp [lostNs]), _, _, _, _, rfl⟩ ?_ ?_
    · rintro i x st S' hx ⟨L, I, hw, hg, y10, y11, y12, y13, rfl⟩
      obtain ⟨z, hz, rfl⟩ := enumL_get hx
      rw [List.getElem?_map] at hz
      obtain ⟨v, hv, rfl⟩ := Option.map_eq_some_iff.mp hz
      have iv : i < vs.length := (List.getElem?_eq_some_iff.mp hv).1
      have lL := I.len
      refine ⟨held_nil, ?_⟩
      walk_at "ev"
      refine wp_write ⟨I.at_, by omega, I.ok, I.bag⟩ ne hv pg0 pg1 (by omega) hw hg fun L' S2 y12 I2 hw2 hg2 => ?_
      exact ⟨L', ⟨I2.at_, Nat.le_trans I2.len (by omega), I2.ok, I2.bag⟩, hw2, hg2, _, _, _, _, rfl⟩
    rintro st S14 ⟨L, I, hw, hg, y10, y11, y12, y13, rfl⟩
    have el : (Src.mk (enumL (vs.map D.int)) []).xs.length = vs.length := by
      show (enumL (vs.map D.int)).length = _
      rw [enumL_len, List.length_map]
    rw [el] at I hw
    refine ⟨held_nil, ?_⟩
    have vl : (vs.map D.int).length = vs.length := List.length_map _
    walk_at "ev"
    rw [vl]
    have dn : ((vs.length : Int) - 1 - -1).toNat = vs.length := by omega
    rw [dn]
    refine wp_for (s := ⟨downD ((vs.length : Int) - 1) vs.length, []⟩) (fun i st S' => ∃ L, LInv S' b n page L (24 + i) ∧ L.filter (isW page) = Ws vs page vs.length ∧ (∀ j : Nat, j < vs.length → ((10 + (j : Int)) ∈ lostNs L ↔ vs.length - i ≤ j)) ∧ ∃ y10 y11 y12 y13, st = [some (.scr (ns.map D.int)), some (.int kk), some (.loc b), some (.lst (rs.map Row.d)), some (.lst (ms.map Row.d)), some (vD (staleL rs).head?), some (.int page), y7, some (.lst (vs.map D.int)), some (.loc n), y10, y11, y12, y13]) ⟨L, ⟨I.at_, Nat.le_trans I.len (by omega), I.ok, I.bag⟩, hw, fun j hj => ⟨fun h => by have := hg _ h; omega, fun h => by omega⟩, _, _, _, _, rfl⟩ ?_ ?_
    · rintro i x st S' hx ⟨L, I, hw, hg, y10, y11, y12, y13, rfl⟩
      obtain ⟨hi, rfl⟩ := downD_get hx
      refine ⟨held_nil, ?_⟩
      have e : (vs.length : Int) - 1 + (i : Int) * (-1) = ((vs.length - 1 - i : Nat) : Int) := by omega
      rw [e]
      walk_at "ev"
      refine wp_lose (c := vs.length - 1 - i) (m := 24 + i) I (by omega) ne pg0 pg1 (by omega) hw (fun j hj => (hg j hj).trans (by omega)) fun L' S2 I2 hw2 hg2 => ?_
      exact ⟨L', ⟨I2.at_, Nat.le_trans I2.len (by omega), I2.ok, I2.bag⟩, hw2, fun j hj => (hg2 j hj).trans (by omega), _, _, _, _, rfl⟩
    rintro st S15 ⟨L, I, hw, hg, y10, y11, y12, y13, rfl⟩
    rw [show (Src.mk (downD ((vs.length : Int) - 1) vs.length) []).xs.length = vs.length from downD_len] at I hg
    refine ⟨held_nil, ?_⟩
    have lL := I.len
    walk_at "ev"
    refine wp_truth (.inr ⟨n, rfl, I.at_⟩) (fun r hr => (I.ok r hr).1) (by omega) fun S16 k16 => ?_
    have t0 : truthI L "a" page = 0 := by
      rw [truth_at (c := 0) hw (fun j hj => (hg j hj).trans (by omega)) (Nat.zero_le _)]
      rfl
    rw [t0]
    walk_at "ev"
    rw [islog_eq (k16.keep _ _ I.at_) I.ok (by omega)]
    walk_at "ev"
    exact ⟨_, _, _, _, _, _, _, _, _, _, _, _, _, rfl⟩
  · rintro st S ⟨x1, x2, x3, x4, x5, x6, x7, x8, x9, x10, x11, x12, x13, rfl⟩
    refine ⟨held_nil, ?_⟩
    walk_at "ev"
variable {K : PySem.W.Frag}
/-! ### the end (printed by wip/gen.py) -/
theorem all_mk {l : PySem.W.OpenLaw} {w : World} {K : PySem.W.Frag} {h : Heap} {mg : Str → Option Value} {fa : Addr} (X : K.In h) (G : h.Ns mainGlobals mg) (hfa : mg "law" = some (.ref fa))
    {f1 f2 f3 f4 f5 f6 f7 f8 f9 f10 f11 : Addr} {od1 an1 od2 an2 od3 an3 od4 an4 od5 an5 od6 an6 od7 an7 od8 an8 od9 an9 od10 an10 od11 an11 : Option Addr} {sl1 sl2 sl3 sl4 sl5 sl6 sl7 sl8 sl9 sl10 sl11 : Array (Option Value)} {oc1 kV1 dc1 pm1 cd1 ct1 oc2 kV2 dc2 pm2 cd2 ct2 oc3 kV3 dc3 pm3 cd3 ct3 oc4 kV4 dc4 pm4 cd4 ct4 oc5 kV5 dc5 pm5 cd5 ct5 oc6 kV6 dc6 pm6 cd6 ct6 oc7 kV7 dc7 pm7 cd7 ct7 oc8 kV8 dc8 pm8 cd8 ct8 oc9 kV9 dc9 pm9 cd9 ct9 oc10 kV10 dc10 pm10 cd10 ct10 oc11 kV11 dc11 pm11 cd11 ct11 : Value}
    (a1 : PySem.W.nsIn K mainGlobals "is_whole" = some (some (.ref f1)))
    (l1 : K.lookup f1 = some ⟨oc1, od1, .func (PySem.W.fnOf "is_whole" "is_whole" (defArgs s_is_whole) (defBody s_is_whole) (defScope s_is_whole) .none kV1 dc1 pm1 an1 cd1 ct1), sl1⟩)
    (c1 : PySem.W.codeIn K cd1 "is_whole" = true)
    (k1_ : PySem.W.keepIn K (.ref f1) = true)
    (a2 : PySem.W.nsIn K mainGlobals "is_within" = some (some (.ref f2)))
    (l2 : K.lookup f2 = some ⟨oc2, od2, .func (PySem.W.fnOf "is_within" "is_within" (defArgs s_is_within) (defBody s_is_within) (defScope s_is_within) .none kV2 dc2 pm2 an2 cd2 ct2), sl2⟩)
    (c2 : PySem.W.codeIn K cd2 "is_within" = true)
    (k2_ : PySem.W.keepIn K (.ref f2) = true)
    (a3 : PySem.W.nsIn K mainGlobals "is_name" = some (some (.ref f3)))
    (l3 : K.lookup f3 = some ⟨oc3, od3, .func (PySem.W.fnOf "is_name" "is_name" (defArgs s_is_name) (defBody s_is_name) (defScope s_is_name) .none kV3 dc3 pm3 an3 cd3 ct3), sl3⟩)
    (c3 : PySem.W.codeIn K cd3 "is_name" = true)
    (k3_ : PySem.W.keepIn K (.ref f3) = true)
    (a4 : PySem.W.nsIn K mainGlobals "is_log_row" = some (some (.ref f4)))
    (l4 : K.lookup f4 = some ⟨oc4, od4, .func (PySem.W.fnOf "is_log_row" "is_log_row" (defArgs s_is_log_row) (defBody s_is_log_row) (defScope s_is_log_row) .none kV4 dc4 pm4 an4 cd4 ct4), sl4⟩)
    (c4 : PySem.W.codeIn K cd4 "is_log_row" = true)
    (k4_ : PySem.W.keepIn K (.ref f4) = true)
    (a5 : PySem.W.nsIn K mainGlobals "is_log" = some (some (.ref f5)))
    (l5 : K.lookup f5 = some ⟨oc5, od5, .func (PySem.W.fnOf "is_log" "is_log" (defArgs s_is_log) (defBody s_is_log) (defScope s_is_log) .none kV5 dc5 pm5 an5 cd5 ct5), sl5⟩)
    (c5 : PySem.W.codeIn K cd5 "is_log" = true)
    (k5_ : PySem.W.keepIn K (.ref f5) = true)
    (a6 : PySem.W.nsIn K mainGlobals "truth" = some (some (.ref f6)))
    (l6 : K.lookup f6 = some ⟨oc6, od6, .func (PySem.W.fnOf "truth" "truth" (defArgs s_truth) (defBody s_truth) (defScope s_truth) .none kV6 dc6 pm6 an6 cd6 ct6), sl6⟩)
    (c6 : PySem.W.codeIn K cd6 "truth" = true)
    (k6_ : PySem.W.keepIn K (.ref f6) = true)
    (a7 : PySem.W.nsIn K mainGlobals "first_stale" = some (some (.ref f7)))
    (l7 : K.lookup f7 = some ⟨oc7, od7, .func (PySem.W.fnOf "first_stale" "first_stale" (defArgs s_first_stale) (defBody s_first_stale) (defScope s_first_stale) .none kV7 dc7 pm7 an7 cd7 ct7), sl7⟩)
    (c7 : PySem.W.codeIn K cd7 "first_stale" = true)
    (k7_ : PySem.W.keepIn K (.ref f7) = true)
    (a8 : PySem.W.nsIn K mainGlobals "_law_bag" = some (some (.ref f8)))
    (l8 : K.lookup f8 = some ⟨oc8, od8, .func (PySem.W.fnOf "_law_bag" "_law_bag" (defArgs s_law_bag) (defBody s_law_bag) (defScope s_law_bag) .none kV8 dc8 pm8 an8 cd8 ct8), sl8⟩)
    (c8 : PySem.W.codeIn K cd8 "_law_bag" = true)
    (k8_ : PySem.W.keepIn K (.ref f8) = true)
    (a9 : PySem.W.nsIn K mainGlobals "_law_take" = some (some (.ref f9)))
    (l9 : K.lookup f9 = some ⟨oc9, od9, .func (PySem.W.fnOf "_law_take" "_law_take" (defArgs s_law_take) (defBody s_law_take) (defScope s_law_take) .none kV9 dc9 pm9 an9 cd9 ct9), sl9⟩)
    (c9 : PySem.W.codeIn K cd9 "_law_take" = true)
    (k9_ : PySem.W.keepIn K (.ref f9) = true)
    (a10 : PySem.W.nsIn K mainGlobals "_law_log_row" = some (some (.ref f10)))
    (l10 : K.lookup f10 = some ⟨oc10, od10, .func (PySem.W.fnOf "_law_log_row" "_law_log_row" (defArgs s_law_log_row) (defBody s_law_log_row) (defScope s_law_log_row) .none kV10 dc10 pm10 an10 cd10 ct10), sl10⟩)
    (c10 : PySem.W.codeIn K cd10 "_law_log_row" = true)
    (k10_ : PySem.W.keepIn K (.ref f10) = true)
    (a11 : PySem.W.nsIn K mainGlobals "law" = some (some (.ref f11)))
    (l11 : K.lookup f11 = some ⟨oc11, od11, .func (PySem.W.fnOf "law" "law" (defArgs s_law) (defBody s_law) (defScope s_law) .none kV11 dc11 pm11 an11 cd11 ct11), sl11⟩)
    (c11 : PySem.W.codeIn K cd11 "law" = true)
    (k11_ : PySem.W.keepIn K (.ref f11) = true)
    {tc_LETTERS : Tok} (co_LETTERS : PySem.W.nsIn K mainGlobals "LETTERS" = some (some (Value.str "abcdefghijklmnopqrstuvwxyz" tc_LETTERS)))
    {tc_MOST_ROWS : Tok} (co_MOST_ROWS : PySem.W.nsIn K mainGlobals "MOST_ROWS" = some (some (Value.int 1000 tc_MOST_ROWS)))
    {at_WORDS : Addr} {ot_WORDS : Option Addr} {nt_WORDS : Nat} {st_WORDS : Array (Option Value)} {tt_WORDS_0 tt_WORDS_1 tt_WORDS_2 tt_WORDS_3 : Tok}
    (ct_WORDS : PySem.W.nsIn K mainGlobals "WORDS" = some (some (.ref at_WORDS)))
    (lt_WORDS : K.lookup at_WORDS = some ⟨.type "tuple", ot_WORDS, .seq #[.str "began" tt_WORDS_0, .str "read" tt_WORDS_1, .str "wrote" tt_WORDS_2, .str "lost" tt_WORDS_3] nt_WORDS, st_WORDS⟩)
    (z_len : PySem.W.nsIn K mainGlobals "len" = some none)
    (z_abs : PySem.W.nsIn K mainGlobals "abs" = some none)
    (z_enumerate : PySem.W.nsIn K mainGlobals "enumerate" = some none)
    (z_bool : PySem.W.nsIn K mainGlobals "bool" = some none)
    (z_isinstance : PySem.W.nsIn K mainGlobals "isinstance" = some none)
    (z_int : PySem.W.nsIn K mainGlobals "int" = some none)
    (z_all : PySem.W.nsIn K mainGlobals "all" = some none)
    (z_str : PySem.W.nsIn K mainGlobals "str" = some none)
    (z_tuple : PySem.W.nsIn K mainGlobals "tuple" = some none)
    (z_list : PySem.W.nsIn K mainGlobals "list" = some none)
    (z_min : PySem.W.nsIn K mainGlobals "min" = some none)
    (z_range : PySem.W.nsIn K mainGlobals "range" = some none) :
    ∃ fd : FuncData, (∀ (s : Shared) (v : Value), BindsTo s fd ⟨[v], []⟩ [("script", v)]) ∧ ∀ base : Heap, K.In base → base.Ns mainGlobals mg → FnOk l.prog w K mg base (CX l.prog w) 5 fa fd ["script"] (spD K cm 1 F_law) := by
  have e := hfa.symm.trans (PySem.W.mg_of X G a11)
  cases e
  have F1 : FunD K "is_whole" "is_whole" (defArgs s_is_whole) (defBody s_is_whole) (defScope s_is_whole) [] [] f1 _ := ⟨⟨oc1, od1, .none, _, dc1, pm1, an1, cd1, ct1, sl1, rfl, l1, c1, .inl ⟨rfl, rfl⟩, .inl rfl⟩, k1_⟩
  have b1 : Binds K _ ["thing"] [] := F1.bindsN fun _ _ _ _ _ _ us hl => match us, hl with | [_], _ => rfl
  have F2 : FunD K "is_within" "is_within" (defArgs s_is_within) (defBody s_is_within) (defScope s_is_within) [] [] f2 _ := ⟨⟨oc2, od2, .none, _, dc2, pm2, an2, cd2, ct2, sl2, rfl, l2, c2, .inl ⟨rfl, rfl⟩, .inl rfl⟩, k2_⟩
  have b2 : Binds K _ ["thing", "least", "most"] [] := F2.bindsN fun _ _ _ _ _ _ us hl => match us, hl with | [_, _, _], _ => rfl
  have F3 : FunD K "is_name" "is_name" (defArgs s_is_name) (defBody s_is_name) (defScope s_is_name) [] [] f3 _ := ⟨⟨oc3, od3, .none, _, dc3, pm3, an3, cd3, ct3, sl3, rfl, l3, c3, .inl ⟨rfl, rfl⟩, .inl rfl⟩, k3_⟩
  have b3 : Binds K _ ["thing"] [] := F3.bindsN fun _ _ _ _ _ _ us hl => match us, hl with | [_], _ => rfl
  have F4 : FunD K "is_log_row" "is_log_row" (defArgs s_is_log_row) (defBody s_is_log_row) (defScope s_is_log_row) [] [] f4 _ := ⟨⟨oc4, od4, .none, _, dc4, pm4, an4, cd4, ct4, sl4, rfl, l4, c4, .inl ⟨rfl, rfl⟩, .inl rfl⟩, k4_⟩
  have b4 : Binds K _ ["thing"] [] := F4.bindsN fun _ _ _ _ _ _ us hl => match us, hl with | [_], _ => rfl
  have F5 : FunD K "is_log" "is_log" (defArgs s_is_log) (defBody s_is_log) (defScope s_is_log) [] [] f5 _ := ⟨⟨oc5, od5, .none, _, dc5, pm5, an5, cd5, ct5, sl5, rfl, l5, c5, .inl ⟨rfl, rfl⟩, .inl rfl⟩, k5_⟩
  have b5 : Binds K _ ["thing"] [] := F5.bindsN fun _ _ _ _ _ _ us hl => match us, hl with | [_], _ => rfl
  have F6 : FunD K "truth" "truth" (defArgs s_truth) (defBody s_truth) (defScope s_truth) [] [] f6 _ := ⟨⟨oc6, od6, .none, _, dc6, pm6, an6, cd6, ct6, sl6, rfl, l6, c6, .inl ⟨rfl, rfl⟩, .inl rfl⟩, k6_⟩
  have b6 : Binds K _ ["log", "file", "page"] [] := F6.bindsN fun _ _ _ _ _ _ us hl => match us, hl with | [_, _, _], _ => rfl
  have F7 : FunD K "first_stale" "first_stale" (defArgs s_first_stale) (defBody s_first_stale) (defScope s_first_stale) [] [] f7 _ := ⟨⟨oc7, od7, .none, _, dc7, pm7, an7, cd7, ct7, sl7, rfl, l7, c7, .inl ⟨rfl, rfl⟩, .inl rfl⟩, k7_⟩
  have b7 : Binds K _ ["log"] [] := F7.bindsN fun _ _ _ _ _ _ us hl => match us, hl with | [_], _ => rfl
  have F8 : FunD K "_law_bag" "_law_bag" (defArgs s_law_bag) (defBody s_law_bag) (defScope s_law_bag) [] [] f8 _ := ⟨⟨oc8, od8, .none, _, dc8, pm8, an8, cd8, ct8, sl8, rfl, l8, c8, .inl ⟨rfl, rfl⟩, .inl rfl⟩, k8_⟩
  have b8 : Binds K _ ["script", "k"] [] := F8.bindsN fun _ _ _ _ _ _ us hl => match us, hl with | [_, _], _ => rfl
  have F9 : FunD K "_law_take" "_law_take" (defArgs s_law_take) (defBody s_law_take) (defScope s_law_take) [] [] f9 _ := ⟨⟨oc9, od9, .none, _, dc9, pm9, an9, cd9, ct9, sl9, rfl, l9, c9, .inl ⟨rfl, rfl⟩, .inl rfl⟩, k9_⟩
  have b9 : Binds K _ ["bag", "many"] [] := F9.bindsN fun _ _ _ _ _ _ us hl => match us, hl with | [_, _], _ => rfl
  have F10 : FunD K "_law_log_row" "_law_log_row" (defArgs s_law_log_row) (defBody s_law_log_row) (defScope s_law_log_row) [] [] f10 _ := ⟨⟨oc10, od10, .none, _, dc10, pm10, an10, cd10, ct10, sl10, rfl, l10, c10, .inl ⟨rfl, rfl⟩, .inl rfl⟩, k10_⟩
  have b10 : Binds K _ ["bag"] [] := F10.bindsN fun _ _ _ _ _ _ us hl => match us, hl with | [_], _ => rfl
  have F11 : FunD K "law" "law" (defArgs s_law) (defBody s_law) (defScope s_law) [] [] fa _ := ⟨⟨oc11, od11, .none, _, dc11, pm11, an11, cd11, ct11, sl11, rfl, l11, c11, .inl ⟨rfl, rfl⟩, .inl rfl⟩, k11_⟩
  have b11 : Binds K _ ["script"] [] := F11.bindsN fun _ _ _ _ _ _ us hl => match us, hl with | [_], _ => rfl
  let T : Txt K mg := {
    f_is_whole := f1,
    d_is_whole := _,
    F_is_whole := F1,
    g_is_whole := PySem.W.mg_of X G a1,
    b_is_whole := b1,
    f_is_within := f2,
    d_is_within := _,
    F_is_within := F2,
    g_is_within := PySem.W.mg_of X G a2,
    b_is_within := b2,
    f_is_name := f3,
    d_is_name := _,
    F_is_name := F3,
    g_is_name := PySem.W.mg_of X G a3,
    b_is_name := b3,
    f_is_log_row := f4,
    d_is_log_row := _,
    F_is_log_row := F4,
    g_is_log_row := PySem.W.mg_of X G a4,
    b_is_log_row := b4,
    f_is_log := f5,
    d_is_log := _,
    F_is_log := F5,
    g_is_log := PySem.W.mg_of X G a5,
    b_is_log := b5,
    f_truth := f6,
    d_truth := _,
    F_truth := F6,
    g_truth := PySem.W.mg_of X G a6,
    b_truth := b6,
    f_first_stale := f7,
    d_first_stale := _,
    F_first_stale := F7,
    g_first_stale := PySem.W.mg_of X G a7,
    b_first_stale := b7,
    f_law_bag := f8,
    d_law_bag := _,
    F_law_bag := F8,
    g__law_bag := PySem.W.mg_of X G a8,
    b_law_bag := b8,
    f_law_take := f9,
    d_law_take := _,
    F_law_take := F9,
    g__law_take := PySem.W.mg_of X G a9,
    b_law_take := b9,
    f_law_log_row := f10,
    d_law_log_row := _,
    F_law_log_row := F10,
    g__law_log_row := PySem.W.mg_of X G a10,
    b_law_log_row := b10,
    f_law := fa,
    d_law := _,
    F_law := F11,
    g_law := PySem.W.mg_of X G a11,
    b_law := b11,
    c_LETTERS := ⟨_, PySem.W.mg_of X G co_LETTERS⟩,
    c_MOST_ROWS := ⟨_, PySem.W.mg_of X G co_MOST_ROWS⟩,
    t_WORDS := ⟨at_WORDS, PySem.W.mg_of X G ct_WORDS, fun H => .inr ⟨_, _, _, lt_WORDS, rfl, rfl, Nat.le_of_ble_eq_true rfl, .cons ⟨_, rfl⟩ (.cons ⟨_, rfl⟩ (.cons ⟨_, rfl⟩ (.cons ⟨_, rfl⟩ .nil)))⟩⟩,
    z_len := PySem.W.mg_none_of X G z_len,
    z_abs := PySem.W.mg_none_of X G z_abs,
    z_enumerate := PySem.W.mg_none_of X G z_enumerate,
    z_bool := PySem.W.mg_none_of X G z_bool,
    z_isinstance := PySem.W.mg_none_of X G z_isinstance,
    z_int := PySem.W.mg_none_of X G z_int,
    z_all := PySem.W.mg_none_of X G z_all,
    z_str := PySem.W.mg_none_of X G z_str,
    z_tuple := PySem.W.mg_none_of X G z_tuple,
    z_list := PySem.W.mg_none_of X G z_list,
    z_min := PySem.W.mg_none_of X G z_min,
    z_range := PySem.W.mg_none_of X G z_range }
  exact ⟨_, fun s v => F11.bindsA (ps := ["script"]) (fun _ _ _ _ _ _ us hl => match us, hl with | [_], _ => rfl) s [v] rfl, fun base _ _ => ok_law T⟩
end My
open PySem PySem.W PyProof.Rows
set_option maxHeartbeats 0 in
theorem PySem.Challenge.cw_pagelend_k45_whole_logs_made_longer_holds : PySem.Challenge.rw_pagelend_k45_whole_logs_made_longer.Holds := by
  w_on; o_law; k_head; (case hw => w_witness2)
  k_fill
  refine L2.walk_of (l := PySem.Challenge.rw_pagelend_k45_whole_logs_made_longer) (n := 63) (k := 5) (x := "script") (CX := fun w => L2.CX PySem.Challenge.rw_pagelend_k45_whole_logs_made_longer.prog w) (sp := fun _ => My.spD _ (fun _ _ => False) 1 My.F_law) rfl (by decide) rfl ⟨rfl, by decide, by decide⟩ (fun w h Y => PySem.W.kIn_of Y) ?F (fun w H a ns hl hO hS => My.spD_start hO hS (My.main ns hl)) (fun _ _ _ _ _ h => by
    obtain ⟨_, _, _, _, _, _, _, _, _, _, _, _, z⟩ := h
    exact z.elim)
  case F =>
    intro w mg fa h KX G hmg
    refine' My.all_mk KX G hmg ?a1 ?l1 ?c1 ?k1_ ?a2 ?l2 ?c2 ?k2_ ?a3 ?l3 ?c3 ?k3_ ?a4 ?l4 ?c4 ?k4_ ?a5 ?l5 ?c5 ?k5_ ?a6 ?l6 ?c6 ?k6_ ?a7 ?l7 ?c7 ?k7_ ?a8 ?l8 ?c8 ?k8_ ?a9 ?l9 ?c9 ?k9_ ?a10 ?l10 ?c10 ?k10_ ?a11 ?l11 ?c11 ?k11_ ?co_LETTERS ?co_MOST_ROWS ?ct_WORDS ?lt_WORDS ?z_len ?z_abs ?z_enumerate ?z_bool ?z_isinstance ?z_int ?z_all ?z_str ?z_tuple ?z_list ?z_min ?z_range
    (case a1 => k_is)
    (case l1 => k_is)
    (case c1 => k_is)
    (case k1_ => k_is)
    (case a2 => k_is)
    (case l2 => k_is)
    (case c2 => k_is)
    (case k2_ => k_is)
    (case a3 => k_is)
    (case l3 => k_is)
    (case c3 => k_is)
    (case k3_ => k_is)
    (case a4 => k_is)
    (case l4 => k_is)
    (case c4 => k_is)
    (case k4_ => k_is)
    (case a5 => k_is)
    (case l5 => k_is)
    (case c5 => k_is)
    (case k5_ => k_is)
    (case a6 => k_is)
    (case l6 => k_is)
    (case c6 => k_is)
    (case k6_ => k_is)
    (case a7 => k_is)
    (case l7 => k_is)
    (case c7 => k_is)
    (case k7_ => k_is)
    (case a8 => k_is)
    (case l8 => k_is)
    (case c8 => k_is)
    (case k8_ => k_is)
    (case a9 => k_is)
    (case l9 => k_is)
    (case c9 => k_is)
    (case k9_ => k_is)
    (case a10 => k_is)
    (case l10 => k_is)
    (case c10 => k_is)
    (case k10_ => k_is)
    (case a11 => k_is)
    (case l11 => k_is)
    (case c11 => k_is)
    (case k11_ => k_is)
    (case co_LETTERS => k_is)
    (case co_MOST_ROWS => k_is)
    (case ct_WORDS => k_is)
    (case lt_WORDS => k_is)
    (case z_len => k_is)
    (case z_abs => k_is)
    (case z_enumerate => k_is)
    (case z_bool => k_is)
    (case z_isinstance => k_is)
    (case z_int => k_is)
    (case z_all => k_is)
    (case z_str => k_is)
    (case z_tuple => k_is)
    (case z_list => k_is)
    (case z_min => k_is)
    (case z_range => k_is)


import PyProof.Rows.All
import Wide.All
import OpenK.AllK
import Wide.FinOn
import HandS.ForMost
import HandS.Defaults
import HandS.IsInst
import HandS.Wide
import PySem.Challenge.RW_pagelend_k04_the_last_use
set_option Elab.async false
set_option linter.all false
set_option maxRecDepth 100000
set_option maxHeartbeats 8000000
namespace My
open PySem PySem.Spec PyProof.Rows L2

/-! ### one lemma a reading: what is left to show -/
section
variable {K : PySem.W.Frag} {σ : L2.St} {H : Hp} {Q : VK} {nx bk ct : L2.St → Hp → Prop} {rt : VK} {ta tb te tc : TE} {t u c : TT} {ts tr : TS} {r : R2} {v x y : V} {b : Bool} {i j : Int} {A B : Prop}
theorem w_c (q : Q v H) : tC v σ H Q := q
theorem is_var {i : Nat} (q : tVar i σ H Q) : tVar i σ H Q := q
theorem is_asg {i : Nat} {D : Ends} (q : tAsg te (gName i) D σ H) : tAsg te (gName i) D σ H := q
theorem is_gn {i : Nat} {Q : L2.St → Hp → Prop} (q : gName i v σ H Q) : gName i v σ H Q := q
theorem is_aug {i : Nat} {D : Ends} {ti : TIp} (q : tAug i te ti D σ H) : tAug i te ti D σ H := q
theorem w_op (q : ta σ H fun x H1 => tb σ H1 fun y H2 => r x y H2 Q) : tOp r ta tb σ H Q := q
theorem w_un {r : V → Hp → VK → Prop} (q : ta σ H fun x H1 => r x H1 Q) : tUn r ta σ H Q := q
theorem w_I0 {g : Int → Int → V} (q : Q (g i j) H) : rI0 g (.int i) (.int j) H Q := ⟨i, j, rfl, rfl, q⟩
theorem w_I {C : Int → Int → Prop} {g : Int → Int → V} (hc : C i j) (q : Q (g i j) H) : rI C g (.int i) (.int j) H Q := ⟨i, j, rfl, rfl, hc, q⟩
theorem w_U {g : Int → V} (q : Q (g i) H) : rU g (.int i) H Q := ⟨i, rfl, q⟩
theorem w_eq (h : scal x y = true) (q : Q (.bl (decide (x = y))) H) : rEq x y H Q := ⟨h, q⟩
theorem w_ne (h : scal x y = true) (q : Q (.bl (!decide (x = y))) H) : rNe x y H Q := ⟨h, q⟩
theorem w_exbl {P : Bool → Prop} (q : P b) : ∃ k, V.bl b = .bl k ∧ P k := ⟨b, rfl, q⟩
theorem w_test {Q : Bool → Hp → Prop} (q : te σ H fun x H1 => ∃ k, x = .bl k ∧ Q k H1) : tTest te σ H Q := q
theorem w_B {Q : Bool → Hp → Prop} (q : te σ H fun x H1 => ∃ k, x = .bl k ∧ Q k H1) : tB te σ H Q := q
theorem w_and {Q : Bool → Hp → Prop} (q : t σ H fun c H1 => if c = true then u σ H1 Q else Q false H1) : tAnd t u σ H Q := q
theorem w_or {Q : Bool → Hp → Prop} (q : t σ H fun c H1 => if c = true then Q true H1 else u σ H1 Q) : tOr t u σ H Q := q
theorem w_not {Q : Bool → Hp → Prop} (q : t σ H fun c H1 => Q (!c) H1) : tNot t σ H Q := q
theorem w_andV (q : ta σ H fun x H1 => ∃ c, x = .bl c ∧ if c = true then tb σ H1 Q else Q (.bl false) H1) : tAndV ta tb σ H Q := q
theorem w_orV (q : ta σ H fun x H1 => ∃ c, x = .bl c ∧ if c = true then Q (.bl true) H1 else tb σ H1 Q) : tOrV ta tb σ H Q := q
theorem w_notV (q : ta σ H fun x H1 => ∃ c, x = .bl c ∧ Q (.bl (!c)) H1) : tNotV ta σ H Q := q
theorem w_ifE (q : t σ H fun c H1 => if c = true then ta σ H1 Q else tb σ H1 Q) : tIf t ta tb σ H Q := q
theorem w_isN (q : Q (.bl (decide (x = .non))) H) : (fun x y H Q => y = .non ∧ Q (.bl (decide (x = .non))) H : R2) x .non H Q := ⟨rfl, q⟩
theorem w_next (q : nx σ H) : tNext ⟨nx, rt, bk, ct⟩ σ H := q
theorem w_seq (q : ts ⟨tr ⟨nx, rt, bk, ct⟩, rt, bk, ct⟩ σ H) : tSeq ts tr ⟨nx, rt, bk, ct⟩ σ H := q
theorem w_brk (q : bk σ H) : tBreak ⟨nx, rt, bk, ct⟩ σ H := q
theorem w_cont (q : ct σ H) : tCont ⟨nx, rt, bk, ct⟩ σ H := q
theorem w_drop (q : te σ H fun _ H1 => nx σ H1) : tDrop te ⟨nx, rt, bk, ct⟩ σ H := q
theorem w_ret (q : te σ H rt) : tRet te ⟨nx, rt, bk, ct⟩ σ H := q
theorem w_retN (q : rt .non H) : tRetN ⟨nx, rt, bk, ct⟩ σ H := q
theorem w_ifS (q : c σ H fun b H1 => if b = true then ts ⟨nx, rt, bk, ct⟩ σ H1 else tr ⟨nx, rt, bk, ct⟩ σ H1) : tIfS c ts tr ⟨nx, rt, bk, ct⟩ σ H := q
theorem w_asg {g : TG} (q : te σ H fun x H1 => g x σ H1 nx) : tAsg te g ⟨nx, rt, bk, ct⟩ σ H := q
theorem w_sub {to ti : TE} {tset : TSet} {Q : L2.St → Hp → Prop} (q : to σ H fun o H1 => ti σ H1 fun i H2 => tset o i v H2 fun H3 => Q σ H3) : gSub to ti tset v σ H Q := q
theorem w_gNil {Q : L2.St → Hp → Prop} (q : Q σ H) : gNil [] σ H Q := ⟨rfl, q⟩
theorem w_gCons {g : TG} {gs : TGs} {vs : List V} {Q : L2.St → Hp → Prop} (q : g v σ H fun σ1 H1 => gs vs σ1 H1 Q) : gCons g gs (v :: vs) σ H Q := ⟨v, vs, rfl, q⟩
theorem w_gTup {n : Nat} {gs : TGs} {a : Addr} {xs : List V} {Q : L2.St → Hp → Prop} (h : SqT K H a xs) (hn : xs.length = n) (q : gs xs σ H Q) : gTup K n gs (.ref a) σ H Q := ⟨a, xs, rfl, h, hn, q⟩
theorem w_nil {Q : List V → Hp → Prop} (q : Q [] H) : tNil σ H Q := q
theorem w_cons {tr : TA} {Q : List V → Hp → Prop} (q : ta σ H fun x H1 => tr σ H1 fun xs H2 => Q (x :: xs) H2) : tCons ta tr σ H Q := q
theorem w_CB {r : List V → Hp → VK → Prop} {tr : TA} (q : tr σ H fun vs H1 => r vs H1 Q) : tCB r tr σ H Q := q
theorem w_call {sp : Sp} {E : XK} {tr : TA} (q : tr σ H fun vs H1 => sp vs H1 Q E) : tCall sp [] E tr σ H Q := by
  show tr σ H fun vs H1 => sp (vs ++ []) H1 Q E
  simp only [List.append_nil]
  exact q
theorem w_callD {sp : Sp} {dv : V} {dvs : List V} {E : XK} {tr : TA} (q : tr σ H fun vs H1 => sp (vs ++ dv :: dvs) H1 Q E) : tCall sp (dv :: dvs) E tr σ H Q := q
theorem w_callN {n m : Nat} {sp : Sp} {gV : List V → List V → List V} {E : XK} {t tk : TA} (q : t σ H fun vs H1 => tk σ H1 fun zs H2 => vs.length = n ∧ zs.length = m ∧ sp (gV vs zs) H2 Q E) : tCallN n m sp gV E t tk σ H Q := q
theorem w_BM {T : String} {r : V → List V → Hp → VK → Prop} {to : TE} {tr : TA} (q : to σ H fun x H1 => tyV K T x H1 ∧ tr σ H1 fun xs H2 => r x xs H2 Q) : tBM K T r to tr σ H Q := q
theorem w_BM0 {T : String} {r : V → List V → Hp → VK → Prop} {to : TE} (q : to σ H fun x H1 => tyV K T x H1 ∧ r x [] H1 Q) : tBM0 K T r to σ H Q := q
theorem w_sl {r : V → Option Int → Option Int → Hp → VK → Prop} {tl th : TO} (q : te σ H fun x H1 => tl σ H1 fun l H2 => th σ H2 fun u H3 => r x l u H3 Q) : tSl r te tl th σ H Q := q
theorem w_noPart {Q : Option Int → Hp → Prop} (q : Q none H) : tNoPart σ H Q := q
theorem w_part {Q : Option Int → Hp → Prop} (q : te σ H fun x H1 => ∃ i, x = .int i ∧ Q (some i) H1) : tPart te σ H Q := q
theorem w_exint {P : Int → Prop} (q : P i) : ∃ k, V.int i = .int k ∧ P k := ⟨i, rfl, q⟩

/-! ### tests whose answer is known -/
theorem w_yes (e : b = true) (q : A) : if b = true then A else B := by rw [if_pos e]; exact q
theorem w_no (e : b = false) (q : B) : if b = true then A else B := by rw [e, if_neg Bool.false_ne_true]; exact q
theorem w_by (p : b = true → A) (q : b = false → B) : if b = true then A else B := by
  cases b with
  | true => exact w_yes rfl (p rfl)
  | false => exact w_no rfl (q rfl)
theorem w_T (q : A) : if true = true then A else B := by rw [if_pos rfl]; exact q
theorem w_F (q : B) : if false = true then A else B := by rw [if_neg Bool.false_ne_true]; exact q
theorem w_nT (q : B) : if (!true) = true then A else B := w_F q
theorem w_nF (q : A) : if (!false) = true then A else B := w_T q
theorem w_dec {p : Prop} [Decidable p] (h1 : p → A) (h2 : ¬ p → B) : if decide p = true then A else B := w_by (fun e => h1 (of_decide_eq_true e)) fun e => h2 (of_decide_eq_false e)
theorem w_decN {p : Prop} [Decidable p] (h1 : ¬ p → A) (h2 : p → B) : if (!decide p) = true then A else B := by
  by_cases h : p
  · exact w_no (by simp [h]) (h2 h)
  · exact w_yes (by simp [h]) (h1 h)
theorem w_eqI (h1 : i = j → A) (h2 : i ≠ j → B) : if decide (V.int i = V.int j) = true then A else B := w_dec (fun e => h1 (V.int.inj e)) fun e => h2 fun z => e (congrArg V.int z)
theorem w_neI (h1 : i ≠ j → A) (h2 : i = j → B) : if (!decide (V.int i = V.int j)) = true then A else B := w_decN (fun e => h1 fun z => e (congrArg V.int z)) fun e => h2 (V.int.inj e)
/-- both ways come to the same -/
theorem w_any (q : A) : if b = true then A else A := by cases b <;> simpa using q
end

/-! ### the heap -/
/-- p is new behind H, with o -/
structure New (p : Addr) (o : HO) (H H' : Hp) : Prop where
  was : H p = none
  now : H' p = some o
  same : Same H H'
theorem New.mk' {H : Hp} {p : Addr} {o : HO} (h : H p = none) : New p o H (upd H p o) := ⟨h, upd_same, fun b u e => by rw [upd_ne (ne_of_none e h)]; exact e⟩
theorem same_get {H H' : Hp} {a : Addr} {o : HO} (s : Same H H') (h : H a = some o) : H' a = some o := s _ _ h
theorem new_get {H H' : Hp} {a p : Addr} {o u : HO} (s : New p u H H') (h : H a = some o) : H' a = some o := s.same _ _ h
theorem upd_old {H : Hp} {a p : Addr} {o u : HO} (n : H p = none) (h : H a = some o) : upd H p u a = some o := by rw [upd_ne (ne_of_none h n)]; exact h
theorem upd_far {H : Hp} {a p : Addr} {o u : HO} (n : a ≠ p) (h : H a = some o) : upd H p u a = some o := by rw [upd_ne n]; exact h
theorem upd_far' {H : Hp} {a p : Addr} {o u : HO} (n : p ≠ a) (h : H a = some o) : upd H p u a = some o := by rw [upd_ne n.symm]; exact h
theorem New.ne {p a : Addr} {o u : HO} {H H' : Hp} (n : New p o H H') (h : H a = some u) : p ≠ a := fun e => by
  have := n.was
  rw [e, h] at this
  cases this
theorem sqL_of {K : PySem.W.Frag} {H : Hp} {a : Addr} {xs : List V} (h : H a = some (.lst xs)) : SqL K H a xs := .inl (.inl h)
theorem sqT_of {K : PySem.W.Frag} {H : Hp} {a : Addr} {xs : List V} (h : H a = some (.tup xs)) : SqT K H a xs := .inl (.inl h)
/-- a draw has changed the bag at a; all else stands -/
def Bag (H : Hp) (a : Addr) : Prop := ∃ b0 b1 : Int, H a = some (.lst [.int b0, .int b1])
structure Dw (a : Addr) (H H' : Hp) : Prop where
  bag : Bag H' a
  keep : ∀ b o, b ≠ a → H b = some o → H' b = some o
theorem Dw.refl {a : Addr} {H : Hp} (h : Bag H a) : Dw a H H := ⟨h, fun _ _ _ e => e⟩
theorem Dw.trans {a : Addr} {H H1 H2 : Hp} (x : Dw a H H1) (y : Dw a H1 H2) : Dw a H H2 := ⟨y.bag, fun b o n e => y.keep b o n (x.keep b o n e)⟩
theorem Dw.of_same {a : Addr} {H H1 : Hp} (h : Bag H a) (s : Same H H1) : Dw a H H1 := by
  obtain ⟨b0, b1, e⟩ := h
  exact ⟨⟨b0, b1, s _ _ e⟩, fun b o _ e => s b o e⟩
theorem Dw.new {a p : Addr} {o : HO} {H H1 H2 : Hp} (x : Dw a H H1) (n : New p o H1 H2) : Dw a H H2 := x.trans (.of_same x.bag n.same)
theorem Dw.get {a b : Addr} {o : HO} {H H' : Hp} (d : Dw a H H') (n : b ≠ a) (h : H b = some o) : H' b = some o := d.keep b o n h
theorem Dw.tup {a b : Addr} {xs : List V} {H H' : Hp} (h0 : Bag H a) (d : Dw a H H') (h : H b = some (.tup xs)) : H' b = some (.tup xs) := by
  obtain ⟨b0, b1, e⟩ := h0
  exact d.keep b _ (ne_of h e (by intro z; cases z)) h
theorem Bag.same {a : Addr} {H H' : Hp} (h : Bag H a) (s : Same H H') : Bag H' a := by
  obtain ⟨b0, b1, e⟩ := h
  exact ⟨b0, b1, s _ _ e⟩
theorem Bag.mk' {a : Addr} {b0 b1 : Int} {H : Hp} : Bag (upd H a (.lst [.int b0, .int b1])) a := ⟨b0, b1, upd_same⟩
theorem Bag.ne {a p : Addr} {H : Hp} (h : Bag H a) (n : H p = none) : p ≠ a := fun e => by
  obtain ⟨b0, b1, z⟩ := h
  rw [e, z] at n
  cases n
theorem Bag.upd {a p : Addr} {o : HO} {H : Hp} (n : H p = none) (h : Bag H a) : Bag (upd H p o) a := h.same (New.mk' n).same
theorem Bag.mut {a p : Addr} {o : HO} {H : Hp} (n : a ≠ p) (h : Bag H a) : Bag (L2.upd H p o) a := by
  obtain ⟨b0, b1, e⟩ := h
  exact ⟨b0, b1, upd_far n e⟩
theorem Dw.upd {a p : Addr} {o : HO} {H H1 : Hp} (n : H1 p = none) (h : Dw a H H1) : Dw a H (upd H1 p o) := h.new (New.mk' n)
theorem same_upd {p : Addr} {o : HO} {H H1 : Hp} (n : H1 p = none) (h : Same H H1) : Same H (upd H1 p o) := h.trans (New.mk' n).same
theorem same_dw {a : Addr} {H0 H H' : Hp} (d : Dw a H H') (n : H0 a = none) (s : Same H0 H) : Same H0 H' := fun b o e => d.keep b o (ne_of_none e n) (s b o e)
theorem Bag.ne' {a p : Addr} {H : Hp} (n : H p = none) (h : Bag H a) : p ≠ a := h.ne n
theorem same_tr {H H1 H2 : Hp} (b : Same H1 H2) (a : Same H H1) : Same H H2 := a.trans b
theorem dw_tr {x : Addr} {H H1 H2 : Hp} (b : Dw x H1 H2) (a : Dw x H H1) : Dw x H H2 := a.trans b
theorem same_mut {p : Addr} {o : HO} {H H1 : Hp} (n : H p = none) (s : Same H H1) : Same H (upd H1 p o) := fun b u e => by
  rw [upd_ne (ne_of_none e n)]
  exact s b u e
theorem free' {p : Addr} {H H1 : Hp} (n : H1 p = none) (s : Same H H1) : H p = none := s.free n
theorem ne_new {a p : Addr} {o : HO} {H : Hp} (n : H p = none) (h : H a = some o) : a ≠ p := ne_of_none h n
theorem ne_new' {a p : Addr} {o : HO} {H : Hp} (n : H p = none) (h : H a = some o) : p ≠ a := (ne_of_none h n).symm
theorem upd_tl {a p : Addr} {ys xs : List V} {u : HO} {H : Hp} (h0 : H p = some (.lst ys)) (h : H a = some (.tup xs)) : upd H p u a = some (.tup xs) := upd_far (ne_of h h0 (by intro z; cases z)) h
/-- a bag that is new behind H0 -/
theorem Same.dw {a : Addr} {H0 H H' : Hp} (s : Same H0 H) (n : H0 a = none) (d : Dw a H H') : Same H0 H' := fun b o e => d.keep b o (ne_of_none e n) (s b o e)
theorem le_line {n : Nat} (h : Nat.ble n 1000 = true) : n ≤ sizeLine := Nat.le_trans (Nat.le_of_ble_eq_true h) (by decide)
theorem lt_line {n : Nat} (h : Nat.ble n 999 = true) : n < sizeLine := Nat.lt_of_le_of_lt (Nat.le_of_ble_eq_true h) (by decide)
theorem map_int_get {ts : List Int} {k : Nat} {x : V} (h : (ts.map V.int)[k]? = some x) : ∃ t, x = .int t := by
  rw [List.getElem?_map] at h
  cases e : ts[k]? with
  | none => rw [e] at h; cases h
  | some t => rw [e] at h; exact ⟨t, (Option.some.inj h).symm⟩
section
variable {K : PySem.W.Frag} {σ : L2.St} {H : Hp} {Q : VK} {nx bk ct : L2.St → Hp → Prop} {rt : VK} {ta tb te tl : TE} {tr : TA} {ts : TS} {g : TG} {v y : V} {i : Int} {p : Addr} {xs : List V}
theorem w_tup (q : tr σ H fun xs H1 => xs.length ≤ sizeLine ∧ ∀ p, H1 p = none → Q (.ref p) (upd H1 p (.tup xs))) : tTup tr σ H Q := q
theorem w_lst (q : tr σ H fun xs H1 => xs.length ≤ sizeLine ∧ ∀ p, H1 p = none → Q (.ref p) (upd H1 p (.lst xs))) : tLst tr σ H Q := q
theorem w_len {A : Prop} {n : Nat} (h : Nat.ble n 1000 = true) (q : A) : n ≤ sizeLine ∧ A := ⟨le_line h, q⟩
theorem w_tyL {A : Prop} (h : SqL K H p xs) (q : A) : tyV K "list" (.ref p) H ∧ A := ⟨.inl ⟨rfl, _, h⟩, q⟩
theorem w_app (h : H p = some (.lst xs)) (hn : Nat.ble xs.length 999 = true) (q : Q .non (upd H p (.lst (xs ++ [y])))) : rAppend (.ref p) [y] H Q := ⟨p, xs, y, rfl, rfl, h, lt_line hn, q⟩
theorem w_ixL (h : SqL K H p xs) (e : atI xs i = some v) (q : Q v H) : rIxL K (.ref p) (.int i) H Q := ⟨p, xs, i, v, rfl, rfl, h, e, q⟩
theorem w_ixT (h : SqT K H p xs) (e : atI xs i = some v) (q : Q v H) : rIxT K (.ref p) (.int i) H Q := ⟨p, xs, i, v, rfl, rfl, h, e, q⟩
theorem w_setL {Q : Hp → Prop} {j : Nat} (h : H p = some (.lst xs)) (e : ixN xs.length i = some j) (q : Q (upd H p (.lst (xs.set j v)))) : rSetL (.ref p) (.int i) v H Q := ⟨p, xs, i, j, rfl, rfl, h, e, q⟩
theorem w_cat {zs : List V} {p' : Addr} (h : H p = some (.lst xs)) (h2 : H p' = some (.lst zs)) (hn : Nat.ble (xs.length + zs.length) 1000 = true) (q : ∀ l, H l = none → Q (.ref l) (upd H l (.lst (xs ++ zs)))) : rCat (.ref p) (.ref p') H Q :=
  ⟨p, p', xs, zs, rfl, rfl, h, h2, le_line hn, q⟩
theorem w_lenS (h : SqL K H p xs) (q : Q (.int xs.length) H) : (fun vs H Q => ∃ p ys, vs = [.ref p] ∧ (SqL K H p ys ∨ SqT K H p ys) ∧ Q (.int ys.length) H : List V → Hp → VK → Prop) [.ref p] H Q := ⟨p, xs, rfl, .inl h, q⟩
theorem w_abs (q : Q (.int (if i < 0 then -i else i)) H) : (fun xs H Q => ∃ i, xs = [.int i] ∧ Q (.int (if i < 0 then -i else i)) H : List V → Hp → VK → Prop) [.int i] H Q := ⟨i, rfl, q⟩
theorem w_max2 {j : Int} (q : Q (.int (if j > i then j else i)) H) : (fun xs H Q => ∃ i j, xs = [.int i, .int j] ∧ Q (.int (if j > i then j else i)) H : List V → Hp → VK → Prop) [.int i, .int j] H Q := ⟨i, j, rfl, q⟩
theorem w_min2 {j : Int} (q : Q (.int (if j < i then j else i)) H) : (fun xs H Q => ∃ i j, xs = [.int i, .int j] ∧ Q (.int (if j < i then j else i)) H : List V → Hp → VK → Prop) [.int i, .int j] H Q := ⟨i, j, rfl, q⟩
/-- isinstance(x, T) of a built-in T -/
theorem w_isi {x : V} {a T : String} {b : Bool} (ty : TyX K H x (.type a)) (e : kitB a T = some b) (q : Q (.bl b) H) : rIsi K [x, .ty T] H Q := ⟨x, .ty T, .type a, .type T, b, rfl, .ty T, ty, kit_ty e, q⟩
theorem w_ex1I {P : Int → Prop} (q : P i) : ∃ k, [V.int i] = [V.int k] ∧ P k := ⟨i, rfl, q⟩
theorem w_ex2I {j : Int} {P : Int → Int → Prop} (q : P i j) : ∃ k l, [V.int i, V.int j] = [V.int k, V.int l] ∧ P k l := ⟨i, j, rfl, q⟩
theorem w_exLen {P : List V → Prop} (h : SqL K H p xs) (q : P xs) : ∃ a ys, [V.ref p] = [V.ref a] ∧ (SqL K H a ys ∨ SqT K H a ys) ∧ P ys := ⟨p, xs, rfl, .inl h, q⟩
theorem w_exLenT {P : List V → Prop} (h : SqT K H p xs) (q : P xs) : ∃ a ys, [V.ref p] = [V.ref a] ∧ (SqL K H a ys ∨ SqT K H a ys) ∧ P ys := ⟨p, xs, rfl, .inr h, q⟩
/-- loops -/
def LoopG (J : It) (g : TG) (tb : TS) (D : Ends) (σ : L2.St) (H : Hp) : Prop := ∃ W : Nat → Nat → L2.St → Hp → Prop, (∃ m, W 0 m σ H) ∧ ∀ i m σ H, W i m σ H →
  (J.stop i H ∧ D.nx σ H) ∨ (J.go i H ∧ ∃ N : L2.St → Hp → Prop, (∀ σ' H', N σ' H' → ∃ m', m' < m ∧ W (i + 1) m' σ' H') ∧ ∀ x H', J.yld i H x H' → g x σ H' fun σ2 H2 => tb { D with nx := N, ct := N, bk := D.nx } σ2 H2)
theorem w_for {wi : TI} {D : Ends} (q : wi σ H fun J H1 => LoopG J g ts D σ H1) : tFor wi g ts D σ H := q
theorem w_iR1 {R : It → Hp → Prop} (q : tr σ H fun vs H1 => ∃ j : Int, vs = [.int j] ∧ -(2 ^ 62) ≤ j ∧ j < 2 ^ 62 ∧ R (Itr 0 j.toNat) H1) : iRng1 tr σ H R := q
theorem w_iR2 {R : It → Hp → Prop} (q : tr σ H fun vs H1 => ∃ i j : Int, vs = [.int i, .int j] ∧ (-(2 ^ 62) ≤ i ∧ i < 2 ^ 62 ∧ -(2 ^ 62) ≤ j ∧ j < 2 ^ 62) ∧ R (Itr i (j - i).toNat) H1) : iRng2 tr σ H R := q
theorem w_iL {R : It → Hp → Prop} (q : tl σ H fun x H1 => ∃ a, x = .ref a ∧ (∃ xs, SqL K H1 a xs) ∧ R (Itl K a) H1) : iList K tl σ H R := q
theorem w_iT {R : It → Hp → Prop} (q : tl σ H fun x H1 => ∃ a, x = .ref a ∧ (∃ xs, SqT K H1 a xs) ∧ R (Itt K a) H1) : iTup K tl σ H R := q
theorem w_exR1 {P : Int → Prop} (b : -(2 ^ 62) ≤ i ∧ i < 2 ^ 62) (q : P i) : ∃ j : Int, [V.int i] = [.int j] ∧ -(2 ^ 62) ≤ j ∧ j < 2 ^ 62 ∧ P j := ⟨i, rfl, b.1, b.2, q⟩
theorem w_exR2 {j : Int} {P : Int → Int → Prop} (b : -(2 ^ 62) ≤ i ∧ i < 2 ^ 62 ∧ -(2 ^ 62) ≤ j ∧ j < 2 ^ 62) (q : P i j) : ∃ k l : Int, [V.int i, V.int j] = [.int k, .int l] ∧ (-(2 ^ 62) ≤ k ∧ k < 2 ^ 62 ∧ -(2 ^ 62) ≤ l ∧ l < 2 ^ 62) ∧ P k l := ⟨i, j, rfl, b, q⟩
theorem w_exL {P : Addr → Prop} (h : SqL K H p xs) (q : P p) : ∃ a, V.ref p = .ref a ∧ (∃ xs, SqL K H a xs) ∧ P a := ⟨p, rfl, ⟨xs, h⟩, q⟩
theorem w_exT {P : Addr → Prop} (h : SqT K H p xs) (q : P p) : ∃ a, V.ref p = .ref a ∧ (∃ xs, SqT K H a xs) ∧ P a := ⟨p, rfl, ⟨xs, h⟩, q⟩
theorem w_loopR {n : Nat} {lo : Int} (Pv : Nat → L2.St → Hp → Prop) (p0 : Pv 0 σ H) (hs : ∀ (k : Nat) σ' H', k < n → Pv k σ' H' → g (.int (lo + k)) σ' H' fun σ2 H2 => ts ⟨Pv (k + 1), rt, nx, Pv (k + 1)⟩ σ2 H2) (hd : ∀ σ' H', Pv n σ' H' → nx σ' H') :
    LoopG (Itr lo n) g ts ⟨nx, rt, bk, ct⟩ σ H := for_range (lo := lo) (n := n) (D := ⟨nx, rt, bk, ct⟩) Pv p0 hs hd
theorem w_loopR0 {n : Nat} (Pv : Nat → L2.St → Hp → Prop) (p0 : Pv 0 σ H) (hs : ∀ (k : Nat) σ' H', k < n → Pv k σ' H' → g (.int (k : Int)) σ' H' fun σ2 H2 => ts ⟨Pv (k + 1), rt, nx, Pv (k + 1)⟩ σ2 H2) (hd : ∀ σ' H', Pv n σ' H' → nx σ' H') :
    LoopG (Itr 0 n) g ts ⟨nx, rt, bk, ct⟩ σ H := for_range (lo := 0) (n := n) (D := ⟨nx, rt, bk, ct⟩) Pv p0 (fun k σ' H' hk p => by rw [Int.zero_add]; exact hs k σ' H' hk p) hd
theorem w_loopL {a : Addr} (xs : List V) (Pv : Nat → L2.St → Hp → Prop) (p0 : Pv 0 σ H) (hl : ∀ k σ' H', k ≤ xs.length → Pv k σ' H' → SqL K H' a xs) (hs : ∀ k x σ' H', xs[k]? = some x → Pv k σ' H' → g x σ' H' fun σ2 H2 => ts ⟨Pv (k + 1), rt, nx, Pv (k + 1)⟩ σ2 H2)
    (hd : ∀ σ' H', Pv xs.length σ' H' → nx σ' H') : LoopG (Itl K a) g ts ⟨nx, rt, bk, ct⟩ σ H := for_list (K := K) (a := a) (xs := xs) (D := ⟨nx, rt, bk, ct⟩) Pv p0 hl hs hd
theorem w_loopX {a : Addr} {xs : List V} (h : H a = some (.lst xs)) (Pv : List V → Nat → L2.St → Hp → Prop) (p0 : Pv xs 0 σ H) (hl : ∀ k σ' H', Pv xs k σ' H' → SqL K H' a xs) (hs : ∀ k x σ' H', xs[k]? = some x → Pv xs k σ' H' → g x σ' H' fun σ2 H2 => ts ⟨Pv xs (k + 1), rt, nx, Pv xs (k + 1)⟩ σ2 H2)
    (hd : ∀ σ' H', Pv xs xs.length σ' H' → nx σ' H') : LoopG (Itl K a) g ts ⟨nx, rt, bk, ct⟩ σ H := for_list (K := K) (a := a) (xs := xs) (D := ⟨nx, rt, bk, ct⟩) (Pv xs) p0 (fun k σ' H' _ p => hl k σ' H' p) hs hd
theorem w_loopT {a : Addr} (xs : List V) (Pv : Nat → L2.St → Hp → Prop) (p0 : Pv 0 σ H) (hl : ∀ k σ' H', k ≤ xs.length → Pv k σ' H' → SqT K H' a xs) (hs : ∀ k x σ' H', xs[k]? = some x → Pv k σ' H' → g x σ' H' fun σ2 H2 => ts ⟨Pv (k + 1), rt, nx, Pv (k + 1)⟩ σ2 H2)
    (hd : ∀ σ' H', Pv xs.length σ' H' → nx σ' H') : LoopG (Itt K a) g ts ⟨nx, rt, bk, ct⟩ σ H := for_tup (K := K) (a := a) (xs := xs) (D := ⟨nx, rt, bk, ct⟩) Pv p0 hl hs hd
end

/-! ### keyword calls -/
theorem vals_getD : ∀ {vs : List V} {us : List Value} (i : Nat), Vals vs us → RelV (vs.getD i .non) (us.getD i .none)
  | _, _, _, .nil => rfl
  | _, _, 0, .cons h _ => h
  | _ :: vs, _ :: us, i + 1, .cons _ t => by
    rw [List.getD_cons_succ, List.getD_cons_succ]
    exact vals_getD i t
section
variable {K : PySem.W.Frag} {x qual : Str} {params : Arguments} {body : List Stmt} {scope : Scope} {kws : List (Str × V)} {f : Addr} {fd : FuncData} {ps : List Str}
theorem kbinds0 (F : FunD K x qual params body scope [] kws f fd) (n : Nat) (ks : List Str) (ms : List (Str × V)) (g : {α : Type} → α → List α → List α → List α → List α) (hk : kws ≠ []) (hms : ∀ q ∈ ms, q ∈ kws)
    (hrel : ∀ {vs mz zs : List V} {us mv ws : List Value}, Vals vs us → Vals mz mv → Vals zs ws → Vals (g .non vs mz zs) (g .none us mv ws))
    (h : ∀ (D : Addr) (doc pm : Value) (an : Option Addr) (cdv ct : Value) (us mv ws : List Value), us.length = n → mv.length = ms.length → ws.length = ks.length →
      KwChain D ((ms.map (·.1)).zip mv) (bindArgs (PySem.W.fnOf x qual params body scope .none (.ref D) doc pm an cdv ct) ⟨us, ks.zip ws⟩) (ps.zip (g .none us mv ws))) :
    ∃ mv : List Value, KBn K fd ps n ks (fun us ws => g .none us mv ws) (fun vs zs => g .non vs (ms.map (·.2)) zs) := by
  obtain ⟨oc, od, dV, kV, doc, pm, an, cdv, ct, osl, rfl, lk, hcd, hD, hK⟩ := F.ex
  rcases hD with ⟨_, rfl⟩ | ⟨e, _⟩
  · rcases hK with e | ⟨D, rfl, hq⟩
    · exact absurd e hk
    · obtain ⟨mv, hl, rk, hks⟩ := kwd_vals (ms := ms) fun q hm => hq q (hms q hm)
      refine ⟨mv, ⟨fun s us ws X l1 l2 => ?_, fun r1 r2 => hrel r1 rk r2⟩⟩
      exact BindsTo.of_looks fun M => KwChain.looks X hks (h D doc pm an cdv ct us mv ws l1 hl l2)
  · exact absurd rfl e
/-- no keyword-only parameters, no defaults -/
theorem kbindsN (F : FunD K x qual params body scope [] kws f fd) (n : Nat) (ks : List Str) (g : {α : Type} → α → List α → List α → List α → List α)
    (hrel : ∀ {vs mz zs : List V} {us mv ws : List Value}, Vals vs us → Vals mz mv → Vals zs ws → Vals (g .non vs mz zs) (g .none us mv ws))
    (h : ∀ (kV doc pm : Value) (an : Option Addr) (cdv ct : Value) (us ws : List Value), us.length = n → ws.length = ks.length →
      bindArgs (PySem.W.fnOf x qual params body scope .none kV doc pm an cdv ct) ⟨us, ks.zip ws⟩ = pure (ps.zip (g .none us [] ws))) :
    KBn K fd ps n ks (fun us ws => g .none us [] ws) (fun vs zs => g .non vs [] zs) := by
  obtain ⟨oc, od, dV, kV, doc, pm, an, cdv, ct, osl, rfl, lk, hcd, hD, hK⟩ := F.ex
  rcases hD with ⟨_, rfl⟩ | ⟨e, _⟩
  · exact ⟨fun s us ws X l1 l2 => BindsTo.of_eq (h kV doc pm an cdv ct us ws l1 l2), fun r1 r2 => hrel r1 .nil r2⟩
  · exact absurd rfl e
end
section
variable {X : Cx} {CX : CXT} {k n : Nat} {f : Addr} {fd : FuncData} {ps ks : List Str} {sp : Sp} {E : XK} {x : Str} {p pos : Pos} {kws : List Keyword} {tk : TA} {g : List Value → List Value → List Value} {gV : List V → List V → List V}
/-- f(k = v, ..), keywords alone -/
theorem pe_callN0 (F : FnOk X.prog X.w X.K X.mg X.base CX k f fd ps sp) (hr : Room k X.A) (hg : Gl X x) (hm : X.mg x = some (.ref f)) (hk : PySem.W.keepIn X.K (.ref f) = true) (hb : KBn X.K fd ps 0 ks g gV) (hx : Passes CX X E)
    (hkw : PK X kws tk) (hall : (backToKw pos (keywordEach kws X.env)).all (·.1.isSome) = true := by rfl) (hks : (backToKw pos (keywordEach kws X.env)).filterMap (·.1) = ks := by rfl)
    (hdb : (x == ("__debug__" : Str)) = false := by decide) (hpl : ((backTo pos (starEach [] X.env)).any (·.1) || (backToKw pos (keywordEach kws X.env)).any (·.1.isNone)) = false := by rfl) :
    PE X (.Call (.Name x p) [] kws pos) (tCallN 0 ks.length sp gV E tNil tk) := by
  refine ⟨fun pins s σ H Q I h => ?_⟩
  refine wpAny_Call_Name_kw (ld_glob I hg hm ?_ hdb)
  refine PySem.W.callWith_KW0 (h₀ := X.base) I.ok.mod.kin hk hall ?_ hpl
  refine thn (hkw.run pos pins s σ H _ I h) fun ws s2 ⟨zs, H2, I2, rz, l1, l2, q2⟩ => ⟨I2.kIn, ?_⟩
  rw [hks]
  exact run_fnN (us := []) (vs := []) F hr hb hx I2 .nil rz rfl l2 q2
end

theorem w_var0 {v : V} {s : L2.St} {H : Hp} {Q : VK} (q : Q v H) : tVar 0 (some v :: s) H Q := ⟨v, rfl, q⟩
theorem w_asg0 {y : Option V} {s : L2.St} {H : Hp} {te : TE} {nx bk ct : L2.St → Hp → Prop} {rt : VK} (q : te (y :: s) H fun x H1 => nx (some x :: s) H1) : tAsg te (gName 0) ⟨nx, rt, bk, ct⟩ (y :: s) H := q
theorem w_gn0 {y : Option V} {v : V} {s : L2.St} {H : Hp} {Q : L2.St → Hp → Prop} (q : Q (some v :: s) H) : gName 0 v (y :: s) H Q := q
theorem w_aug0 {v : V} {s : L2.St} {H : Hp} {te : TE} {ti : TIp} {nx bk ct : L2.St → Hp → Prop} {rt : VK} (q : te (some v :: s) H fun y H1 => ti v y H1 fun z H2 => nx (some z :: s) H2) : tAug 0 te ti ⟨nx, rt, bk, ct⟩ (some v :: s) H := ⟨v, rfl, q⟩
theorem w_var1 {x0 : Option V} {v : V} {s : L2.St} {H : Hp} {Q : VK} (q : Q v H) : tVar 1 (x0 :: some v :: s) H Q := ⟨v, rfl, q⟩
theorem w_asg1 {x0 : Option V} {y : Option V} {s : L2.St} {H : Hp} {te : TE} {nx bk ct : L2.St → Hp → Prop} {rt : VK} (q : te (x0 :: y :: s) H fun x H1 => nx (x0 :: some x :: s) H1) : tAsg te (gName 1) ⟨nx, rt, bk, ct⟩ (x0 :: y :: s) H := q
theorem w_gn1 {x0 : Option V} {y : Option V} {v : V} {s : L2.St} {H : Hp} {Q : L2.St → Hp → Prop} (q : Q (x0 :: some v :: s) H) : gName 1 v (x0 :: y :: s) H Q := q
theorem w_aug1 {x0 : Option V} {v : V} {s : L2.St} {H : Hp} {te : TE} {ti : TIp} {nx bk ct : L2.St → Hp → Prop} {rt : VK} (q : te (x0 :: some v :: s) H fun y H1 => ti v y H1 fun z H2 => nx (x0 :: some z :: s) H2) : tAug 1 te ti ⟨nx, rt, bk, ct⟩ (x0 :: some v :: s) H := ⟨v, rfl, q⟩
theorem w_var2 {x0 x1 : Option V} {v : V} {s : L2.St} {H : Hp} {Q : VK} (q : Q v H) : tVar 2 (x0 :: x1 :: some v :: s) H Q := ⟨v, rfl, q⟩
theorem w_asg2 {x0 x1 : Option V} {y : Option V} {s : L2.St} {H : Hp} {te : TE} {nx bk ct : L2.St → Hp → Prop} {rt : VK} (q : te (x0 :: x1 :: y :: s) H fun x H1 => nx (x0 :: x1 :: some x :: s) H1) : tAsg te (gName 2) ⟨nx, rt, bk, ct⟩ (x0 :: x1 :: y :: s) H := q
theorem w_gn2 {x0 x1 : Option V} {y : Option V} {v : V} {s : L2.St} {H : Hp} {Q : L2.St → Hp → Prop} (q : Q (x0 :: x1 :: some v :: s) H) : gName 2 v (x0 :: x1 :: y :: s) H Q := q
theorem w_aug2 {x0 x1 : Option V} {v : V} {s : L2.St} {H : Hp} {te : TE} {ti : TIp} {nx bk ct : L2.St → Hp → Prop} {rt : VK} (q : te (x0 :: x1 :: some v :: s) H fun y H1 => ti v y H1 fun z H2 => nx (x0 :: x1 :: some z :: s) H2) : tAug 2 te ti ⟨nx, rt, bk, ct⟩ (x0 :: x1 :: some v :: s) H := ⟨v, rfl, q⟩
theorem w_var3 {x0 x1 x2 : Option V} {v : V} {s : L2.St} {H : Hp} {Q : VK} (q : Q v H) : tVar 3 (x0 :: x1 :: x2 :: some v :: s) H Q := ⟨v, rfl, q⟩
theorem w_asg3 {x0 x1 x2 : Option V} {y : Option V} {s : L2.St} {H : Hp} {te : TE} {nx bk ct : L2.St → Hp → Prop} {rt : VK} (q : te (x0 :: x1 :: x2 :: y :: s) H fun x H1 => nx (x0 :: x1 :: x2 :: some x :: s) H1) : tAsg te (gName 3) ⟨nx, rt, bk, ct⟩ (x0 :: x1 :: x2 :: y :: s) H := q
theorem w_gn3 {x0 x1 x2 : Option V} {y : Option V} {v : V} {s : L2.St} {H : Hp} {Q : L2.St → Hp → Prop} (q : Q (x0 :: x1 :: x2 :: some v :: s) H) : gName 3 v (x0 :: x1 :: x2 :: y :: s) H Q := q
theorem w_aug3 {x0 x1 x2 : Option V} {v : V} {s : L2.St} {H : Hp} {te : TE} {ti : TIp} {nx bk ct : L2.St → Hp → Prop} {rt : VK} (q : te (x0 :: x1 :: x2 :: some v :: s) H fun y H1 => ti v y H1 fun z H2 => nx (x0 :: x1 :: x2 :: some z :: s) H2) : tAug 3 te ti ⟨nx, rt, bk, ct⟩ (x0 :: x1 :: x2 :: some v :: s) H := ⟨v, rfl, q⟩
theorem w_var4 {x0 x1 x2 x3 : Option V} {v : V} {s : L2.St} {H : Hp} {Q : VK} (q : Q v H) : tVar 4 (x0 :: x1 :: x2 :: x3 :: some v :: s) H Q := ⟨v, rfl, q⟩
theorem w_asg4 {x0 x1 x2 x3 : Option V} {y : Option V} {s : L2.St} {H : Hp} {te : TE} {nx bk ct : L2.St → Hp → Prop} {rt : VK} (q : te (x0 :: x1 :: x2 :: x3 :: y :: s) H fun x H1 => nx (x0 :: x1 :: x2 :: x3 :: some x :: s) H1) : tAsg te (gName 4) ⟨nx, rt, bk, ct⟩ (x0 :: x1 :: x2 :: x3 :: y :: s) H := q
theorem w_gn4 {x0 x1 x2 x3 : Option V} {y : Option V} {v : V} {s : L2.St} {H : Hp} {Q : L2.St → Hp → Prop} (q : Q (x0 :: x1 :: x2 :: x3 :: some v :: s) H) : gName 4 v (x0 :: x1 :: x2 :: x3 :: y :: s) H Q := q
theorem w_aug4 {x0 x1 x2 x3 : Option V} {v : V} {s : L2.St} {H : Hp} {te : TE} {ti : TIp} {nx bk ct : L2.St → Hp → Prop} {rt : VK} (q : te (x0 :: x1 :: x2 :: x3 :: some v :: s) H fun y H1 => ti v y H1 fun z H2 => nx (x0 :: x1 :: x2 :: x3 :: some z :: s) H2) : tAug 4 te ti ⟨nx, rt, bk, ct⟩ (x0 :: x1 :: x2 :: x3 :: some v :: s) H := ⟨v, rfl, q⟩
theorem w_var5 {x0 x1 x2 x3 x4 : Option V} {v : V} {s : L2.St} {H : Hp} {Q : VK} (q : Q v H) : tVar 5 (x0 :: x1 :: x2 :: x3 :: x4 :: some v :: s) H Q := ⟨v, rfl, q⟩
theorem w_asg5 {x0 x1 x2 x3 x4 : Option V} {y : Option V} {s : L2.St} {H : Hp} {te : TE} {nx bk ct : L2.St → Hp → Prop} {rt : VK} (q : te (x0 :: x1 :: x2 :: x3 :: x4 :: y :: s) H fun x H1 => nx (x0 :: x1 :: x2 :: x3 :: x4 :: some x :: s) H1) : tAsg te (gName 5) ⟨nx, rt, bk, ct⟩ (x0 :: x1 :: x2 :: x3 :: x4 :: y :: s) H := q
theorem w_gn5 {x0 x1 x2 x3 x4 : Option V} {y : Option V} {v : V} {s : L2.St} {H : Hp} {Q : L2.St → Hp → Prop} (q : Q (x0 :: x1 :: x2 :: x3 :: x4 :: some v :: s) H) : gName 5 v (x0 :: x1 :: x2 :: x3 :: x4 :: y :: s) H Q := q
theorem w_aug5 {x0 x1 x2 x3 x4 : Option V} {v : V} {s : L2.St} {H : Hp} {te : TE} {ti : TIp} {nx bk ct : L2.St → Hp → Prop} {rt : VK} (q : te (x0 :: x1 :: x2 :: x3 :: x4 :: some v :: s) H fun y H1 => ti v y H1 fun z H2 => nx (x0 :: x1 :: x2 :: x3 :: x4 :: some z :: s) H2) : tAug 5 te ti ⟨nx, rt, bk, ct⟩ (x0 :: x1 :: x2 :: x3 :: x4 :: some v :: s) H := ⟨v, rfl, q⟩
theorem w_var6 {x0 x1 x2 x3 x4 x5 : Option V} {v : V} {s : L2.St} {H : Hp} {Q : VK} (q : Q v H) : tVar 6 (x0 :: x1 :: x2 :: x3 :: x4 :: x5 :: some v :: s) H Q := ⟨v, rfl, q⟩
theorem w_asg6 {x0 x1 x2 x3 x4 x5 : Option V} {y : Option V} {s : L2.St} {H : Hp} {te : TE} {nx bk ct : L2.St → Hp → Prop} {rt : VK} (q : te (x0 :: x1 :: x2 :: x3 :: x4 :: x5 :: y :: s) H fun x H1 => nx (x0 :: x1 :: x2 :: x3 :: x4 :: x5 :: some x :: s) H1) : tAsg te (gName 6) ⟨nx, rt, bk, ct⟩ (x0 :: x1 :: x2 :: x3 :: x4 :: x5 :: y :: s) H := q
theorem w_gn6 {x0 x1 x2 x3 x4 x5 : Option V} {y : Option V} {v : V} {s : L2.St} {H : Hp} {Q : L2.St → Hp → Prop} (q : Q (x0 :: x1 :: x2 :: x3 :: x4 :: x5 :: some v :: s) H) : gName 6 v (x0 :: x1 :: x2 :: x3 :: x4 :: x5 :: y :: s) H Q := q
theorem w_aug6 {x0 x1 x2 x3 x4 x5 : Option V} {v : V} {s : L2.St} {H : Hp} {te : TE} {ti : TIp} {nx bk ct : L2.St → Hp → Prop} {rt : VK} (q : te (x0 :: x1 :: x2 :: x3 :: x4 :: x5 :: some v :: s) H fun y H1 => ti v y H1 fun z H2 => nx (x0 :: x1 :: x2 :: x3 :: x4 :: x5 :: some z :: s) H2) : tAug 6 te ti ⟨nx, rt, bk, ct⟩ (x0 :: x1 :: x2 :: x3 :: x4 :: x5 :: some v :: s) H := ⟨v, rfl, q⟩
theorem w_var7 {x0 x1 x2 x3 x4 x5 x6 : Option V} {v : V} {s : L2.St} {H : Hp} {Q : VK} (q : Q v H) : tVar 7 (x0 :: x1 :: x2 :: x3 :: x4 :: x5 :: x6 :: some v :: s) H Q := ⟨v, rfl, q⟩
theorem w_asg7 {x0 x1 x2 x3 x4 x5 x6 : Option V} {y : Option V} {s : L2.St} {H : Hp} {te : TE} {nx bk ct : L2.St → Hp → Prop} {rt : VK} (q : te (x0 :: x1 :: x2 :: x3 :: x4 :: x5 :: x6 :: y :: s) H fun x H1 => nx (x0 :: x1 :: x2 :: x3 :: x4 :: x5 :: x6 :: some x :: s) H1) : tAsg te (gName 7) ⟨nx, rt, bk, ct⟩ (x0 :: x1 :: x2 :: x3 :: x4 :: x5 :: x6 :: y :: s) H := q
theorem w_gn7 {x0 x1 x2 x3 x4 x5 x6 : Option V} {y : Option V} {v : V} {s : L2.St} {H : Hp} {Q : L2.St → Hp → Prop} (q : Q (x0 :: x1 :: x2 :: x3 :: x4 :: x5 :: x6 :: some v :: s) H) : gName 7 v (x0 :: x1 :: x2 :: x3 :: x4 :: x5 :: x6 :: y :: s) H Q := q
theorem w_aug7 {x0 x1 x2 x3 x4 x5 x6 : Option V} {v : V} {s : L2.St} {H : Hp} {te : TE} {ti : TIp} {nx bk ct : L2.St → Hp → Prop} {rt : VK} (q : te (x0 :: x1 :: x2 :: x3 :: x4 :: x5 :: x6 :: some v :: s) H fun y H1 => ti v y H1 fun z H2 => nx (x0 :: x1 :: x2 :: x3 :: x4 :: x5 :: x6 :: some z :: s) H2) : tAug 7 te ti ⟨nx, rt, bk, ct⟩ (x0 :: x1 :: x2 :: x3 :: x4 :: x5 :: x6 :: some v :: s) H := ⟨v, rfl, q⟩
theorem w_var8 {x0 x1 x2 x3 x4 x5 x6 x7 : Option V} {v : V} {s : L2.St} {H : Hp} {Q : VK} (q : Q v H) : tVar 8 (x0 :: x1 :: x2 :: x3 :: x4 :: x5 :: x6 :: x7 :: some v :: s) H Q := ⟨v, rfl, q⟩
theorem w_asg8 {x0 x1 x2 x3 x4 x5 x6 x7 : Option V} {y : Option V} {s : L2.St} {H : Hp} {te : TE} {nx bk ct : L2.St → Hp → Prop} {rt : VK} (q : te (x0 :: x1 :: x2 :: x3 :: x4 :: x5 :: x6 :: x7 :: y :: s) H fun x H1 => nx (x0 :: x1 :: x2 :: x3 :: x4 :: x5 :: x6 :: x7 :: some x :: s) H1) : tAsg te (gName 8) ⟨nx, rt, bk, ct⟩ (x0 :: x1 :: x2 :: x3 :: x4 :: x5 :: x6 :: x7 :: y :: s) H := q
theorem w_gn8 {x0 x1 x2 x3 x4 x5 x6 x7 : Option V} {y : Option V} {v : V} {s : L2.St} {H : Hp} {Q : L2.St → Hp → Prop} (q : Q (x0 :: x1 :: x2 :: x3 :: x4 :: x5 :: x6 :: x7 :: some v :: s) H) : gName 8 v (x0 :: x1 :: x2 :: x3 :: x4 :: x5 :: x6 :: x7 :: y :: s) H Q := q
theorem w_aug8 {x0 x1 x2 x3 x4 x5 x6 x7 : Option V} {v : V} {s : L2.St} {H : Hp} {te : TE} {ti : TIp} {nx bk ct : L2.St → Hp → Prop} {rt : VK} (q : te (x0 :: x1 :: x2 :: x3 :: x4 :: x5 :: x6 :: x7 :: some v :: s) H fun y H1 => ti v y H1 fun z H2 => nx (x0 :: x1 :: x2 :: x3 :: x4 :: x5 :: x6 :: x7 :: some z :: s) H2) : tAug 8 te ti ⟨nx, rt, bk, ct⟩ (x0 :: x1 :: x2 :: x3 :: x4 :: x5 :: x6 :: x7 :: some v :: s) H := ⟨v, rfl, q⟩
theorem w_var9 {x0 x1 x2 x3 x4 x5 x6 x7 x8 : Option V} {v : V} {s : L2.St} {H : Hp} {Q : VK} (q : Q v H) : tVar 9 (x0 :: x1 :: x2 :: x3 :: x4 :: x5 :: x6 :: x7 :: x8 :: some v :: s) H Q := ⟨v, rfl, q⟩
theorem w_asg9 {x0 x1 x2 x3 x4 x5 x6 x7 x8 : Option V} {y : Option V} {s : L2.St} {H : Hp} {te : TE} {nx bk ct : L2.St → Hp → Prop} {rt : VK} (q : te (x0 :: x1 :: x2 :: x3 :: x4 :: x5 :: x6 :: x7 :: x8 :: y :: s) H fun x H1 => nx (x0 :: x1 :: x2 :: x3 :: x4 :: x5 :: x6 :: x7 :: x8 :: some x :: s) H1) : tAsg te (gName 9) ⟨nx, rt, bk, ct⟩ (x0 :: x1 :: x2 :: x3 :: x4 :: x5 :: x6 :: x7 :: x8 :: y :: s) H := q
theorem w_gn9 {x0 x1 x2 x3 x4 x5 x6 x7 x8 : Option V} {y : Option V} {v : V} {s : L2.St} {H : Hp} {Q : L2.St → Hp → Prop} (q : Q (x0 :: x1 :: x2 :: x3 :: x4 :: x5 :: x6 :: x7 :: x8 :: some v :: s) H) : gName 9 v (x0 :: x1 :: x2 :: x3 :: x4 :: x5 :: x6 :: x7 :: x8 :: y :: s) H Q := q
theorem w_aug9 {x0 x1 x2 x3 x4 x5 x6 x7 x8 : Option V} {v : V} {s : L2.St} {H : Hp} {te : TE} {ti : TIp} {nx bk ct : L2.St → Hp → Prop} {rt : VK} (q : te (x0 :: x1 :: x2 :: x3 :: x4 :: x5 :: x6 :: x7 :: x8 :: some v :: s) H fun y H1 => ti v y H1 fun z H2 => nx (x0 :: x1 :: x2 :: x3 :: x4 :: x5 :: x6 :: x7 :: x8 :: some z :: s) H2) : tAug 9 te ti ⟨nx, rt, bk, ct⟩ (x0 :: x1 :: x2 :: x3 :: x4 :: x5 :: x6 :: x7 :: x8 :: some v :: s) H := ⟨v, rfl, q⟩
theorem w_var10 {x0 x1 x2 x3 x4 x5 x6 x7 x8 x9 : Option V} {v : V} {s : L2.St} {H : Hp} {Q : VK} (q : Q v H) : tVar 10 (x0 :: x1 :: x2 :: x3 :: x4 :: x5 :: x6 :: x7 :: x8 :: x9 :: some v :: s) H Q := ⟨v, rfl, q⟩
theorem w_asg10 {x0 x1 x2 x3 x4 x5 x6 x7 x8 x9 : Option V} {y : Option V} {s : L2.St} {H : Hp} {te : TE} {nx bk ct : L2.St → Hp → Prop} {rt : VK} (q : te (x0 :: x1 :: x2 :: x3 :: x4 :: x5 :: x6 :: x7 :: x8 :: x9 :: y :: s) H fun x H1 => nx (x0 :: x1 :: x2 :: x3 :: x4 :: x5 :: x6 :: x7 :: x8 :: x9 :: some x :: s) H1) : tAsg te (gName 10) ⟨nx, rt, bk, ct⟩ (x0 :: x1 :: x2 :: x3 :: x4 :: x5 :: x6 :: x7 :: x8 :: x9 :: y :: s) H := q
theorem w_gn10 {x0 x1 x2 x3 x4 x5 x6 x7 x8 x9 : Option V} {y : Option V} {v : V} {s : L2.St} {H : Hp} {Q : L2.St → Hp → Prop} (q : Q (x0 :: x1 :: x2 :: x3 :: x4 :: x5 :: x6 :: x7 :: x8 :: x9 :: some v :: s) H) : gName 10 v (x0 :: x1 :: x2 :: x3 :: x4 :: x5 :: x6 :: x7 :: x8 :: x9 :: y :: s) H Q := q
theorem w_aug10 {x0 x1 x2 x3 x4 x5 x6 x7 x8 x9 : Option V} {v : V} {s : L2.St} {H : Hp} {te : TE} {ti : TIp} {nx bk ct : L2.St → Hp → Prop} {rt : VK} (q : te (x0 :: x1 :: x2 :: x3 :: x4 :: x5 :: x6 :: x7 :: x8 :: x9 :: some v :: s) H fun y H1 => ti v y H1 fun z H2 => nx (x0 :: x1 :: x2 :: x3 :: x4 :: x5 :: x6 :: x7 :: x8 :: x9 :: some z :: s) H2) : tAug 10 te ti ⟨nx, rt, bk, ct⟩ (x0 :: x1 :: x2 :: x3 :: x4 :: x5 :: x6 :: x7 :: x8 :: x9 :: some v :: s) H := ⟨v, rfl, q⟩
theorem w_var11 {x0 x1 x2 x3 x4 x5 x6 x7 x8 x9 x10 : Option V} {v : V} {s : L2.St} {H : Hp} {Q : VK} (q : Q v H) : tVar 11 (x0 :: x1 :: x2 :: x3 :: x4 :: x5 :: x6 :: x7 :: x8 :: x9 :: x10 :: some v :: s) H Q := ⟨v, rfl, q⟩
theorem w_asg11 {x0 x1 x2 x3 x4 x5 x6 x7 x8 x9 x10 : Option V} {y : Option V} {s : L2.St} {H : Hp} {te : TE} {nx bk ct : L2.St → Hp → Prop} {rt : VK} (q : te (x0 :: x1 :: x2 :: x3 :: x4 :: x5 :: x6 :: x7 :: x8 :: x9 :: x10 :: y :: s) H fun x H1 => nx (x0 :: x1 :: x2 :: x3 :: x4 :: x5 :: x6 :: x7 :: x8 :: x9 :: x10 :: some x :: s) H1) : tAsg te (gName 11) ⟨nx, rt, bk, ct⟩ (x0 :: x1 :: x2 :: x3 :: x4 :: x5 :: x6 :: x7 :: x8 :: x9 :: x10 :: y :: s) H := q
theorem w_gn11 {x0 x1 x2 x3 x4 x5 x6 x7 x8 x9 x10 : Option V} {y : Option V} {v : V} {s : L2.St} {H : Hp} {Q : L2.St → Hp → Prop} (q : Q (x0 :: x1 :: x2 :: x3 :: x4 :: x5 :: x6 :: x7 :: x8 :: x9 :: x10 :: some v :: s) H) : gName 11 v (x0 :: x1 :: x2 :: x3 :: x4 :: x5 :: x6 :: x7 :: x8 :: x9 :: x10 :: y :: s) H Q := q
theorem w_aug11 {x0 x1 x2 x3 x4 x5 x6 x7 x8 x9 x10 : Option V} {v : V} {s : L2.St} {H : Hp} {te : TE} {ti : TIp} {nx bk ct : L2.St → Hp → Prop} {rt : VK} (q : te (x0 :: x1 :: x2 :: x3 :: x4 :: x5 :: x6 :: x7 :: x8 :: x9 :: x10 :: some v :: s) H fun y H1 => ti v y H1 fun z H2 => nx (x0 :: x1 :: x2 :: x3 :: x4 :: x5 :: x6 :: x7 :: x8 :: x9 :: x10 :: some z :: s) H2) : tAug 11 te ti ⟨nx, rt, bk, ct⟩ (x0 :: x1 :: x2 :: x3 :: x4 :: x5 :: x6 :: x7 :: x8 :: x9 :: x10 :: some v :: s) H := ⟨v, rfl, q⟩
theorem w_var12 {x0 x1 x2 x3 x4 x5 x6 x7 x8 x9 x10 x11 : Option V} {v : V} {s : L2.St} {H : Hp} {Q : VK} (q : Q v H) : tVar 12 (x0 :: x1 :: x2 :: x3 :: x4 :: x5 :: x6 :: x7 :: x8 :: x9 :: x10 :: x11 :: some v :: s) H Q := ⟨v, rfl, q⟩
theorem w_asg12 {x0 x1 x2 x3 x4 x5 x6 x7 x8 x9 x10 x11 : Option V} {y : Option V} {s : L2.St} {H : Hp} {te : TE} {nx bk ct : L2.St → Hp → Prop} {rt : VK} (q : te (x0 :: x1 :: x2 :: x3 :: x4 :: x5 :: x6 :: x7 :: x8 :: x9 :: x10 :: x11 :: y :: s) H fun x H1 => nx (x0 :: x1 :: x2 :: x3 :: x4 :: x5 :: x6 :: x7 :: x8 :: x9 :: x10 :: x11 :: some x :: s) H1) : tAsg te (gName 12) ⟨nx, rt, bk, ct⟩ (x0 :: x1 :: x2 :: x3 :: x4 :: x5 :: x6 :: x7 :: x8 :: x9 :: x10 :: x11 :: y :: s) H := q
theorem w_gn12 {x0 x1 x2 x3 x4 x5 x6 x7 x8 x9 x10 x11 : Option V} {y : Option V} {v : V} {s : L2.St} {H : Hp} {Q : L2.St → Hp → Prop} (q : Q (x0 :: x1 :: x2 :: x3 :: x4 :: x5 :: x6 :: x7 :: x8 :: x9 :: x10 :: x11 :: some v :: s) H) : gName 12 v (x0 :: x1 :: x2 :: x3 :: x4 :: x5 :: x6 :: x7 :: x8 :: x9 :: x10 :: x11 :: y :: s) H Q := q
theorem w_aug12 {x0 x1 x2 x3 x4 x5 x6 x7 x8 x9 x10 x11 : Option V} {v : V} {s : L2.St} {H : Hp} {te : TE} {ti : TIp} {nx bk ct : L2.St → Hp → Prop} {rt : VK} (q : te (x0 :: x1 :: x2 :: x3 :: x4 :: x5 :: x6 :: x7 :: x8 :: x9 :: x10 :: x11 :: some v :: s) H fun y H1 => ti v y H1 fun z H2 => nx (x0 :: x1 :: x2 :: x3 :: x4 :: x5 :: x6 :: x7 :: x8 :: x9 :: x10 :: x11 :: some z :: s) H2) : tAug 12 te ti ⟨nx, rt, bk, ct⟩ (x0 :: x1 :: x2 :: x3 :: x4 :: x5 :: x6 :: x7 :: x8 :: x9 :: x10 :: x11 :: some v :: s) H := ⟨v, rfl, q⟩
theorem w_var13 {x0 x1 x2 x3 x4 x5 x6 x7 x8 x9 x10 x11 x12 : Option V} {v : V} {s : L2.St} {H : Hp} {Q : VK} (q : Q v H) : tVar 13 (x0 :: x1 :: x2 :: x3 :: x4 :: x5 :: x6 :: x7 :: x8 :: x9 :: x10 :: x11 :: x12 :: some v :: s) H Q := ⟨v, rfl, q⟩
theorem w_asg13 {x0 x1 x2 x3 x4 x5 x6 x7 x8 x9 x10 x11 x12 : Option V} {y : Option V} {s : L2.St} {H : Hp} {te : TE} {nx bk ct : L2.St → Hp → Prop} {rt : VK} (q : te (x0 :: x1 :: x2 :: x3 :: x4 :: x5 :: x6 :: x7 :: x8 :: x9 :: x10 :: x11 :: x12 :: y :: s) H fun x H1 => nx (x0 :: x1 :: x2 :: x3 :: x4 :: x5 :: x6 :: x7 :: x8 :: x9 :: x10 :: x11 :: x12 :: some x :: s) H1) : tAsg te (gName 13) ⟨nx, rt, bk, ct⟩ (x0 :: x1 :: x2 :: x3 :: x4 :: x5 :: x6 :: x7 :: x8 :: x9 :: x10 :: x11 :: x12 :: y :: s) H := q
theorem w_gn13 {x0 x1 x2 x3 x4 x5 x6 x7 x8 x9 x10 x11 x12 : Option V} {y : Option V} {v : V} {s : L2.St} {H : Hp} {Q : L2.St → Hp → Prop} (q : Q (x0 :: x1 :: x2 :: x3 :: x4 :: x5 :: x6 :: x7 :: x8 :: x9 :: x10 :: x11 :: x12 :: some v :: s) H) : gName 13 v (x0 :: x1 :: x2 :: x3 :: x4 :: x5 :: x6 :: x7 :: x8 :: x9 :: x10 :: x11 :: x12 :: y :: s) H Q := q
theorem w_aug13 {x0 x1 x2 x3 x4 x5 x6 x7 x8 x9 x10 x11 x12 : Option V} {v : V} {s : L2.St} {H : Hp} {te : TE} {ti : TIp} {nx bk ct : L2.St → Hp → Prop} {rt : VK} (q : te (x0 :: x1 :: x2 :: x3 :: x4 :: x5 :: x6 :: x7 :: x8 :: x9 :: x10 :: x11 :: x12 :: some v :: s) H fun y H1 => ti v y H1 fun z H2 => nx (x0 :: x1 :: x2 :: x3 :: x4 :: x5 :: x6 :: x7 :: x8 :: x9 :: x10 :: x11 :: x12 :: some z :: s) H2) : tAug 13 te ti ⟨nx, rt, bk, ct⟩ (x0 :: x1 :: x2 :: x3 :: x4 :: x5 :: x6 :: x7 :: x8 :: x9 :: x10 :: x11 :: x12 :: some v :: s) H := ⟨v, rfl, q⟩
theorem w_var14 {x0 x1 x2 x3 x4 x5 x6 x7 x8 x9 x10 x11 x12 x13 : Option V} {v : V} {s : L2.St} {H : Hp} {Q : VK} (q : Q v H) : tVar 14 (x0 :: x1 :: x2 :: x3 :: x4 :: x5 :: x6 :: x7 :: x8 :: x9 :: x10 :: x11 :: x12 :: x13 :: some v :: s) H Q := ⟨v, rfl, q⟩
theorem w_asg14 {x0 x1 x2 x3 x4 x5 x6 x7 x8 x9 x10 x11 x12 x13 : Option V} {y : Option V} {s : L2.St} {H : Hp} {te : TE} {nx bk ct : L2.St → Hp → Prop} {rt : VK} (q : te (x0 :: x1 :: x2 :: x3 :: x4 :: x5 :: x6 :: x7 :: x8 :: x9 :: x10 :: x11 :: x12 :: x13 :: y :: s) H fun x H1 => nx (x0 :: x1 :: x2 :: x3 :: x4 :: x5 :: x6 :: x7 :: x8 :: x9 :: x10 :: x11 :: x12 :: x13 :: some x :: s) H1) : tAsg te (gName 14) ⟨nx, rt, bk, ct⟩ (x0 :: x1 :: x2 :: x3 :: x4 :: x5 :: x6 :: x7 :: x8 :: x9 :: x10 :: x11 :: x12 :: x13 :: y :: s) H := q
theorem w_gn14 {x0 x1 x2 x3 x4 x5 x6 x7 x8 x9 x10 x11 x12 x13 : Option V} {y : Option V} {v : V} {s : L2.St} {H : Hp} {Q : L2.St → Hp → Prop} (q : Q (x0 :: x1 :: x2 :: x3 :: x4 :: x5 :: x6 :: x7 :: x8 :: x9 :: x10 :: x11 :: x12 :: x13 :: some v :: s) H) : gName 14 v (x0 :: x1 :: x2 :: x3 :: x4 :: x5 :: x6 :: x7 :: x8 :: x9 :: x10 :: x11 :: x12 :: x13 :: y :: s) H Q := q
theorem w_aug14 {x0 x1 x2 x3 x4 x5 x6 x7 x8 x9 x10 x11 x12 x13 : Option V} {v : V} {s : L2.St} {H : Hp} {te : TE} {ti : TIp} {nx bk ct : L2.St → Hp → Prop} {rt : VK} (q : te (x0 :: x1 :: x2 :: x3 :: x4 :: x5 :: x6 :: x7 :: x8 :: x9 :: x10 :: x11 :: x12 :: x13 :: some v :: s) H fun y H1 => ti v y H1 fun z H2 => nx (x0 :: x1 :: x2 :: x3 :: x4 :: x5 :: x6 :: x7 :: x8 :: x9 :: x10 :: x11 :: x12 :: x13 :: some z :: s) H2) : tAug 14 te ti ⟨nx, rt, bk, ct⟩ (x0 :: x1 :: x2 :: x3 :: x4 :: x5 :: x6 :: x7 :: x8 :: x9 :: x10 :: x11 :: x12 :: x13 :: some v :: s) H := ⟨v, rfl, q⟩
theorem w_var15 {x0 x1 x2 x3 x4 x5 x6 x7 x8 x9 x10 x11 x12 x13 x14 : Option V} {v : V} {s : L2.St} {H : Hp} {Q : VK} (q : Q v H) : tVar 15 (x0 :: x1 :: x2 :: x3 :: x4 :: x5 :: x6 :: x7 :: x8 :: x9 :: x10 :: x11 :: x12 :: x13 :: x14 :: some v :: s) H Q := ⟨v, rfl, q⟩
theorem w_asg15 {x0 x1 x2 x3 x4 x5 x6 x7 x8 x9 x10 x11 x12 x13 x14 : Option V} {y : Option V} {s : L2.St} {H : Hp} {te : TE} {nx bk ct : L2.St → Hp → Prop} {rt : VK} (q : te (x0 :: x1 :: x2 :: x3 :: x4 :: x5 :: x6 :: x7 :: x8 :: x9 :: x10 :: x11 :: x12 :: x13 :: x14 :: y :: s) H fun x H1 => nx (x0 :: x1 :: x2 :: x3 :: x4 :: x5 :: x6 :: x7 :: x8 :: x9 :: x10 :: x11 :: x12 :: x13 :: x14 :: some x :: s) H1) : tAsg te (gName 15) ⟨nx, rt, bk, ct⟩ (x0 :: x1 :: x2 :: x3 :: x4 :: x5 :: x6 :: x7 :: x8 :: x9 :: x10 :: x11 :: x12 :: x13 :: x14 :: y :: s) H := q
theorem w_gn15 {x0 x1 x2 x3 x4 x5 x6 x7 x8 x9 x10 x11 x12 x13 x14 : Option V} {y : Option V} {v : V} {s : L2.St} {H : Hp} {Q : L2.St → Hp → Prop} (q : Q (x0 :: x1 :: x2 :: x3 :: x4 :: x5 :: x6 :: x7 :: x8 :: x9 :: x10 :: x11 :: x12 :: x13 :: x14 :: some v :: s) H) : gName 15 v (x0 :: x1 :: x2 :: x3 :: x4 :: x5 :: x6 :: x7 :: x8 :: x9 :: x10 :: x11 :: x12 :: x13 :: x14 :: y :: s) H Q := q
theorem w_aug15 {x0 x1 x2 x3 x4 x5 x6 x7 x8 x9 x10 x11 x12 x13 x14 : Option V} {v : V} {s : L2.St} {H : Hp} {te : TE} {ti : TIp} {nx bk ct : L2.St → Hp → Prop} {rt : VK} (q : te (x0 :: x1 :: x2 :: x3 :: x4 :: x5 :: x6 :: x7 :: x8 :: x9 :: x10 :: x11 :: x12 :: x13 :: x14 :: some v :: s) H fun y H1 => ti v y H1 fun z H2 => nx (x0 :: x1 :: x2 :: x3 :: x4 :: x5 :: x6 :: x7 :: x8 :: x9 :: x10 :: x11 :: x12 :: x13 :: x14 :: some z :: s) H2) : tAug 15 te ti ⟨nx, rt, bk, ct⟩ (x0 :: x1 :: x2 :: x3 :: x4 :: x5 :: x6 :: x7 :: x8 :: x9 :: x10 :: x11 :: x12 :: x13 :: x14 :: some v :: s) H := ⟨v, rfl, q⟩
theorem w_var16 {x0 x1 x2 x3 x4 x5 x6 x7 x8 x9 x10 x11 x12 x13 x14 x15 : Option V} {v : V} {s : L2.St} {H : Hp} {Q : VK} (q : Q v H) : tVar 16 (x0 :: x1 :: x2 :: x3 :: x4 :: x5 :: x6 :: x7 :: x8 :: x9 :: x10 :: x11 :: x12 :: x13 :: x14 :: x15 :: some v :: s) H Q := ⟨v, rfl, q⟩
theorem w_asg16 {x0 x1 x2 x3 x4 x5 x6 x7 x8 x9 x10 x11 x12 x13 x14 x15 : Option V} {y : Option V} {s : L2.St} {H : Hp} {te : TE} {nx bk ct : L2.St → Hp → Prop} {rt : VK} (q : te (x0 :: x1 :: x2 :: x3 :: x4 :: x5 :: x6 :: x7 :: x8 :: x9 :: x10 :: x11 :: x12 :: x13 :: x14 :: x15 :: y :: s) H fun x H1 => nx (x0 :: x1 :: x2 :: x3 :: x4 :: x5 :: x6 :: x7 :: x8 :: x9 :: x10 :: x11 :: x12 :: x13 :: x14 :: x15 :: some x :: s) H1) : tAsg te (gName 16) ⟨nx, rt, bk, ct⟩ (x0 :: x1 :: x2 :: x3 :: x4 :: x5 :: x6 :: x7 :: x8 :: x9 :: x10 :: x11 :: x12 :: x13 :: x14 :: x15 :: y :: s) H := q
theorem w_gn16 {x0 x1 x2 x3 x4 x5 x6 x7 x8 x9 x10 x11 x12 x13 x14 x15 : Option V} {y : Option V} {v : V} {s : L2.St} {H : Hp} {Q : L2.St → Hp → Prop} (q : Q (x0 :: x1 :: x2 :: x3 :: x4 :: x5 :: x6 :: x7 :: x8 :: x9 :: x10 :: x11 :: x12 :: x13 :: x14 :: x15 :: some v :: s) H) : gName 16 v (x0 :: x1 :: x2 :: x3 :: x4 :: x5 :: x6 :: x7 :: x8 :: x9 :: x10 :: x11 :: x12 :: x13 :: x14 :: x15 :: y :: s) H Q := q
theorem w_aug16 {x0 x1 x2 x3 x4 x5 x6 x7 x8 x9 x10 x11 x12 x13 x14 x15 : Option V} {v : V} {s : L2.St} {H : Hp} {te : TE} {ti : TIp} {nx bk ct : L2.St → Hp → Prop} {rt : VK} (q : te (x0 :: x1 :: x2 :: x3 :: x4 :: x5 :: x6 :: x7 :: x8 :: x9 :: x10 :: x11 :: x12 :: x13 :: x14 :: x15 :: some v :: s) H fun y H1 => ti v y H1 fun z H2 => nx (x0 :: x1 :: x2 :: x3 :: x4 :: x5 :: x6 :: x7 :: x8 :: x9 :: x10 :: x11 :: x12 :: x13 :: x14 :: x15 :: some z :: s) H2) : tAug 16 te ti ⟨nx, rt, bk, ct⟩ (x0 :: x1 :: x2 :: x3 :: x4 :: x5 :: x6 :: x7 :: x8 :: x9 :: x10 :: x11 :: x12 :: x13 :: x14 :: x15 :: some v :: s) H := ⟨v, rfl, q⟩
theorem w_var17 {x0 x1 x2 x3 x4 x5 x6 x7 x8 x9 x10 x11 x12 x13 x14 x15 x16 : Option V} {v : V} {s : L2.St} {H : Hp} {Q : VK} (q : Q v H) : tVar 17 (x0 :: x1 :: x2 :: x3 :: x4 :: x5 :: x6 :: x7 :: x8 :: x9 :: x10 :: x11 :: x12 :: x13 :: x14 :: x15 :: x16 :: some v :: s) H Q := ⟨v, rfl, q⟩
theorem w_asg17 {x0 x1 x2 x3 x4 x5 x6 x7 x8 x9 x10 x11 x12 x13 x14 x15 x16 : Option V} {y : Option V} {s : L2.St} {H : Hp} {te : TE} {nx bk ct : L2.St → Hp → Prop} {rt : VK} (q : te (x0 :: x1 :: x2 :: x3 :: x4 :: x5 :: x6 :: x7 :: x8 :: x9 :: x10 :: x11 :: x12 :: x13 :: x14 :: x15 :: x16 :: y :: s) H fun x H1 => nx (x0 :: x1 :: x2 :: x3 :: x4 :: x5 :: x6 :: x7 :: x8 :: x9 :: x10 :: x11 :: x12 :: x13 :: x14 :: x15 :: x16 :: some x :: s) H1) : tAsg te (gName 17) ⟨nx, rt, bk, ct⟩ (x0 :: x1 :: x2 :: x3 :: x4 :: x5 :: x6 :: x7 :: x8 :: x9 :: x10 :: x11 :: x12 :: x13 :: x14 :: x15 :: x16 :: y :: s) H := q
theorem w_gn17 {x0 x1 x2 x3 x4 x5 x6 x7 x8 x9 x10 x11 x12 x13 x14 x15 x16 : Option V} {y : Option V} {v : V} {s : L2.St} {H : Hp} {Q : L2.St → Hp → Prop} (q : Q (x0 :: x1 :: x2 :: x3 :: x4 :: x5 :: x6 :: x7 :: x8 :: x9 :: x10 :: x11 :: x12 :: x13 :: x14 :: x15 :: x16 :: some v :: s) H) : gName 17 v (x0 :: x1 :: x2 :: x3 :: x4 :: x5 :: x6 :: x7 :: x8 :: x9 :: x10 :: x11 :: x12 :: x13 :: x14 :: x15 :: x16 :: y :: s) H Q := q
theorem w_aug17 {x0 x1 x2 x3 x4 x5 x6 x7 x8 x9 x10 x11 x12 x13 x14 x15 x16 : Option V} {v : V} {s : L2.St} {H : Hp} {te : TE} {ti : TIp} {nx bk ct : L2.St → Hp → Prop} {rt : VK} (q : te (x0 :: x1 :: x2 :: x3 :: x4 :: x5 :: x6 :: x7 :: x8 :: x9 :: x10 :: x11 :: x12 :: x13 :: x14 :: x15 :: x16 :: some v :: s) H fun y H1 => ti v y H1 fun z H2 => nx (x0 :: x1 :: x2 :: x3 :: x4 :: x5 :: x6 :: x7 :: x8 :: x9 :: x10 :: x11 :: x12 :: x13 :: x14 :: x15 :: x16 :: some z :: s) H2) : tAug 17 te ti ⟨nx, rt, bk, ct⟩ (x0 :: x1 :: x2 :: x3 :: x4 :: x5 :: x6 :: x7 :: x8 :: x9 :: x10 :: x11 :: x12 :: x13 :: x14 :: x15 :: x16 :: some v :: s) H := ⟨v, rfl, q⟩
theorem w_var18 {x0 x1 x2 x3 x4 x5 x6 x7 x8 x9 x10 x11 x12 x13 x14 x15 x16 x17 : Option V} {v : V} {s : L2.St} {H : Hp} {Q : VK} (q : Q v H) : tVar 18 (x0 :: x1 :: x2 :: x3 :: x4 :: x5 :: x6 :: x7 :: x8 :: x9 :: x10 :: x11 :: x12 :: x13 :: x14 :: x15 :: x16 :: x17 :: some v :: s) H Q := ⟨v, rfl, q⟩
theorem w_asg18 {x0 x1 x2 x3 x4 x5 x6 x7 x8 x9 x10 x11 x12 x13 x14 x15 x16 x17 : Option V} {y : Option V} {s : L2.St} {H : Hp} {te : TE} {nx bk ct : L2.St → Hp → Prop} {rt : VK} (q : te (x0 :: x1 :: x2 :: x3 :: x4 :: x5 :: x6 :: x7 :: x8 :: x9 :: x10 :: x11 :: x12 :: x13 :: x14 :: x15 :: x16 :: x17 :: y :: s) H fun x H1 => nx (x0 :: x1 :: x2 :: x3 :: x4 :: x5 :: x6 :: x7 :: x8 :: x9 :: x10 :: x11 :: x12 :: x13 :: x14 :: x15 :: x16 :: x17 :: some x :: s) H1) : tAsg te (gName 18) ⟨nx, rt, bk, ct⟩ (x0 :: x1 :: x2 :: x3 :: x4 :: x5 :: x6 :: x7 :: x8 :: x9 :: x10 :: x11 :: x12 :: x13 :: x14 :: x15 :: x16 :: x17 :: y :: s) H := q
theorem w_gn18 {x0 x1 x2 x3 x4 x5 x6 x7 x8 x9 x10 x11 x12 x13 x14 x15 x16 x17 : Option V} {y : Option V} {v : V} {s : L2.St} {H : Hp} {Q : L2.St → Hp → Prop} (q : Q (x0 :: x1 :: x2 :: x3 :: x4 :: x5 :: x6 :: x7 :: x8 :: x9 :: x10 :: x11 :: x12 :: x13 :: x14 :: x15 :: x16 :: x17 :: some v :: s) H) : gName 18 v (x0 :: x1 :: x2 :: x3 :: x4 :: x5 :: x6 :: x7 :: x8 :: x9 :: x10 :: x11 :: x12 :: x13 :: x14 :: x15 :: x16 :: x17 :: y :: s) H Q := q
theorem w_aug18 {x0 x1 x2 x3 x4 x5 x6 x7 x8 x9 x10 x11 x12 x13 x14 x15 x16 x17 : Option V} {v : V} {s : L2.St} {H : Hp} {te : TE} {ti : TIp} {nx bk ct : L2.St → Hp → Prop} {rt : VK} (q : te (x0 :: x1 :: x2 :: x3 :: x4 :: x5 :: x6 :: x7 :: x8 :: x9 :: x10 :: x11 :: x12 :: x13 :: x14 :: x15 :: x16 :: x17 :: some v :: s) H fun y H1 => ti v y H1 fun z H2 => nx (x0 :: x1 :: x2 :: x3 :: x4 :: x5 :: x6 :: x7 :: x8 :: x9 :: x10 :: x11 :: x12 :: x13 :: x14 :: x15 :: x16 :: x17 :: some z :: s) H2) : tAug 18 te ti ⟨nx, rt, bk, ct⟩ (x0 :: x1 :: x2 :: x3 :: x4 :: x5 :: x6 :: x7 :: x8 :: x9 :: x10 :: x11 :: x12 :: x13 :: x14 :: x15 :: x16 :: x17 :: some v :: s) H := ⟨v, rfl, q⟩
theorem w_var19 {x0 x1 x2 x3 x4 x5 x6 x7 x8 x9 x10 x11 x12 x13 x14 x15 x16 x17 x18 : Option V} {v : V} {s : L2.St} {H : Hp} {Q : VK} (q : Q v H) : tVar 19 (x0 :: x1 :: x2 :: x3 :: x4 :: x5 :: x6 :: x7 :: x8 :: x9 :: x10 :: x11 :: x12 :: x13 :: x14 :: x15 :: x16 :: x17 :: x18 :: some v :: s) H Q := ⟨v, rfl, q⟩
theorem w_asg19 {x0 x1 x2 x3 x4 x5 x6 x7 x8 x9 x10 x11 x12 x13 x14 x15 x16 x17 x18 : Option V} {y : Option V} {s : L2.St} {H : Hp} {te : TE} {nx bk ct : L2.St → Hp → Prop} {rt : VK} (q : te (x0 :: x1 :: x2 :: x3 :: x4 :: x5 :: x6 :: x7 :: x8 :: x9 :: x10 :: x11 :: x12 :: x13 :: x14 :: x15 :: x16 :: x17 :: x18 :: y :: s) H fun x H1 => nx (x0 :: x1 :: x2 :: x3 :: x4 :: x5 :: x6 :: x7 :: x8 :: x9 :: x10 :: x11 :: x12 :: x13 :: x14 :: x15 :: x16 :: x17 :: x18 :: some x :: s) H1) : tAsg te (gName 19) ⟨nx, rt, bk, ct⟩ (x0 :: x1 :: x2 :: x3 :: x4 :: x5 :: x6 :: x7 :: x8 :: x9 :: x10 :: x11 :: x12 :: x13 :: x14 :: x15 :: x16 :: x17 :: x18 :: y :: s) H := q
theorem w_gn19 {x0 x1 x2 x3 x4 x5 x6 x7 x8 x9 x10 x11 x12 x13 x14 x15 x16 x17 x18 : Option V} {y : Option V} {v : V} {s : L2.St} {H : Hp} {Q : L2.St → Hp → Prop} (q : Q (x0 :: x1 :: x2 :: x3 :: x4 :: x5 :: x6 :: x7 :: x8 :: x9 :: x10 :: x11 :: x12 :: x13 :: x14 :: x15 :: x16 :: x17 :: x18 :: some v :: s) H) : gName 19 v (x0 :: x1 :: x2 :: x3 :: x4 :: x5 :: x6 :: x7 :: x8 :: x9 :: x10 :: x11 :: x12 :: x13 :: x14 :: x15 :: x16 :: x17 :: x18 :: y :: s) H Q := q
theorem w_aug19 {x0 x1 x2 x3 x4 x5 x6 x7 x8 x9 x10 x11 x12 x13 x14 x15 x16 x17 x18 : Option V} {v : V} {s : L2.St} {H : Hp} {te : TE} {ti : TIp} {nx bk ct : L2.St → Hp → Prop} {rt : VK} (q : te (x0 :: x1 :: x2 :: x3 :: x4 :: x5 :: x6 :: x7 :: x8 :: x9 :: x10 :: x11 :: x12 :: x13 :: x14 :: x15 :: x16 :: x17 :: x18 :: some v :: s) H fun y H1 => ti v y H1 fun z H2 => nx (x0 :: x1 :: x2 :: x3 :: x4 :: x5 :: x6 :: x7 :: x8 :: x9 :: x10 :: x11 :: x12 :: x13 :: x14 :: x15 :: x16 :: x17 :: x18 :: some z :: s) H2) : tAug 19 te ti ⟨nx, rt, bk, ct⟩ (x0 :: x1 :: x2 :: x3 :: x4 :: x5 :: x6 :: x7 :: x8 :: x9 :: x10 :: x11 :: x12 :: x13 :: x14 :: x15 :: x16 :: x17 :: x18 :: some v :: s) H := ⟨v, rfl, q⟩
theorem w_var20 {x0 x1 x2 x3 x4 x5 x6 x7 x8 x9 x10 x11 x12 x13 x14 x15 x16 x17 x18 x19 : Option V} {v : V} {s : L2.St} {H : Hp} {Q : VK} (q : Q v H) : tVar 20 (x0 :: x1 :: x2 :: x3 :: x4 :: x5 :: x6 :: x7 :: x8 :: x9 :: x10 :: x11 :: x12 :: x13 :: x14 :: x15 :: x16 :: x17 :: x18 :: x19 :: some v :: s) H Q := ⟨v, rfl, q⟩
theorem w_asg20 {x0 x1 x2 x3 x4 x5 x6 x7 x8 x9 x10 x11 x12 x13 x14 x15 x16 x17 x18 x19 : Option V} {y : Option V} {s : L2.St} {H : Hp} {te : TE} {nx bk ct : L2.St → Hp → Prop} {rt : VK} (q : te (x0 :: x1 :: x2 :: x3 :: x4 :: x5 :: x6 :: x7 :: x8 :: x9 :: x10 :: x11 :: x12 :: x13 :: x14 :: x15 :: x16 :: x17 :: x18 :: x19 :: y :: s) H fun x H1 => nx (x0 :: x1 :: x2 :: x3 :: x4 :: x5 :: x6 :: x7 :: x8 :: x9 :: x10 :: x11 :: x12 :: x13 :: x14 :: x15 :: x16 :: x17 :: x18 :: x19 :: some x :: s) H1) : tAsg te (gName 20) ⟨nx, rt, bk, ct⟩ (x0 :: x1 :: x2 :: x3 :: x4 :: x5 :: x6 :: x7 :: x8 :: x9 :: x10 :: x11 :: x12 :: x13 :: x14 :: x15 :: x16 :: x17 :: x18 :: x19 :: y :: s) H := q
theorem w_gn20 {x0 x1 x2 x3 x4 x5 x6 x7 x8 x9 x10 x11 x12 x13 x14 x15 x16 x17 x18 x19 : Option V} {y : Option V} {v : V} {s : L2.St} {H : Hp} {Q : L2.St → Hp → Prop} (q : Q (x0 :: x1 :: x2 :: x3 :: x4 :: x5 :: x6 :: x7 :: x8 :: x9 :: x10 :: x11 :: x12 :: x13 :: x14 :: x15 :: x16 :: x17 :: x18 :: x19 :: some v :: s) H) : gName 20 v (x0 :: x1 :: x2 :: x3 :: x4 :: x5 :: x6 :: x7 :: x8 :: x9 :: x10 :: x11 :: x12 :: x13 :: x14 :: x15 :: x16 :: x17 :: x18 :: x19 :: y :: s) H Q := q
theorem w_aug20 {x0 x1 x2 x3 x4 x5 x6 x7 x8 x9 x10 x11 x12 x13 x14 x15 x16 x17 x18 x19 : Option V} {v : V} {s : L2.St} {H : Hp} {te : TE} {ti : TIp} {nx bk ct : L2.St → Hp → Prop} {rt : VK} (q : te (x0 :: x1 :: x2 :: x3 :: x4 :: x5 :: x6 :: x7 :: x8 :: x9 :: x10 :: x11 :: x12 :: x13 :: x14 :: x15 :: x16 :: x17 :: x18 :: x19 :: some v :: s) H fun y H1 => ti v y H1 fun z H2 => nx (x0 :: x1 :: x2 :: x3 :: x4 :: x5 :: x6 :: x7 :: x8 :: x9 :: x10 :: x11 :: x12 :: x13 :: x14 :: x15 :: x16 :: x17 :: x18 :: x19 :: some z :: s) H2) : tAug 20 te ti ⟨nx, rt, bk, ct⟩ (x0 :: x1 :: x2 :: x3 :: x4 :: x5 :: x6 :: x7 :: x8 :: x9 :: x10 :: x11 :: x12 :: x13 :: x14 :: x15 :: x16 :: x17 :: x18 :: x19 :: some v :: s) H := ⟨v, rfl, q⟩
theorem w_var21 {x0 x1 x2 x3 x4 x5 x6 x7 x8 x9 x10 x11 x12 x13 x14 x15 x16 x17 x18 x19 x20 : Option V} {v : V} {s : L2.St} {H : Hp} {Q : VK} (q : Q v H) : tVar 21 (x0 :: x1 :: x2 :: x3 :: x4 :: x5 :: x6 :: x7 :: x8 :: x9 :: x10 :: x11 :: x12 :: x13 :: x14 :: x15 :: x16 :: x17 :: x18 :: x19 :: x20 :: some v :: s) H Q := ⟨v, rfl, q⟩
theorem w_asg21 {x0 x1 x2 x3 x4 x5 x6 x7 x8 x9 x10 x11 x12 x13 x14 x15 x16 x17 x18 x19 x20 : Option V} {y : Option V} {s : L2.St} {H : Hp} {te : TE} {nx bk ct : L2.St → Hp → Prop} {rt : VK} (q : te (x0 :: x1 :: x2 :: x3 :: x4 :: x5 :: x6 :: x7 :: x8 :: x9 :: x10 :: x11 :: x12 :: x13 :: x14 :: x15 :: x16 :: x17 :: x18 :: x19 :: x20 :: y :: s) H fun x H1 => nx (x0 :: x1 :: x2 :: x3 :: x4 :: x5 :: x6 :: x7 :: x8 :: x9 :: x10 :: x11 :: x12 :: x13 :: x14 :: x15 :: x16 :: x17 :: x18 :: x19 :: x20 :: some x :: s) H1) : tAsg te (gName 21) ⟨nx, rt, bk, ct⟩ (x0 :: x1 :: x2 :: x3 :: x4 :: x5 :: x6 :: x7 :: x8 :: x9 :: x10 :: x11 :: x12 :: x13 :: x14 :: x15 :: x16 :: x17 :: x18 :: x19 :: x20 :: y :: s) H := q
theorem w_gn21 {x0 x1 x2 x3 x4 x5 x6 x7 x8 x9 x10 x11 x12 x13 x14 x15 x16 x17 x18 x19 x20 : Option V} {y : Option V} {v : V} {s : L2.St} {H : Hp} {Q : L2.St → Hp → Prop} (q : Q (x0 :: x1 :: x2 :: x3 :: x4 :: x5 :: x6 :: x7 :: x8 :: x9 :: x10 :: x11 :: x12 :: x13 :: x14 :: x15 :: x16 :: x17 :: x18 :: x19 :: x20 :: some v :: s) H) : gName 21 v (x0 :: x1 :: x2 :: x3 :: x4 :: x5 :: x6 :: x7 :: x8 :: x9 :: x10 :: x11 :: x12 :: x13 :: x14 :: x15 :: x16 :: x17 :: x18 :: x19 :: x20 :: y :: s) H Q := q
theorem w_aug21 {x0 x1 x2 x3 x4 x5 x6 x7 x8 x9 x10 x11 x12 x13 x14 x15 x16 x17 x18 x19 x20 : Option V} {v : V} {s : L2.St} {H : Hp} {te : TE} {ti : TIp} {nx bk ct : L2.St → Hp → Prop} {rt : VK} (q : te (x0 :: x1 :: x2 :: x3 :: x4 :: x5 :: x6 :: x7 :: x8 :: x9 :: x10 :: x11 :: x12 :: x13 :: x14 :: x15 :: x16 :: x17 :: x18 :: x19 :: x20 :: some v :: s) H fun y H1 => ti v y H1 fun z H2 => nx (x0 :: x1 :: x2 :: x3 :: x4 :: x5 :: x6 :: x7 :: x8 :: x9 :: x10 :: x11 :: x12 :: x13 :: x14 :: x15 :: x16 :: x17 :: x18 :: x19 :: x20 :: some z :: s) H2) : tAug 21 te ti ⟨nx, rt, bk, ct⟩ (x0 :: x1 :: x2 :: x3 :: x4 :: x5 :: x6 :: x7 :: x8 :: x9 :: x10 :: x11 :: x12 :: x13 :: x14 :: x15 :: x16 :: x17 :: x18 :: x19 :: x20 :: some v :: s) H := ⟨v, rfl, q⟩
theorem w_var22 {x0 x1 x2 x3 x4 x5 x6 x7 x8 x9 x10 x11 x12 x13 x14 x15 x16 x17 x18 x19 x20 x21 : Option V} {v : V} {s : L2.St} {H : Hp} {Q : VK} (q : Q v H) : tVar 22 (x0 :: x1 :: x2 :: x3 :: x4 :: x5 :: x6 :: x7 :: x8 :: x9 :: x10 :: x11 :: x12 :: x13 :: x14 :: x15 :: x16 :: x17 :: x18 :: x19 :: x20 :: x21 :: some v :: s) H Q := ⟨v, rfl, q⟩
theorem w_asg22 {x0 x1 x2 x3 x4 x5 x6 x7 x8 x9 x10 x11 x12 x13 x14 x15 x16 x17 x18 x19 x20 x21 : Option V} {y : Option V} {s : L2.St} {H : Hp} {te : TE} {nx bk ct : L2.St → Hp → Prop} {rt : VK} (q : te (x0 :: x1 :: x2 :: x3 :: x4 :: x5 :: x6 :: x7 :: x8 :: x9 :: x10 :: x11 :: x12 :: x13 :: x14 :: x15 :: x16 :: x17 :: x18 :: x19 :: x20 :: x21 :: y :: s) H fun x H1 => nx (x0 :: x1 :: x2 :: x3 :: x4 :: x5 :: x6 :: x7 :: x8 :: x9 :: x10 :: x11 :: x12 :: x13 :: x14 :: x15 :: x16 :: x17 :: x18 :: x19 :: x20 :: x21 :: some x :: s) H1) : tAsg te (gName 22) ⟨nx, rt, bk, ct⟩ (x0 :: x1 :: x2 :: x3 :: x4 :: x5 :: x6 :: x7 :: x8 :: x9 :: x10 :: x11 :: x12 :: x13 :: x14 :: x15 :: x16 :: x17 :: x18 :: x19 :: x20 :: x21 :: y :: s) H := q
theorem w_gn22 {x0 x1 x2 x3 x4 x5 x6 x7 x8 x9 x10 x11 x12 x13 x14 x15 x16 x17 x18 x19 x20 x21 : Option V} {y : Option V} {v : V} {s : L2.St} {H : Hp} {Q : L2.St → Hp → Prop} (q : Q (x0 :: x1 :: x2 :: x3 :: x4 :: x5 :: x6 :: x7 :: x8 :: x9 :: x10 :: x11 :: x12 :: x13 :: x14 :: x15 :: x16 :: x17 :: x18 :: x19 :: x20 :: x21 :: some v :: s) H) : gName 22 v (x0 :: x1 :: x2 :: x3 :: x4 :: x5 :: x6 :: x7 :: x8 :: x9 :: x10 :: x11 :: x12 :: x13 :: x14 :: x15 :: x16 :: x17 :: x18 :: x19 :: x20 :: x21 :: y :: s) H Q := q
theorem w_aug22 {x0 x1 x2 x3 x4 x5 x6 x7 x8 x9 x10 x11 x12 x13 x14 x15 x16 x17 x18 x19 x20 x21 : Option V} {v : V} {s : L2.St} {H : Hp} {te : TE} {ti : TIp} {nx bk ct : L2.St → Hp → Prop} {rt : VK} (q : te (x0 :: x1 :: x2 :: x3 :: x4 :: x5 :: x6 :: x7 :: x8 :: x9 :: x10 :: x11 :: x12 :: x13 :: x14 :: x15 :: x16 :: x17 :: x18 :: x19 :: x20 :: x21 :: some v :: s) H fun y H1 => ti v y H1 fun z H2 => nx (x0 :: x1 :: x2 :: x3 :: x4 :: x5 :: x6 :: x7 :: x8 :: x9 :: x10 :: x11 :: x12 :: x13 :: x14 :: x15 :: x16 :: x17 :: x18 :: x19 :: x20 :: x21 :: some z :: s) H2) : tAug 22 te ti ⟨nx, rt, bk, ct⟩ (x0 :: x1 :: x2 :: x3 :: x4 :: x5 :: x6 :: x7 :: x8 :: x9 :: x10 :: x11 :: x12 :: x13 :: x14 :: x15 :: x16 :: x17 :: x18 :: x19 :: x20 :: x21 :: some v :: s) H := ⟨v, rfl, q⟩
theorem w_var23 {x0 x1 x2 x3 x4 x5 x6 x7 x8 x9 x10 x11 x12 x13 x14 x15 x16 x17 x18 x19 x20 x21 x22 : Option V} {v : V} {s : L2.St} {H : Hp} {Q : VK} (q : Q v H) : tVar 23 (x0 :: x1 :: x2 :: x3 :: x4 :: x5 :: x6 :: x7 :: x8 :: x9 :: x10 :: x11 :: x12 :: x13 :: x14 :: x15 :: x16 :: x17 :: x18 :: x19 :: x20 :: x21 :: x22 :: some v :: s) H Q := ⟨v, rfl, q⟩
theorem w_asg23 {x0 x1 x2 x3 x4 x5 x6 x7 x8 x9 x10 x11 x12 x13 x14 x15 x16 x17 x18 x19 x20 x21 x22 : Option V} {y : Option V} {s : L2.St} {H : Hp} {te : TE} {nx bk ct : L2.St → Hp → Prop} {rt : VK} (q : te (x0 :: x1 :: x2 :: x3 :: x4 :: x5 :: x6 :: x7 :: x8 :: x9 :: x10 :: x11 :: x12 :: x13 :: x14 :: x15 :: x16 :: x17 :: x18 :: x19 :: x20 :: x21 :: x22 :: y :: s) H fun x H1 => nx (x0 :: x1 :: x2 :: x3 :: x4 :: x5 :: x6 :: x7 :: x8 :: x9 :: x10 :: x11 :: x12 :: x13 :: x14 :: x15 :: x16 :: x17 :: x18 :: x19 :: x20 :: x21 :: x22 :: some x :: s) H1) : tAsg te (gName 23) ⟨nx, rt, bk, ct⟩ (x0 :: x1 :: x2 :: x3 :: x4 :: x5 :: x6 :: x7 :: x8 :: x9 :: x10 :: x11 :: x12 :: x13 :: x14 :: x15 :: x16 :: x17 :: x18 :: x19 :: x20 :: x21 :: x22 :: y :: s) H := q
theorem w_gn23 {x0 x1 x2 x3 x4 x5 x6 x7 x8 x9 x10 x11 x12 x13 x14 x15 x16 x17 x18 x19 x20 x21 x22 : Option V} {y : Option V} {v : V} {s : L2.St} {H : Hp} {Q : L2.St → Hp → Prop} (q : Q (x0 :: x1 :: x2 :: x3 :: x4 :: x5 :: x6 :: x7 :: x8 :: x9 :: x10 :: x11 :: x12 :: x13 :: x14 :: x15 :: x16 :: x17 :: x18 :: x19 :: x20 :: x21 :: x22 :: some v :: s) H) : gName 23 v (x0 :: x1 :: x2 :: x3 :: x4 :: x5 :: x6 :: x7 :: x8 :: x9 :: x10 :: x11 :: x12 :: x13 :: x14 :: x15 :: x16 :: x17 :: x18 :: x19 :: x20 :: x21 :: x22 :: y :: s) H Q := q
theorem w_aug23 {x0 x1 x2 x3 x4 x5 x6 x7 x8 x9 x10 x11 x12 x13 x14 x15 x16 x17 x18 x19 x20 x21 x22 : Option V} {v : V} {s : L2.St} {H : Hp} {te : TE} {ti : TIp} {nx bk ct : L2.St → Hp → Prop} {rt : VK} (q : te (x0 :: x1 :: x2 :: x3 :: x4 :: x5 :: x6 :: x7 :: x8 :: x9 :: x10 :: x11 :: x12 :: x13 :: x14 :: x15 :: x16 :: x17 :: x18 :: x19 :: x20 :: x21 :: x22 :: some v :: s) H fun y H1 => ti v y H1 fun z H2 => nx (x0 :: x1 :: x2 :: x3 :: x4 :: x5 :: x6 :: x7 :: x8 :: x9 :: x10 :: x11 :: x12 :: x13 :: x14 :: x15 :: x16 :: x17 :: x18 :: x19 :: x20 :: x21 :: x22 :: some z :: s) H2) : tAug 23 te ti ⟨nx, rt, bk, ct⟩ (x0 :: x1 :: x2 :: x3 :: x4 :: x5 :: x6 :: x7 :: x8 :: x9 :: x10 :: x11 :: x12 :: x13 :: x14 :: x15 :: x16 :: x17 :: x18 :: x19 :: x20 :: x21 :: x22 :: some v :: s) H := ⟨v, rfl, q⟩
theorem w_var24 {x0 x1 x2 x3 x4 x5 x6 x7 x8 x9 x10 x11 x12 x13 x14 x15 x16 x17 x18 x19 x20 x21 x22 x23 : Option V} {v : V} {s : L2.St} {H : Hp} {Q : VK} (q : Q v H) : tVar 24 (x0 :: x1 :: x2 :: x3 :: x4 :: x5 :: x6 :: x7 :: x8 :: x9 :: x10 :: x11 :: x12 :: x13 :: x14 :: x15 :: x16 :: x17 :: x18 :: x19 :: x20 :: x21 :: x22 :: x23 :: some v :: s) H Q := ⟨v, rfl, q⟩
theorem w_asg24 {x0 x1 x2 x3 x4 x5 x6 x7 x8 x9 x10 x11 x12 x13 x14 x15 x16 x17 x18 x19 x20 x21 x22 x23 : Option V} {y : Option V} {s : L2.St} {H : Hp} {te : TE} {nx bk ct : L2.St → Hp → Prop} {rt : VK} (q : te (x0 :: x1 :: x2 :: x3 :: x4 :: x5 :: x6 :: x7 :: x8 :: x9 :: x10 :: x11 :: x12 :: x13 :: x14 :: x15 :: x16 :: x17 :: x18 :: x19 :: x20 :: x21 :: x22 :: x23 :: y :: s) H fun x H1 => nx (x0 :: x1 :: x2 :: x3 :: x4 :: x5 :: x6 :: x7 :: x8 :: x9 :: x10 :: x11 :: x12 :: x13 :: x14 :: x15 :: x16 :: x17 :: x18 :: x19 :: x20 :: x21 :: x22 :: x23 :: some x :: s) H1) : tAsg te (gName 24) ⟨nx, rt, bk, ct⟩ (x0 :: x1 :: x2 :: x3 :: x4 :: x5 :: x6 :: x7 :: x8 :: x9 :: x10 :: x11 :: x12 :: x13 :: x14 :: x15 :: x16 :: x17 :: x18 :: x19 :: x20 :: x21 :: x22 :: x23 :: y :: s) H := q
theorem w_gn24 {x0 x1 x2 x3 x4 x5 x6 x7 x8 x9 x10 x11 x12 x13 x14 x15 x16 x17 x18 x19 x20 x21 x22 x23 : Option V} {y : Option V} {v : V} {s : L2.St} {H : Hp} {Q : L2.St → Hp → Prop} (q : Q (x0 :: x1 :: x2 :: x3 :: x4 :: x5 :: x6 :: x7 :: x8 :: x9 :: x10 :: x11 :: x12 :: x13 :: x14 :: x15 :: x16 :: x17 :: x18 :: x19 :: x20 :: x21 :: x22 :: x23 :: some v :: s) H) : gName 24 v (x0 :: x1 :: x2 :: x3 :: x4 :: x5 :: x6 :: x7 :: x8 :: x9 :: x10 :: x11 :: x12 :: x13 :: x14 :: x15 :: x16 :: x17 :: x18 :: x19 :: x20 :: x21 :: x22 :: x23 :: y :: s) H Q := q
theorem w_aug24 {x0 x1 x2 x3 x4 x5 x6 x7 x8 x9 x10 x11 x12 x13 x14 x15 x16 x17 x18 x19 x20 x21 x22 x23 : Option V} {v : V} {s : L2.St} {H : Hp} {te : TE} {ti : TIp} {nx bk ct : L2.St → Hp → Prop} {rt : VK} (q : te (x0 :: x1 :: x2 :: x3 :: x4 :: x5 :: x6 :: x7 :: x8 :: x9 :: x10 :: x11 :: x12 :: x13 :: x14 :: x15 :: x16 :: x17 :: x18 :: x19 :: x20 :: x21 :: x22 :: x23 :: some v :: s) H fun y H1 => ti v y H1 fun z H2 => nx (x0 :: x1 :: x2 :: x3 :: x4 :: x5 :: x6 :: x7 :: x8 :: x9 :: x10 :: x11 :: x12 :: x13 :: x14 :: x15 :: x16 :: x17 :: x18 :: x19 :: x20 :: x21 :: x22 :: x23 :: some z :: s) H2) : tAug 24 te ti ⟨nx, rt, bk, ct⟩ (x0 :: x1 :: x2 :: x3 :: x4 :: x5 :: x6 :: x7 :: x8 :: x9 :: x10 :: x11 :: x12 :: x13 :: x14 :: x15 :: x16 :: x17 :: x18 :: x19 :: x20 :: x21 :: x22 :: x23 :: some v :: s) H := ⟨v, rfl, q⟩
theorem w_var25 {x0 x1 x2 x3 x4 x5 x6 x7 x8 x9 x10 x11 x12 x13 x14 x15 x16 x17 x18 x19 x20 x21 x22 x23 x24 : Option V} {v : V} {s : L2.St} {H : Hp} {Q : VK} (q : Q v H) : tVar 25 (x0 :: x1 :: x2 :: x3 :: x4 :: x5 :: x6 :: x7 :: x8 :: x9 :: x10 :: x11 :: x12 :: x13 :: x14 :: x15 :: x16 :: x17 :: x18 :: x19 :: x20 :: x21 :: x22 :: x23 :: x24 :: some v :: s) H Q := ⟨v, rfl, q⟩
theorem w_asg25 {x0 x1 x2 x3 x4 x5 x6 x7 x8 x9 x10 x11 x12 x13 x14 x15 x16 x17 x18 x19 x20 x21 x22 x23 x24 : Option V} {y : Option V} {s : L2.St} {H : Hp} {te : TE} {nx bk ct : L2.St → Hp → Prop} {rt : VK} (q : te (x0 :: x1 :: x2 :: x3 :: x4 :: x5 :: x6 :: x7 :: x8 :: x9 :: x10 :: x11 :: x12 :: x13 :: x14 :: x15 :: x16 :: x17 :: x18 :: x19 :: x20 :: x21 :: x22 :: x23 :: x24 :: y :: s) H fun x H1 => nx (x0 :: x1 :: x2 :: x3 :: x4 :: x5 :: x6 :: x7 :: x8 :: x9 :: x10 :: x11 :: x12 :: x13 :: x14 :: x15 :: x16 :: x17 :: x18 :: x19 :: x20 :: x21 :: x22 :: x23 :: x24 :: some x :: s) H1) : tAsg te (gName 25) ⟨nx, rt, bk, ct⟩ (x0 :: x1 :: x2 :: x3 :: x4 :: x5 :: x6 :: x7 :: x8 :: x9 :: x10 :: x11 :: x12 :: x13 :: x14 :: x15 :: x16 :: x17 :: x18 :: x19 :: x20 :: x21 :: x22 :: x23 :: x24 :: y :: s) H := q
theorem w_gn25 {x0 x1 x2 x3 x4 x5 x6 x7 x8 x9 x10 x11 x12 x13 x14 x15 x16 x17 x18 x19 x20 x21 x22 x23 x24 : Option V} {y : Option V} {v : V} {s : L2.St} {H : Hp} {Q : L2.St → Hp → Prop} (q : Q (x0 :: x1 :: x2 :: x3 :: x4 :: x5 :: x6 :: x7 :: x8 :: x9 :: x10 :: x11 :: x12 :: x13 :: x14 :: x15 :: x16 :: x17 :: x18 :: x19 :: x20 :: x21 :: x22 :: x23 :: x24 :: some v :: s) H) : gName 25 v (x0 :: x1 :: x2 :: x3 :: x4 :: x5 :: x6 :: x7 :: x8 :: x9 :: x10 :: x11 :: x12 :: x13 :: x14 :: x15 :: x16 :: x17 :: x18 :: x19 :: x20 :: x21 :: x22 :: x23 :: x24 :: y :: s) H Q := q
theorem w_aug25 {x0 x1 x2 x3 x4 x5 x6 x7 x8 x9 x10 x11 x12 x13 x14 x15 x16 x17 x18 x19 x20 x21 x22 x23 x24 : Option V} {v : V} {s : L2.St} {H : Hp} {te : TE} {ti : TIp} {nx bk ct : L2.St → Hp → Prop} {rt : VK} (q : te (x0 :: x1 :: x2 :: x3 :: x4 :: x5 :: x6 :: x7 :: x8 :: x9 :: x10 :: x11 :: x12 :: x13 :: x14 :: x15 :: x16 :: x17 :: x18 :: x19 :: x20 :: x21 :: x22 :: x23 :: x24 :: some v :: s) H fun y H1 => ti v y H1 fun z H2 => nx (x0 :: x1 :: x2 :: x3 :: x4 :: x5 :: x6 :: x7 :: x8 :: x9 :: x10 :: x11 :: x12 :: x13 :: x14 :: x15 :: x16 :: x17 :: x18 :: x19 :: x20 :: x21 :: x22 :: x23 :: x24 :: some z :: s) H2) : tAug 25 te ti ⟨nx, rt, bk, ct⟩ (x0 :: x1 :: x2 :: x3 :: x4 :: x5 :: x6 :: x7 :: x8 :: x9 :: x10 :: x11 :: x12 :: x13 :: x14 :: x15 :: x16 :: x17 :: x18 :: x19 :: x20 :: x21 :: x22 :: x23 :: x24 :: some v :: s) H := ⟨v, rfl, q⟩
theorem w_var26 {x0 x1 x2 x3 x4 x5 x6 x7 x8 x9 x10 x11 x12 x13 x14 x15 x16 x17 x18 x19 x20 x21 x22 x23 x24 x25 : Option V} {v : V} {s : L2.St} {H : Hp} {Q : VK} (q : Q v H) : tVar 26 (x0 :: x1 :: x2 :: x3 :: x4 :: x5 :: x6 :: x7 :: x8 :: x9 :: x10 :: x11 :: x12 :: x13 :: x14 :: x15 :: x16 :: x17 :: x18 :: x19 :: x20 :: x21 :: x22 :: x23 :: x24 :: x25 :: some v :: s) H Q := ⟨v, rfl, q⟩
theorem w_asg26 {x0 x1 x2 x3 x4 x5 x6 x7 x8 x9 x10 x11 x12 x13 x14 x15 x16 x17 x18 x19 x20 x21 x22 x23 x24 x25 : Option V} {y : Option V} {s : L2.St} {H : Hp} {te : TE} {nx bk ct : L2.St → Hp → Prop} {rt : VK} (q : te (x0 :: x1 :: x2 :: x3 :: x4 :: x5 :: x6 :: x7 :: x8 :: x9 :: x10 :: x11 :: x12 :: x13 :: x14 :: x15 :: x16 :: x17 :: x18 :: x19 :: x20 :: x21 :: x22 :: x23 :: x24 :: x25 :: y :: s) H fun x H1 => nx (x0 :: x1 :: x2 :: x3 :: x4 :: x5 :: x6 :: x7 :: x8 :: x9 :: x10 :: x11 :: x12 :: x13 :: x14 :: x15 :: x16 :: x17 :: x18 :: x19 :: x20 :: x21 :: x22 :: x23 :: x24 :: x25 :: some x :: s) H1) : tAsg te (gName 26) ⟨nx, rt, bk, ct⟩ (x0 :: x1 :: x2 :: x3 :: x4 :: x5 :: x6 :: x7 :: x8 :: x9 :: x10 :: x11 :: x12 :: x13 :: x14 :: x15 :: x16 :: x17 :: x18 :: x19 :: x20 :: x21 :: x22 :: x23 :: x24 :: x25 :: y :: s) H := q
theorem w_gn26 {x0 x1 x2 x3 x4 x5 x6 x7 x8 x9 x10 x11 x12 x13 x14 x15 x16 x17 x18 x19 x20 x21 x22 x23 x24 x25 : Option V} {y : Option V} {v : V} {s : L2.St} {H : Hp} {Q : L2.St → Hp → Prop} (q : Q (x0 :: x1 :: x2 :: x3 :: x4 :: x5 :: x6 :: x7 :: x8 :: x9 :: x10 :: x11 :: x12 :: x13 :: x14 :: x15 :: x16 :: x17 :: x18 :: x19 :: x20 :: x21 :: x22 :: x23 :: x24 :: x25 :: some v :: s) H) : gName 26 v (x0 :: x1 :: x2 :: x3 :: x4 :: x5 :: x6 :: x7 :: x8 :: x9 :: x10 :: x11 :: x12 :: x13 :: x14 :: x15 :: x16 :: x17 :: x18 :: x19 :: x20 :: x21 :: x22 :: x23 :: x24 :: x25 :: y :: s) H Q := q
theorem w_aug26 {x0 x1 x2 x3 x4 x5 x6 x7 x8 x9 x10 x11 x12 x13 x14 x15 x16 x17 x18 x19 x20 x21 x22 x23 x24 x25 : Option V} {v : V} {s : L2.St} {H : Hp} {te : TE} {ti : TIp} {nx bk ct : L2.St → Hp → Prop} {rt : VK} (q : te (x0 :: x1 :: x2 :: x3 :: x4 :: x5 :: x6 :: x7 :: x8 :: x9 :: x10 :: x11 :: x12 :: x13 :: x14 :: x15 :: x16 :: x17 :: x18 :: x19 :: x20 :: x21 :: x22 :: x23 :: x24 :: x25 :: some v :: s) H fun y H1 => ti v y H1 fun z H2 => nx (x0 :: x1 :: x2 :: x3 :: x4 :: x5 :: x6 :: x7 :: x8 :: x9 :: x10 :: x11 :: x12 :: x13 :: x14 :: x15 :: x16 :: x17 :: x18 :: x19 :: x20 :: x21 :: x22 :: x23 :: x24 :: x25 :: some z :: s) H2) : tAug 26 te ti ⟨nx, rt, bk, ct⟩ (x0 :: x1 :: x2 :: x3 :: x4 :: x5 :: x6 :: x7 :: x8 :: x9 :: x10 :: x11 :: x12 :: x13 :: x14 :: x15 :: x16 :: x17 :: x18 :: x19 :: x20 :: x21 :: x22 :: x23 :: x24 :: x25 :: some v :: s) H := ⟨v, rfl, q⟩
theorem w_var27 {x0 x1 x2 x3 x4 x5 x6 x7 x8 x9 x10 x11 x12 x13 x14 x15 x16 x17 x18 x19 x20 x21 x22 x23 x24 x25 x26 : Option V} {v : V} {s : L2.St} {H : Hp} {Q : VK} (q : Q v H) : tVar 27 (x0 :: x1 :: x2 :: x3 :: x4 :: x5 :: x6 :: x7 :: x8 :: x9 :: x10 :: x11 :: x12 :: x13 :: x14 :: x15 :: x16 :: x17 :: x18 :: x19 :: x20 :: x21 :: x22 :: x23 :: x24 :: x25 :: x26 :: some v :: s) H Q := ⟨v, rfl, q⟩
theorem w_asg27 {x0 x1 x2 x3 x4 x5 x6 x7 x8 x9 x10 x11 x12 x13 x14 x15 x16 x17 x18 x19 x20 x21 x22 x23 x24 x25 x26 : Option V} {y : Option V} {s : L2.St} {H : Hp} {te : TE} {nx bk ct : L2.St → Hp → Prop} {rt : VK} (q : te (x0 :: x1 :: x2 :: x3 :: x4 :: x5 :: x6 :: x7 :: x8 :: x9 :: x10 :: x11 :: x12 :: x13 :: x14 :: x15 :: x16 :: x17 :: x18 :: x19 :: x20 :: x21 :: x22 :: x23 :: x24 :: x25 :: x26 :: y :: s) H fun x H1 => nx (x0 :: x1 :: x2 :: x3 :: x4 :: x5 :: x6 :: x7 :: x8 :: x9 :: x10 :: x11 :: x12 :: x13 :: x14 :: x15 :: x16 :: x17 :: x18 :: x19 :: x20 :: x21 :: x22 :: x23 :: x24 :: x25 :: x26 :: some x :: s) H1) : tAsg te (gName 27) ⟨nx, rt, bk, ct⟩ (x0 :: x1 :: x2 :: x3 :: x4 :: x5 :: x6 :: x7 :: x8 :: x9 :: x10 :: x11 :: x12 :: x13 :: x14 :: x15 :: x16 :: x17 :: x18 :: x19 :: x20 :: x21 :: x22 :: x23 :: x24 :: x25 :: x26 :: y :: s) H := q
theorem w_gn27 {x0 x1 x2 x3 x4 x5 x6 x7 x8 x9 x10 x11 x12 x13 x14 x15 x16 x17 x18 x19 x20 x21 x22 x23 x24 x25 x26 : Option V} {y : Option V} {v : V} {s : L2.St} {H : Hp} {Q : L2.St → Hp → Prop} (q : Q (x0 :: x1 :: x2 :: x3 :: x4 :: x5 :: x6 :: x7 :: x8 :: x9 :: x10 :: x11 :: x12 :: x13 :: x14 :: x15 :: x16 :: x17 :: x18 :: x19 :: x20 :: x21 :: x22 :: x23 :: x24 :: x25 :: x26 :: some v :: s) H) : gName 27 v (x0 :: x1 :: x2 :: x3 :: x4 :: x5 :: x6 :: x7 :: x8 :: x9 :: x10 :: x11 :: x12 :: x13 :: x14 :: x15 :: x16 :: x17 :: x18 :: x19 :: x20 :: x21 :: x22 :: x23 :: x24 :: x25 :: x26 :: y :: s) H Q := q
theorem w_aug27 {x0 x1 x2 x3 x4 x5 x6 x7 x8 x9 x10 x11 x12 x13 x14 x15 x16 x17 x18 x19 x20 x21 x22 x23 x24 x25 x26 : Option V} {v : V} {s : L2.St} {H : Hp} {te : TE} {ti : TIp} {nx bk ct : L2.St → Hp → Prop} {rt : VK} (q : te (x0 :: x1 :: x2 :: x3 :: x4 :: x5 :: x6 :: x7 :: x8 :: x9 :: x10 :: x11 :: x12 :: x13 :: x14 :: x15 :: x16 :: x17 :: x18 :: x19 :: x20 :: x21 :: x22 :: x23 :: x24 :: x25 :: x26 :: some v :: s) H fun y H1 => ti v y H1 fun z H2 => nx (x0 :: x1 :: x2 :: x3 :: x4 :: x5 :: x6 :: x7 :: x8 :: x9 :: x10 :: x11 :: x12 :: x13 :: x14 :: x15 :: x16 :: x17 :: x18 :: x19 :: x20 :: x21 :: x22 :: x23 :: x24 :: x25 :: x26 :: some z :: s) H2) : tAug 27 te ti ⟨nx, rt, bk, ct⟩ (x0 :: x1 :: x2 :: x3 :: x4 :: x5 :: x6 :: x7 :: x8 :: x9 :: x10 :: x11 :: x12 :: x13 :: x14 :: x15 :: x16 :: x17 :: x18 :: x19 :: x20 :: x21 :: x22 :: x23 :: x24 :: x25 :: x26 :: some v :: s) H := ⟨v, rfl, q⟩
theorem w_var28 {x0 x1 x2 x3 x4 x5 x6 x7 x8 x9 x10 x11 x12 x13 x14 x15 x16 x17 x18 x19 x20 x21 x22 x23 x24 x25 x26 x27 : Option V} {v : V} {s : L2.St} {H : Hp} {Q : VK} (q : Q v H) : tVar 28 (x0 :: x1 :: x2 :: x3 :: x4 :: x5 :: x6 :: x7 :: x8 :: x9 :: x10 :: x11 :: x12 :: x13 :: x14 :: x15 :: x16 :: x17 :: x18 :: x19 :: x20 :: x21 :: x22 :: x23 :: x24 :: x25 :: x26 :: x27 :: some v :: s) H Q := ⟨v, rfl, q⟩
theorem w_asg28 {x0 x1 x2 x3 x4 x5 x6 x7 x8 x9 x10 x11 x12 x13 x14 x15 x16 x17 x18 x19 x20 x21 x22 x23 x24 x25 x26 x27 : Option V} {y : Option V} {s : L2.St} {H : Hp} {te : TE} {nx bk ct : L2.St → Hp → Prop} {rt : VK} (q : te (x0 :: x1 :: x2 :: x3 :: x4 :: x5 :: x6 :: x7 :: x8 :: x9 :: x10 :: x11 :: x12 :: x13 :: x14 :: x15 :: x16 :: x17 :: x18 :: x19 :: x20 :: x21 :: x22 :: x23 :: x24 :: x25 :: x26 :: x27 :: y :: s) H fun x H1 => nx (x0 :: x1 :: x2 :: x3 :: x4 :: x5 :: x6 :: x7 :: x8 :: x9 :: x10 :: x11 :: x12 :: x13 :: x14 :: x15 :: x16 :: x17 :: x18 :: x19 :: x20 :: x21 :: x22 :: x23 :: x24 :: x25 :: x26 :: x27 :: some x :: s) H1) : tAsg te (gName 28) ⟨nx, rt, bk, ct⟩ (x0 :: x1 :: x2 :: x3 :: x4 :: x5 :: x6 :: x7 :: x8 :: x9 :: x10 :: x11 :: x12 :: x13 :: x14 :: x15 :: x16 :: x17 :: x18 :: x19 :: x20 :: x21 :: x22 :: x23 :: x24 :: x25 :: x26 :: x27 :: y :: s) H := q
theorem w_gn28 {x0 x1 x2 x3 x4 x5 x6 x7 x8 x9 x10 x11 x12 x13 x14 x15 x16 x17 x18 x19 x20 x21 x22 x23 x24 x25 x26 x27 : Option V} {y : Option V} {v : V} {s : L2.St} {H : Hp} {Q : L2.St → Hp → Prop} (q : Q (x0 :: x1 :: x2 :: x3 :: x4 :: x5 :: x6 :: x7 :: x8 :: x9 :: x10 :: x11 :: x12 :: x13 :: x14 :: x15 :: x16 :: x17 :: x18 :: x19 :: x20 :: x21 :: x22 :: x23 :: x24 :: x25 :: x26 :: x27 :: some v :: s) H) : gName 28 v (x0 :: x1 :: x2 :: x3 :: x4 :: x5 :: x6 :: x7 :: x8 :: x9 :: x10 :: x11 :: x12 :: x13 :: x14 :: x15 :: x16 :: x17 :: x18 :: x19 :: x20 :: x21 :: x22 :: x23 :: x24 :: x25 :: x26 :: x27 :: y :: s) H Q := q
theorem w_aug28 {x0 x1 x2 x3 x4 x5 x6 x7 x8 x9 x10 x11 x12 x13 x14 x15 x16 x17 x18 x19 x20 x21 x22 x23 x24 x25 x26 x27 : Option V} {v : V} {s : L2.St} {H : Hp} {te : TE} {ti : TIp} {nx bk ct : L2.St → Hp → Prop} {rt : VK} (q : te (x0 :: x1 :: x2 :: x3 :: x4 :: x5 :: x6 :: x7 :: x8 :: x9 :: x10 :: x11 :: x12 :: x13 :: x14 :: x15 :: x16 :: x17 :: x18 :: x19 :: x20 :: x21 :: x22 :: x23 :: x24 :: x25 :: x26 :: x27 :: some v :: s) H fun y H1 => ti v y H1 fun z H2 => nx (x0 :: x1 :: x2 :: x3 :: x4 :: x5 :: x6 :: x7 :: x8 :: x9 :: x10 :: x11 :: x12 :: x13 :: x14 :: x15 :: x16 :: x17 :: x18 :: x19 :: x20 :: x21 :: x22 :: x23 :: x24 :: x25 :: x26 :: x27 :: some z :: s) H2) : tAug 28 te ti ⟨nx, rt, bk, ct⟩ (x0 :: x1 :: x2 :: x3 :: x4 :: x5 :: x6 :: x7 :: x8 :: x9 :: x10 :: x11 :: x12 :: x13 :: x14 :: x15 :: x16 :: x17 :: x18 :: x19 :: x20 :: x21 :: x22 :: x23 :: x24 :: x25 :: x26 :: x27 :: some v :: s) H := ⟨v, rfl, q⟩
theorem w_var29 {x0 x1 x2 x3 x4 x5 x6 x7 x8 x9 x10 x11 x12 x13 x14 x15 x16 x17 x18 x19 x20 x21 x22 x23 x24 x25 x26 x27 x28 : Option V} {v : V} {s : L2.St} {H : Hp} {Q : VK} (q : Q v H) : tVar 29 (x0 :: x1 :: x2 :: x3 :: x4 :: x5 :: x6 :: x7 :: x8 :: x9 :: x10 :: x11 :: x12 :: x13 :: x14 :: x15 :: x16 :: x17 :: x18 :: x19 :: x20 :: x21 :: x22 :: x23 :: x24 :: x25 :: x26 :: x27 :: x28 :: some v :: s) H Q := ⟨v, rfl, q⟩
theorem w_asg29 {x0 x1 x2 x3 x4 x5 x6 x7 x8 x9 x10 x11 x12 x13 x14 x15 x16 x17 x18 x19 x20 x21 x22 x23 x24 x25 x26 x27 x28 : Option V} {y : Option V} {s : L2.St} {H : Hp} {te : TE} {nx bk ct : L2.St → Hp → Prop} {rt : VK} (q : te (x0 :: x1 :: x2 :: x3 :: x4 :: x5 :: x6 :: x7 :: x8 :: x9 :: x10 :: x11 :: x12 :: x13 :: x14 :: x15 :: x16 :: x17 :: x18 :: x19 :: x20 :: x21 :: x22 :: x23 :: x24 :: x25 :: x26 :: x27 :: x28 :: y :: s) H fun x H1 => nx (x0 :: x1 :: x2 :: x3 :: x4 :: x5 :: x6 :: x7 :: x8 :: x9 :: x10 :: x11 :: x12 :: x13 :: x14 :: x15 :: x16 :: x17 :: x18 :: x19 :: x20 :: x21 :: x22 :: x23 :: x24 :: x25 :: x26 :: x27 :: x28 :: some x :: s) H1) : tAsg te (gName 29) ⟨nx, rt, bk, ct⟩ (x0 :: x1 :: x2 :: x3 :: x4 :: x5 :: x6 :: x7 :: x8 :: x9 :: x10 :: x11 :: x12 :: x13 :: x14 :: x15 :: x16 :: x17 :: x18 :: x19 :: x20 :: x21 :: x22 :: x23 :: x24 :: x25 :: x26 :: x27 :: x28 :: y :: s) H := q
theorem w_gn29 {x0 x1 x2 x3 x4 x5 x6 x7 x8 x9 x10 x11 x12 x13 x14 x15 x16 x17 x18 x19 x20 x21 x22 x23 x24 x25 x26 x27 x28 : Option V} {y : Option V} {v : V} {s : L2.St} {H : Hp} {Q : L2.St → Hp → Prop} (q : Q (x0 :: x1 :: x2 :: x3 :: x4 :: x5 :: x6 :: x7 :: x8 :: x9 :: x10 :: x11 :: x12 :: x13 :: x14 :: x15 :: x16 :: x17 :: x18 :: x19 :: x20 :: x21 :: x22 :: x23 :: x24 :: x25 :: x26 :: x27 :: x28 :: some v :: s) H) : gName 29 v (x0 :: x1 :: x2 :: x3 :: x4 :: x5 :: x6 :: x7 :: x8 :: x9 :: x10 :: x11 :: x12 :: x13 :: x14 :: x15 :: x16 :: x17 :: x18 :: x19 :: x20 :: x21 :: x22 :: x23 :: x24 :: x25 :: x26 :: x27 :: x28 :: y :: s) H Q := q
theorem w_aug29 {x0 x1 x2 x3 x4 x5 x6 x7 x8 x9 x10 x11 x12 x13 x14 x15 x16 x17 x18 x19 x20 x21 x22 x23 x24 x25 x26 x27 x28 : Option V} {v : V} {s : L2.St} {H : Hp} {te : TE} {ti : TIp} {nx bk ct : L2.St → Hp → Prop} {rt : VK} (q : te (x0 :: x1 :: x2 :: x3 :: x4 :: x5 :: x6 :: x7 :: x8 :: x9 :: x10 :: x11 :: x12 :: x13 :: x14 :: x15 :: x16 :: x17 :: x18 :: x19 :: x20 :: x21 :: x22 :: x23 :: x24 :: x25 :: x26 :: x27 :: x28 :: some v :: s) H fun y H1 => ti v y H1 fun z H2 => nx (x0 :: x1 :: x2 :: x3 :: x4 :: x5 :: x6 :: x7 :: x8 :: x9 :: x10 :: x11 :: x12 :: x13 :: x14 :: x15 :: x16 :: x17 :: x18 :: x19 :: x20 :: x21 :: x22 :: x23 :: x24 :: x25 :: x26 :: x27 :: x28 :: some z :: s) H2) : tAug 29 te ti ⟨nx, rt, bk, ct⟩ (x0 :: x1 :: x2 :: x3 :: x4 :: x5 :: x6 :: x7 :: x8 :: x9 :: x10 :: x11 :: x12 :: x13 :: x14 :: x15 :: x16 :: x17 :: x18 :: x19 :: x20 :: x21 :: x22 :: x23 :: x24 :: x25 :: x26 :: x27 :: x28 :: some v :: s) H := ⟨v, rfl, q⟩
theorem w_var30 {x0 x1 x2 x3 x4 x5 x6 x7 x8 x9 x10 x11 x12 x13 x14 x15 x16 x17 x18 x19 x20 x21 x22 x23 x24 x25 x26 x27 x28 x29 : Option V} {v : V} {s : L2.St} {H : Hp} {Q : VK} (q : Q v H) : tVar 30 (x0 :: x1 :: x2 :: x3 :: x4 :: x5 :: x6 :: x7 :: x8 :: x9 :: x10 :: x11 :: x12 :: x13 :: x14 :: x15 :: x16 :: x17 :: x18 :: x19 :: x20 :: x21 :: x22 :: x23 :: x24 :: x25 :: x26 :: x27 :: x28 :: x29 :: some v :: s) H Q := ⟨v, rfl, q⟩
theorem w_asg30 {x0 x1 x2 x3 x4 x5 x6 x7 x8 x9 x10 x11 x12 x13 x14 x15 x16 x17 x18 x19 x20 x21 x22 x23 x24 x25 x26 x27 x28 x29 : Option V} {y : Option V} {s : L2.St} {H : Hp} {te : TE} {nx bk ct : L2.St → Hp → Prop} {rt : VK} (q : te (x0 :: x1 :: x2 :: x3 :: x4 :: x5 :: x6 :: x7 :: x8 :: x9 :: x10 :: x11 :: x12 :: x13 :: x14 :: x15 :: x16 :: x17 :: x18 :: x19 :: x20 :: x21 :: x22 :: x23 :: x24 :: x25 :: x26 :: x27 :: x28 :: x29 :: y :: s) H fun x H1 => nx (x0 :: x1 :: x2 :: x3 :: x4 :: x5 :: x6 :: x7 :: x8 :: x9 :: x10 :: x11 :: x12 :: x13 :: x14 :: x15 :: x16 :: x17 :: x18 :: x19 :: x20 :: x21 :: x22 :: x23 :: x24 :: x25 :: x26 :: x27 :: x28 :: x29 :: some x :: s) H1) : tAsg te (gName 30) ⟨nx, rt, bk, ct⟩ (x0 :: x1 :: x2 :: x3 :: x4 :: x5 :: x6 :: x7 :: x8 :: x9 :: x10 :: x11 :: x12 :: x13 :: x14 :: x15 :: x16 :: x17 :: x18 :: x19 :: x20 :: x21 :: x22 :: x23 :: x24 :: x25 :: x26 :: x27 :: x28 :: x29 :: y :: s) H := q
theorem w_gn30 {x0 x1 x2 x3 x4 x5 x6 x7 x8 x9 x10 x11 x12 x13 x14 x15 x16 x17 x18 x19 x20 x21 x22 x23 x24 x25 x26 x27 x28 x29 : Option V} {y : Option V} {v : V} {s : L2.St} {H : Hp} {Q : L2.St → Hp → Prop} (q : Q (x0 :: x1 :: x2 :: x3 :: x4 :: x5 :: x6 :: x7 :: x8 :: x9 :: x10 :: x11 :: x12 :: x13 :: x14 :: x15 :: x16 :: x17 :: x18 :: x19 :: x20 :: x21 :: x22 :: x23 :: x24 :: x25 :: x26 :: x27 :: x28 :: x29 :: some v :: s) H) : gName 30 v (x0 :: x1 :: x2 :: x3 :: x4 :: x5 :: x6 :: x7 :: x8 :: x9 :: x10 :: x11 :: x12 :: x13 :: x14 :: x15 :: x16 :: x17 :: x18 :: x19 :: x20 :: x21 :: x22 :: x23 :: x24 :: x25 :: x26 :: x27 :: x28 :: x29 :: y :: s) H Q := q
theorem w_aug30 {x0 x1 x2 x3 x4 x5 x6 x7 x8 x9 x10 x11 x12 x13 x14 x15 x16 x17 x18 x19 x20 x21 x22 x23 x24 x25 x26 x27 x28 x29 : Option V} {v : V} {s : L2.St} {H : Hp} {te : TE} {ti : TIp} {nx bk ct : L2.St → Hp → Prop} {rt : VK} (q : te (x0 :: x1 :: x2 :: x3 :: x4 :: x5 :: x6 :: x7 :: x8 :: x9 :: x10 :: x11 :: x12 :: x13 :: x14 :: x15 :: x16 :: x17 :: x18 :: x19 :: x20 :: x21 :: x22 :: x23 :: x24 :: x25 :: x26 :: x27 :: x28 :: x29 :: some v :: s) H fun y H1 => ti v y H1 fun z H2 => nx (x0 :: x1 :: x2 :: x3 :: x4 :: x5 :: x6 :: x7 :: x8 :: x9 :: x10 :: x11 :: x12 :: x13 :: x14 :: x15 :: x16 :: x17 :: x18 :: x19 :: x20 :: x21 :: x22 :: x23 :: x24 :: x25 :: x26 :: x27 :: x28 :: x29 :: some z :: s) H2) : tAug 30 te ti ⟨nx, rt, bk, ct⟩ (x0 :: x1 :: x2 :: x3 :: x4 :: x5 :: x6 :: x7 :: x8 :: x9 :: x10 :: x11 :: x12 :: x13 :: x14 :: x15 :: x16 :: x17 :: x18 :: x19 :: x20 :: x21 :: x22 :: x23 :: x24 :: x25 :: x26 :: x27 :: x28 :: x29 :: some v :: s) H := ⟨v, rfl, q⟩
theorem w_var31 {x0 x1 x2 x3 x4 x5 x6 x7 x8 x9 x10 x11 x12 x13 x14 x15 x16 x17 x18 x19 x20 x21 x22 x23 x24 x25 x26 x27 x28 x29 x30 : Option V} {v : V} {s : L2.St} {H : Hp} {Q : VK} (q : Q v H) : tVar 31 (x0 :: x1 :: x2 :: x3 :: x4 :: x5 :: x6 :: x7 :: x8 :: x9 :: x10 :: x11 :: x12 :: x13 :: x14 :: x15 :: x16 :: x17 :: x18 :: x19 :: x20 :: x21 :: x22 :: x23 :: x24 :: x25 :: x26 :: x27 :: x28 :: x29 :: x30 :: some v :: s) H Q := ⟨v, rfl, q⟩
theorem w_asg31 {x0 x1 x2 x3 x4 x5 x6 x7 x8 x9 x10 x11 x12 x13 x14 x15 x16 x17 x18 x19 x20 x21 x22 x23 x24 x25 x26 x27 x28 x29 x30 : Option V} {y : Option V} {s : L2.St} {H : Hp} {te : TE} {nx bk ct : L2.St → Hp → Prop} {rt : VK} (q : te (x0 :: x1 :: x2 :: x3 :: x4 :: x5 :: x6 :: x7 :: x8 :: x9 :: x10 :: x11 :: x12 :: x13 :: x14 :: x15 :: x16 :: x17 :: x18 :: x19 :: x20 :: x21 :: x22 :: x23 :: x24 :: x25 :: x26 :: x27 :: x28 :: x29 :: x30 :: y :: s) H fun x H1 => nx (x0 :: x1 :: x2 :: x3 :: x4 :: x5 :: x6 :: x7 :: x8 :: x9 :: x10 :: x11 :: x12 :: x13 :: x14 :: x15 :: x16 :: x17 :: x18 :: x19 :: x20 :: x21 :: x22 :: x23 :: x24 :: x25 :: x26 :: x27 :: x28 :: x29 :: x30 :: some x :: s) H1) : tAsg te (gName 31) ⟨nx, rt, bk, ct⟩ (x0 :: x1 :: x2 :: x3 :: x4 :: x5 :: x6 :: x7 :: x8 :: x9 :: x10 :: x11 :: x12 :: x13 :: x14 :: x15 :: x16 :: x17 :: x18 :: x19 :: x20 :: x21 :: x22 :: x23 :: x24 :: x25 :: x26 :: x27 :: x28 :: x29 :: x30 :: y :: s) H := q
theorem w_gn31 {x0 x1 x2 x3 x4 x5 x6 x7 x8 x9 x10 x11 x12 x13 x14 x15 x16 x17 x18 x19 x20 x21 x22 x23 x24 x25 x26 x27 x28 x29 x30 : Option V} {y : Option V} {v : V} {s : L2.St} {H : Hp} {Q : L2.St → Hp → Prop} (q : Q (x0 :: x1 :: x2 :: x3 :: x4 :: x5 :: x6 :: x7 :: x8 :: x9 :: x10 :: x11 :: x12 :: x13 :: x14 :: x15 :: x16 :: x17 :: x18 :: x19 :: x20 :: x21 :: x22 :: x23 :: x24 :: x25 :: x26 :: x27 :: x28 :: x29 :: x30 :: some v :: s) H) : gName 31 v (x0 :: x1 :: x2 :: x3 :: x4 :: x5 :: x6 :: x7 :: x8 :: x9 :: x10 :: x11 :: x12 :: x13 :: x14 :: x15 :: x16 :: x17 :: x18 :: x19 :: x20 :: x21 :: x22 :: x23 :: x24 :: x25 :: x26 :: x27 :: x28 :: x29 :: x30 :: y :: s) H Q := q
theorem w_aug31 {x0 x1 x2 x3 x4 x5 x6 x7 x8 x9 x10 x11 x12 x13 x14 x15 x16 x17 x18 x19 x20 x21 x22 x23 x24 x25 x26 x27 x28 x29 x30 : Option V} {v : V} {s : L2.St} {H : Hp} {te : TE} {ti : TIp} {nx bk ct : L2.St → Hp → Prop} {rt : VK} (q : te (x0 :: x1 :: x2 :: x3 :: x4 :: x5 :: x6 :: x7 :: x8 :: x9 :: x10 :: x11 :: x12 :: x13 :: x14 :: x15 :: x16 :: x17 :: x18 :: x19 :: x20 :: x21 :: x22 :: x23 :: x24 :: x25 :: x26 :: x27 :: x28 :: x29 :: x30 :: some v :: s) H fun y H1 => ti v y H1 fun z H2 => nx (x0 :: x1 :: x2 :: x3 :: x4 :: x5 :: x6 :: x7 :: x8 :: x9 :: x10 :: x11 :: x12 :: x13 :: x14 :: x15 :: x16 :: x17 :: x18 :: x19 :: x20 :: x21 :: x22 :: x23 :: x24 :: x25 :: x26 :: x27 :: x28 :: x29 :: x30 :: some z :: s) H2) : tAug 31 te ti ⟨nx, rt, bk, ct⟩ (x0 :: x1 :: x2 :: x3 :: x4 :: x5 :: x6 :: x7 :: x8 :: x9 :: x10 :: x11 :: x12 :: x13 :: x14 :: x15 :: x16 :: x17 :: x18 :: x19 :: x20 :: x21 :: x22 :: x23 :: x24 :: x25 :: x26 :: x27 :: x28 :: x29 :: x30 :: some v :: s) H := ⟨v, rfl, q⟩
theorem w_var32 {x0 x1 x2 x3 x4 x5 x6 x7 x8 x9 x10 x11 x12 x13 x14 x15 x16 x17 x18 x19 x20 x21 x22 x23 x24 x25 x26 x27 x28 x29 x30 x31 : Option V} {v : V} {s : L2.St} {H : Hp} {Q : VK} (q : Q v H) : tVar 32 (x0 :: x1 :: x2 :: x3 :: x4 :: x5 :: x6 :: x7 :: x8 :: x9 :: x10 :: x11 :: x12 :: x13 :: x14 :: x15 :: x16 :: x17 :: x18 :: x19 :: x20 :: x21 :: x22 :: x23 :: x24 :: x25 :: x26 :: x27 :: x28 :: x29 :: x30 :: x31 :: some v :: s) H Q := ⟨v, rfl, q⟩
theorem w_asg32 {x0 x1 x2 x3 x4 x5 x6 x7 x8 x9 x10 x11 x12 x13 x14 x15 x16 x17 x18 x19 x20 x21 x22 x23 x24 x25 x26 x27 x28 x29 x30 x31 : Option V} {y : Option V} {s : L2.St} {H : Hp} {te : TE} {nx bk ct : L2.St → Hp → Prop} {rt : VK} (q : te (x0 :: x1 :: x2 :: x3 :: x4 :: x5 :: x6 :: x7 :: x8 :: x9 :: x10 :: x11 :: x12 :: x13 :: x14 :: x15 :: x16 :: x17 :: x18 :: x19 :: x20 :: x21 :: x22 :: x23 :: x24 :: x25 :: x26 :: x27 :: x28 :: x29 :: x30 :: x31 :: y :: s) H fun x H1 => nx (x0 :: x1 :: x2 :: x3 :: x4 :: x5 :: x6 :: x7 :: x8 :: x9 :: x10 :: x11 :: x12 :: x13 :: x14 :: x15 :: x16 :: x17 :: x18 :: x19 :: x20 :: x21 :: x22 :: x23 :: x24 :: x25 :: x26 :: x27 :: x28 :: x29 :: x30 :: x31 :: some x :: s) H1) : tAsg te (gName 32) ⟨nx, rt, bk, ct⟩ (x0 :: x1 :: x2 :: x3 :: x4 :: x5 :: x6 :: x7 :: x8 :: x9 :: x10 :: x11 :: x12 :: x13 :: x14 :: x15 :: x16 :: x17 :: x18 :: x19 :: x20 :: x21 :: x22 :: x23 :: x24 :: x25 :: x26 :: x27 :: x28 :: x29 :: x30 :: x31 :: y :: s) H := q
theorem w_gn32 {x0 x1 x2 x3 x4 x5 x6 x7 x8 x9 x10 x11 x12 x13 x14 x15 x16 x17 x18 x19 x20 x21 x22 x23 x24 x25 x26 x27 x28 x29 x30 x31 : Option V} {y : Option V} {v : V} {s : L2.St} {H : Hp} {Q : L2.St → Hp → Prop} (q : Q (x0 :: x1 :: x2 :: x3 :: x4 :: x5 :: x6 :: x7 :: x8 :: x9 :: x10 :: x11 :: x12 :: x13 :: x14 :: x15 :: x16 :: x17 :: x18 :: x19 :: x20 :: x21 :: x22 :: x23 :: x24 :: x25 :: x26 :: x27 :: x28 :: x29 :: x30 :: x31 :: some v :: s) H) : gName 32 v (x0 :: x1 :: x2 :: x3 :: x4 :: x5 :: x6 :: x7 :: x8 :: x9 :: x10 :: x11 :: x12 :: x13 :: x14 :: x15 :: x16 :: x17 :: x18 :: x19 :: x20 :: x21 :: x22 :: x23 :: x24 :: x25 :: x26 :: x27 :: x28 :: x29 :: x30 :: x31 :: y :: s) H Q := q
theorem w_aug32 {x0 x1 x2 x3 x4 x5 x6 x7 x8 x9 x10 x11 x12 x13 x14 x15 x16 x17 x18 x19 x20 x21 x22 x23 x24 x25 x26 x27 x28 x29 x30 x31 : Option V} {v : V} {s : L2.St} {H : Hp} {te : TE} {ti : TIp} {nx bk ct : L2.St → Hp → Prop} {rt : VK} (q : te (x0 :: x1 :: x2 :: x3 :: x4 :: x5 :: x6 :: x7 :: x8 :: x9 :: x10 :: x11 :: x12 :: x13 :: x14 :: x15 :: x16 :: x17 :: x18 :: x19 :: x20 :: x21 :: x22 :: x23 :: x24 :: x25 :: x26 :: x27 :: x28 :: x29 :: x30 :: x31 :: some v :: s) H fun y H1 => ti v y H1 fun z H2 => nx (x0 :: x1 :: x2 :: x3 :: x4 :: x5 :: x6 :: x7 :: x8 :: x9 :: x10 :: x11 :: x12 :: x13 :: x14 :: x15 :: x16 :: x17 :: x18 :: x19 :: x20 :: x21 :: x22 :: x23 :: x24 :: x25 :: x26 :: x27 :: x28 :: x29 :: x30 :: x31 :: some z :: s) H2) : tAug 32 te ti ⟨nx, rt, bk, ct⟩ (x0 :: x1 :: x2 :: x3 :: x4 :: x5 :: x6 :: x7 :: x8 :: x9 :: x10 :: x11 :: x12 :: x13 :: x14 :: x15 :: x16 :: x17 :: x18 :: x19 :: x20 :: x21 :: x22 :: x23 :: x24 :: x25 :: x26 :: x27 :: x28 :: x29 :: x30 :: x31 :: some v :: s) H := ⟨v, rfl, q⟩
theorem w_var33 {x0 x1 x2 x3 x4 x5 x6 x7 x8 x9 x10 x11 x12 x13 x14 x15 x16 x17 x18 x19 x20 x21 x22 x23 x24 x25 x26 x27 x28 x29 x30 x31 x32 : Option V} {v : V} {s : L2.St} {H : Hp} {Q : VK} (q : Q v H) : tVar 33 (x0 :: x1 :: x2 :: x3 :: x4 :: x5 :: x6 :: x7 :: x8 :: x9 :: x10 :: x11 :: x12 :: x13 :: x14 :: x15 :: x16 :: x17 :: x18 :: x19 :: x20 :: x21 :: x22 :: x23 :: x24 :: x25 :: x26 :: x27 :: x28 :: x29 :: x30 :: x31 :: x32 :: some v :: s) H Q := ⟨v, rfl, q⟩
theorem w_asg33 {x0 x1 x2 x3 x4 x5 x6 x7 x8 x9 x10 x11 x12 x13 x14 x15 x16 x17 x18 x19 x20 x21 x22 x23 x24 x25 x26 x27 x28 x29 x30 x31 x32 : Option V} {y : Option V} {s : L2.St} {H : Hp} {te : TE} {nx bk ct : L2.St → Hp → Prop} {rt : VK} (q : te (x0 :: x1 :: x2 :: x3 :: x4 :: x5 :: x6 :: x7 :: x8 :: x9 :: x10 :: x11 :: x12 :: x13 :: x14 :: x15 :: x16 :: x17 :: x18 :: x19 :: x20 :: x21 :: x22 :: x23 :: x24 :: x25 :: x26 :: x27 :: x28 :: x29 :: x30 :: x31 :: x32 :: y :: s) H fun x H1 => nx (x0 :: x1 :: x2 :: x3 :: x4 :: x5 :: x6 :: x7 :: x8 :: x9 :: x10 :: x11 :: x12 :: x13 :: x14 :: x15 :: x16 :: x17 :: x18 :: x19 :: x20 :: x21 :: x22 :: x23 :: x24 :: x25 :: x26 :: x27 :: x28 :: x29 :: x30 :: x31 :: x32 :: some x :: s) H1) : tAsg te (gName 33) ⟨nx, rt, bk, ct⟩ (x0 :: x1 :: x2 :: x3 :: x4 :: x5 :: x6 :: x7 :: x8 :: x9 :: x10 :: x11 :: x12 :: x13 :: x14 :: x15 :: x16 :: x17 :: x18 :: x19 :: x20 :: x21 :: x22 :: x23 :: x24 :: x25 :: x26 :: x27 :: x28 :: x29 :: x30 :: x31 :: x32 :: y :: s) H := q
theorem w_gn33 {x0 x1 x2 x3 x4 x5 x6 x7 x8 x9 x10 x11 x12 x13 x14 x15 x16 x17 x18 x19 x20 x21 x22 x23 x24 x25 x26 x27 x28 x29 x30 x31 x32 : Option V} {y : Option V} {v : V} {s : L2.St} {H : Hp} {Q : L2.St → Hp → Prop} (q : Q (x0 :: x1 :: x2 :: x3 :: x4 :: x5 :: x6 :: x7 :: x8 :: x9 :: x10 :: x11 :: x12 :: x13 :: x14 :: x15 :: x16 :: x17 :: x18 :: x19 :: x20 :: x21 :: x22 :: x23 :: x24 :: x25 :: x26 :: x27 :: x28 :: x29 :: x30 :: x31 :: x32 :: some v :: s) H) : gName 33 v (x0 :: x1 :: x2 :: x3 :: x4 :: x5 :: x6 :: x7 :: x8 :: x9 :: x10 :: x11 :: x12 :: x13 :: x14 :: x15 :: x16 :: x17 :: x18 :: x19 :: x20 :: x21 :: x22 :: x23 :: x24 :: x25 :: x26 :: x27 :: x28 :: x29 :: x30 :: x31 :: x32 :: y :: s) H Q := q
theorem w_aug33 {x0 x1 x2 x3 x4 x5 x6 x7 x8 x9 x10 x11 x12 x13 x14 x15 x16 x17 x18 x19 x20 x21 x22 x23 x24 x25 x26 x27 x28 x29 x30 x31 x32 : Option V} {v : V} {s : L2.St} {H : Hp} {te : TE} {ti : TIp} {nx bk ct : L2.St → Hp → Prop} {rt : VK} (q : te (x0 :: x1 :: x2 :: x3 :: x4 :: x5 :: x6 :: x7 :: x8 :: x9 :: x10 :: x11 :: x12 :: x13 :: x14 :: x15 :: x16 :: x17 :: x18 :: x19 :: x20 :: x21 :: x22 :: x23 :: x24 :: x25 :: x26 :: x27 :: x28 :: x29 :: x30 :: x31 :: x32 :: some v :: s) H fun y H1 => ti v y H1 fun z H2 => nx (x0 :: x1 :: x2 :: x3 :: x4 :: x5 :: x6 :: x7 :: x8 :: x9 :: x10 :: x11 :: x12 :: x13 :: x14 :: x15 :: x16 :: x17 :: x18 :: x19 :: x20 :: x21 :: x22 :: x23 :: x24 :: x25 :: x26 :: x27 :: x28 :: x29 :: x30 :: x31 :: x32 :: some z :: s) H2) : tAug 33 te ti ⟨nx, rt, bk, ct⟩ (x0 :: x1 :: x2 :: x3 :: x4 :: x5 :: x6 :: x7 :: x8 :: x9 :: x10 :: x11 :: x12 :: x13 :: x14 :: x15 :: x16 :: x17 :: x18 :: x19 :: x20 :: x21 :: x22 :: x23 :: x24 :: x25 :: x26 :: x27 :: x28 :: x29 :: x30 :: x31 :: x32 :: some v :: s) H := ⟨v, rfl, q⟩
theorem kb_int_int : kitB "int" "int" = some true := by decide +kernel
theorem kb_int_bool : kitB "int" "bool" = some false := by decide +kernel
theorem kb_int_str : kitB "int" "str" = some false := by decide +kernel
theorem kb_int_list : kitB "int" "list" = some false := by decide +kernel
theorem kb_int_tuple : kitB "int" "tuple" = some false := by decide +kernel
theorem kb_int_dict : kitB "int" "dict" = some false := by decide +kernel
theorem kb_bool_int : kitB "bool" "int" = some true := by decide +kernel
theorem kb_bool_bool : kitB "bool" "bool" = some true := by decide +kernel
theorem kb_bool_str : kitB "bool" "str" = some false := by decide +kernel
theorem kb_bool_list : kitB "bool" "list" = some false := by decide +kernel
theorem kb_bool_tuple : kitB "bool" "tuple" = some false := by decide +kernel
theorem kb_bool_dict : kitB "bool" "dict" = some false := by decide +kernel
theorem kb_str_int : kitB "str" "int" = some false := by decide +kernel
theorem kb_str_bool : kitB "str" "bool" = some false := by decide +kernel
theorem kb_str_str : kitB "str" "str" = some true := by decide +kernel
theorem kb_str_list : kitB "str" "list" = some false := by decide +kernel
theorem kb_str_tuple : kitB "str" "tuple" = some false := by decide +kernel
theorem kb_str_dict : kitB "str" "dict" = some false := by decide +kernel
theorem kb_NoneType_int : kitB "NoneType" "int" = some false := by decide +kernel
theorem kb_NoneType_bool : kitB "NoneType" "bool" = some false := by decide +kernel
theorem kb_NoneType_str : kitB "NoneType" "str" = some false := by decide +kernel
theorem kb_NoneType_list : kitB "NoneType" "list" = some false := by decide +kernel
theorem kb_NoneType_tuple : kitB "NoneType" "tuple" = some false := by decide +kernel
theorem kb_NoneType_dict : kitB "NoneType" "dict" = some false := by decide +kernel
theorem kb_list_int : kitB "list" "int" = some false := by decide +kernel
theorem kb_list_bool : kitB "list" "bool" = some false := by decide +kernel
theorem kb_list_str : kitB "list" "str" = some false := by decide +kernel
theorem kb_list_list : kitB "list" "list" = some true := by decide +kernel
theorem kb_list_tuple : kitB "list" "tuple" = some false := by decide +kernel
theorem kb_list_dict : kitB "list" "dict" = some false := by decide +kernel
theorem kb_tuple_int : kitB "tuple" "int" = some false := by decide +kernel
theorem kb_tuple_bool : kitB "tuple" "bool" = some false := by decide +kernel
theorem kb_tuple_str : kitB "tuple" "str" = some false := by decide +kernel
theorem kb_tuple_list : kitB "tuple" "list" = some false := by decide +kernel
theorem kb_tuple_tuple : kitB "tuple" "tuple" = some true := by decide +kernel
theorem kb_tuple_dict : kitB "tuple" "dict" = some false := by decide +kernel
local macro_rules | `(tactic| walk_at "side") => `(tactic| first | omega | exact ⟨by omega, by omega⟩ | exact Or.inr ⟨by omega, by omega⟩ | exact Or.inl ⟨by omega, by omega⟩ | exact ⟨by omega, by omega, by decide⟩)
local macro_rules | `(tactic| walk_at "hp") => `(tactic| first
  | with_reducible assumption
  | with_reducible exact upd_same
  | with_reducible exact upd_old (by assumption) (by walk_at "hp")
  | with_reducible exact upd_far (by walk_at "ne") (by walk_at "hp")
  | with_reducible exact Dw.get (by assumption) (by walk_at "ne") (by walk_at "hp")
  | with_reducible exact same_get (by assumption) (by walk_at "hp")
  | with_reducible exact new_get (by assumption) (by walk_at "hp"))
local macro_rules | `(tactic| walk_at "sql") => `(tactic| first
  | with_reducible assumption
  | with_reducible exact sqL_of (by walk_at "hp")
  | with_reducible exact Same.seq (by assumption) (by walk_at "sql"))
local macro_rules | `(tactic| walk_at "sqt") => `(tactic| first
  | with_reducible assumption
  | with_reducible exact sqT_of (by walk_at "hp"))
local macro_rules | `(tactic| walk_at "bag") => `(tactic| first
  | with_reducible assumption
  | with_reducible exact Bag.mk'
  | with_reducible exact Dw.bag (by assumption)
  | with_reducible exact Bag.upd (by assumption) (by walk_at "bag")
  | with_reducible exact Bag.mut (by walk_at "ne") (by walk_at "bag"))
local macro_rules | `(tactic| walk_at "ne") => `(tactic| first
  | with_reducible assumption
  | with_reducible exact Ne.symm (by assumption)
  | with_reducible exact Bag.ne' (by assumption) (by walk_at "bag")
  | with_reducible exact ne_new (by assumption) (by walk_at "hp")
  | with_reducible exact ne_new' (by assumption) (by walk_at "hp")
  | with_reducible exact Ne.symm (Bag.ne' (by assumption) (by walk_at "bag")))
local macro_rules | `(tactic| walk_at "same") => `(tactic| first
  | with_reducible assumption
  | with_reducible exact Same.refl _
  | with_reducible exact same_upd (by assumption) (by walk_at "same")
  | with_reducible exact same_dw (by assumption) (by first | with_reducible assumption | exact free' (by assumption) (by walk_at "same")) (by walk_at "same")
  | with_reducible exact same_mut (by first | with_reducible assumption | exact free' (by assumption) (by walk_at "same")) (by walk_at "same")
  | with_reducible exact same_tr (by assumption) (by walk_at "same"))
local macro_rules | `(tactic| walk_at "dw") => `(tactic| first
  | with_reducible assumption
  | with_reducible exact Dw.refl (by walk_at "bag")
  | with_reducible exact Dw.upd (by assumption) (by walk_at "dw")
  | with_reducible exact dw_tr (by assumption) (by walk_at "dw"))
local macro_rules | `(tactic| walk_at "ty") => `(tactic| first | exact .base (.int _) | exact .base (.bl _) | exact .base (.str _) | exact .base .non | exact .base (.tup (by walk_at "hp")) | exact .base (.lst (by walk_at "hp")))
local macro_rules | `(tactic| walk_at "kitb") => `(tactic| first | exact kb_int_int | exact kb_int_bool | exact kb_int_str | exact kb_int_list | exact kb_int_tuple | exact kb_int_dict | exact kb_bool_int | exact kb_bool_bool | exact kb_bool_str | exact kb_bool_list | exact kb_bool_tuple | exact kb_bool_dict | exact kb_str_int | exact kb_str_bool | exact kb_str_str | exact kb_str_list | exact kb_str_tuple | exact kb_str_dict | exact kb_NoneType_int | exact kb_NoneType_bool | exact kb_NoneType_str | exact kb_NoneType_list | exact kb_NoneType_tuple | exact kb_NoneType_dict | exact kb_list_int | exact kb_list_bool | exact kb_list_str | exact kb_list_list | exact kb_list_tuple | exact kb_list_dict | exact kb_tuple_int | exact kb_tuple_bool | exact kb_tuple_str | exact kb_tuple_list | exact kb_tuple_tuple | exact kb_tuple_dict)
local macro_rules | `(tactic| walk_at "rd1") => `(tactic| first
  | (with_reducible refine' is_var ?_; first
      | with_reducible refine' w_var0 ?_
      | with_reducible refine' w_var1 ?_
      | with_reducible refine' w_var2 ?_
      | with_reducible refine' w_var3 ?_
      | with_reducible refine' w_var4 ?_
      | with_reducible refine' w_var5 ?_
      | with_reducible refine' w_var6 ?_
      | with_reducible refine' w_var7 ?_
      | with_reducible refine' w_var8 ?_
      | with_reducible refine' w_var9 ?_
      | with_reducible refine' w_var10 ?_
      | with_reducible refine' w_var11 ?_
      | with_reducible refine' w_var12 ?_
      | with_reducible refine' w_var13 ?_
      | with_reducible refine' w_var14 ?_
      | with_reducible refine' w_var15 ?_
      | with_reducible refine' w_var16 ?_
      | with_reducible refine' w_var17 ?_
      | with_reducible refine' w_var18 ?_
      | with_reducible refine' w_var19 ?_
      | with_reducible refine' w_var20 ?_
      | with_reducible refine' w_var21 ?_
      | with_reducible refine' w_var22 ?_
      | with_reducible refine' w_var23 ?_
      | with_reducible refine' w_var24 ?_
      | with_reducible refine' w_var25 ?_
      | with_reducible refine' w_var26 ?_
      | with_reducible refine' w_var27 ?_
      | with_reducible refine' w_var28 ?_
      | with_reducible refine' w_var29 ?_
      | with_reducible refine' w_var30 ?_
      | with_reducible refine' w_var31 ?_
      | with_reducible refine' w_var32 ?_
      | with_reducible refine' w_var33 ?_)
  | (with_reducible refine' w_c ?_)
  | (with_reducible refine' w_op ?_)
  | (with_reducible refine' w_un ?_)
  | (with_reducible refine' w_test ?_)
  | (with_reducible refine' w_B ?_)
  | (with_reducible refine' w_and ?_)
  | (with_reducible refine' w_or ?_)
  | (with_reducible refine' w_not ?_)
  | (with_reducible refine' w_andV ?_)
  | (with_reducible refine' w_orV ?_)
  | (with_reducible refine' w_notV ?_)
  | (with_reducible refine' w_ifE ?_)
  | (with_reducible refine' w_next ?_)
  | (with_reducible refine' w_seq ?_)
  | (with_reducible refine' w_brk ?_)
  | (with_reducible refine' w_cont ?_)
  | (with_reducible refine' w_drop ?_)
  | (with_reducible refine' w_ret ?_)
  | (with_reducible refine' w_retN ?_)
  | (with_reducible refine' w_ifS ?_)
  | (with_reducible refine' w_nil ?_)
  | (with_reducible refine' w_cons ?_)
  | (with_reducible refine' w_CB ?_)
  | (with_reducible refine' w_call ?_)
  | (with_reducible refine' w_callD ?_)
  | (with_reducible refine' w_callN ?_)
  | (with_reducible refine' w_BM ?_)
  | (with_reducible refine' w_BM0 ?_)
  | (with_reducible refine' w_sl ?_)
  | (with_reducible refine' w_noPart ?_)
  | (with_reducible refine' w_part ?_)
  | (with_reducible refine' w_exint ?_)
  | (with_reducible refine' w_tup ?_)
  | (with_reducible refine' w_lst ?_)
  | (with_reducible refine' w_sub ?_)
  | (with_reducible refine' w_gNil ?_)
  | (with_reducible refine' w_gCons ?_)
  | (with_reducible refine' w_T ?_)
  | (with_reducible refine' w_F ?_)
  | (with_reducible refine' w_nT ?_)
  | (with_reducible refine' w_nF ?_)
  | (with_reducible refine' w_for ?_)
  | (with_reducible refine' w_iR1 ?_)
  | (with_reducible refine' w_iR2 ?_)
  | (with_reducible refine' w_iL ?_)
  | (with_reducible refine' w_iT ?_)
  | (with_reducible refine' w_ex1I ?_)
  | (with_reducible refine' w_ex2I ?_)
  | (with_reducible refine' w_I0 ?_)
  | (with_reducible refine' w_U ?_)
  | (with_reducible refine' w_exbl ?_)
  | (with_reducible refine' is_asg ?_; first
      | with_reducible refine' w_asg0 ?_
      | with_reducible refine' w_asg1 ?_
      | with_reducible refine' w_asg2 ?_
      | with_reducible refine' w_asg3 ?_
      | with_reducible refine' w_asg4 ?_
      | with_reducible refine' w_asg5 ?_
      | with_reducible refine' w_asg6 ?_
      | with_reducible refine' w_asg7 ?_
      | with_reducible refine' w_asg8 ?_
      | with_reducible refine' w_asg9 ?_
      | with_reducible refine' w_asg10 ?_
      | with_reducible refine' w_asg11 ?_
      | with_reducible refine' w_asg12 ?_
      | with_reducible refine' w_asg13 ?_
      | with_reducible refine' w_asg14 ?_
      | with_reducible refine' w_asg15 ?_
      | with_reducible refine' w_asg16 ?_
      | with_reducible refine' w_asg17 ?_
      | with_reducible refine' w_asg18 ?_
      | with_reducible refine' w_asg19 ?_
      | with_reducible refine' w_asg20 ?_
      | with_reducible refine' w_asg21 ?_
      | with_reducible refine' w_asg22 ?_
      | with_reducible refine' w_asg23 ?_
      | with_reducible refine' w_asg24 ?_
      | with_reducible refine' w_asg25 ?_
      | with_reducible refine' w_asg26 ?_
      | with_reducible refine' w_asg27 ?_
      | with_reducible refine' w_asg28 ?_
      | with_reducible refine' w_asg29 ?_
      | with_reducible refine' w_asg30 ?_
      | with_reducible refine' w_asg31 ?_
      | with_reducible refine' w_asg32 ?_
      | with_reducible refine' w_asg33 ?_)
  | (with_reducible refine' is_gn ?_; first
      | with_reducible refine' w_gn0 ?_
      | with_reducible refine' w_gn1 ?_
      | with_reducible refine' w_gn2 ?_
      | with_reducible refine' w_gn3 ?_
      | with_reducible refine' w_gn4 ?_
      | with_reducible refine' w_gn5 ?_
      | with_reducible refine' w_gn6 ?_
      | with_reducible refine' w_gn7 ?_
      | with_reducible refine' w_gn8 ?_
      | with_reducible refine' w_gn9 ?_
      | with_reducible refine' w_gn10 ?_
      | with_reducible refine' w_gn11 ?_
      | with_reducible refine' w_gn12 ?_
      | with_reducible refine' w_gn13 ?_
      | with_reducible refine' w_gn14 ?_
      | with_reducible refine' w_gn15 ?_
      | with_reducible refine' w_gn16 ?_
      | with_reducible refine' w_gn17 ?_
      | with_reducible refine' w_gn18 ?_
      | with_reducible refine' w_gn19 ?_
      | with_reducible refine' w_gn20 ?_
      | with_reducible refine' w_gn21 ?_
      | with_reducible refine' w_gn22 ?_
      | with_reducible refine' w_gn23 ?_
      | with_reducible refine' w_gn24 ?_
      | with_reducible refine' w_gn25 ?_
      | with_reducible refine' w_gn26 ?_
      | with_reducible refine' w_gn27 ?_
      | with_reducible refine' w_gn28 ?_
      | with_reducible refine' w_gn29 ?_
      | with_reducible refine' w_gn30 ?_
      | with_reducible refine' w_gn31 ?_
      | with_reducible refine' w_gn32 ?_
      | with_reducible refine' w_gn33 ?_)
  | (with_reducible refine' is_aug ?_; first
      | with_reducible refine' w_aug0 ?_
      | with_reducible refine' w_aug1 ?_
      | with_reducible refine' w_aug2 ?_
      | with_reducible refine' w_aug3 ?_
      | with_reducible refine' w_aug4 ?_
      | with_reducible refine' w_aug5 ?_
      | with_reducible refine' w_aug6 ?_
      | with_reducible refine' w_aug7 ?_
      | with_reducible refine' w_aug8 ?_
      | with_reducible refine' w_aug9 ?_
      | with_reducible refine' w_aug10 ?_
      | with_reducible refine' w_aug11 ?_
      | with_reducible refine' w_aug12 ?_
      | with_reducible refine' w_aug13 ?_
      | with_reducible refine' w_aug14 ?_
      | with_reducible refine' w_aug15 ?_
      | with_reducible refine' w_aug16 ?_
      | with_reducible refine' w_aug17 ?_
      | with_reducible refine' w_aug18 ?_
      | with_reducible refine' w_aug19 ?_
      | with_reducible refine' w_aug20 ?_
      | with_reducible refine' w_aug21 ?_
      | with_reducible refine' w_aug22 ?_
      | with_reducible refine' w_aug23 ?_
      | with_reducible refine' w_aug24 ?_
      | with_reducible refine' w_aug25 ?_
      | with_reducible refine' w_aug26 ?_
      | with_reducible refine' w_aug27 ?_
      | with_reducible refine' w_aug28 ?_
      | with_reducible refine' w_aug29 ?_
      | with_reducible refine' w_aug30 ?_
      | with_reducible refine' w_aug31 ?_
      | with_reducible refine' w_aug32 ?_
      | with_reducible refine' w_aug33 ?_)
  | (with_reducible refine' w_asg ?_)
  | ((with_reducible refine' w_I ?c ?_); (case c => walk_at "side"))
  | ((with_reducible refine' w_eq ?c ?_); (case c => exact rfl))
  | ((with_reducible refine' w_ne ?c ?_); (case c => exact rfl))
  | ((with_reducible refine' w_ixL ?h ?e ?_); (case h => walk_at "sql"); (case e => exact rfl))
  | ((with_reducible refine' w_ixT ?h ?e ?_); (case h => walk_at "sqt"); (case e => exact rfl))
  | ((with_reducible refine' w_setL ?h ?e ?_); (case h => walk_at "hp"); (case e => exact rfl))
  | ((with_reducible refine' w_gTup ?h ?e ?_); (case h => walk_at "sqt"); (case e => exact rfl))
  | ((with_reducible refine' w_tyL ?h ?_); (case h => walk_at "sql"))
  | ((with_reducible refine' w_app ?h ?e ?_); (case h => walk_at "hp"); (case e => exact rfl))
  | ((with_reducible refine' w_len ?h ?_); (case h => exact rfl))
  | ((with_reducible refine' w_exLen ?h ?_); (case h => walk_at "sql"))
  | ((with_reducible refine' w_exLenT ?h ?_); (case h => walk_at "sqt"))
  | ((with_reducible refine' w_cat ?h ?i ?e ?_); (case h => walk_at "hp"); (case i => walk_at "hp"); (case e => exact rfl))
  | ((with_reducible refine' w_isi ?h ?e ?_); (case h => walk_at "ty"); (case e => walk_at "kitb"))
  | ((with_reducible refine' w_exR1 ?h ?_); (case h => constructor <;> omega))
  | ((with_reducible refine' w_exR2 ?h ?_); (case h => refine ⟨?_, ?_, ?_, ?_⟩ <;> omega))
  | ((with_reducible refine' w_exL ?h ?_); (case h => walk_at "sql"))
  | ((with_reducible refine' w_exT ?h ?_); (case h => walk_at "sqt")))
local macro_rules | `(tactic| walk_at "rd") => `(tactic| repeat walk_at "rd1")
/-! ### the text by places, the scopes of its defs (printed by wip/gen.py) -/
def topS (i : Nat) : Stmt := PySem.Challenge.pw_pagelend_k04_the_last_use.main.body.getD i (.Pass ⟨0, 0, 0, 0⟩)
abbrev s_shown : Stmt := topS 3
abbrev N_shown : List Str := ["clock", "time", "rate", "ahead"]
theorem sc_shown : FnScope N_shown ["clock", "time"] (defScope s_shown) := ⟨rfl, rfl, rfl, by decide +kernel, rfl, by decide +kernel, by decide +kernel⟩
abbrev s_budget : Stmt := topS 4
abbrev N_budget : List Str := ["length", "drift"]
theorem sc_budget : FnScope N_budget ["length", "drift"] (defScope s_budget) := ⟨rfl, rfl, rfl, by decide +kernel, rfl, by decide +kernel, by decide +kernel⟩
abbrev s_last_use : Stmt := topS 5
abbrev N_last_use : List Str := ["clock", "asked", "length", "drift", "rate", "ahead", "last"]
theorem sc_last_use : FnScope N_last_use ["clock", "asked", "length", "drift"] (defScope s_last_use) := ⟨rfl, rfl, rfl, by decide +kernel, rfl, by decide +kernel, by decide +kernel⟩
abbrev s_law_bag : Stmt := topS 7
abbrev N_law_bag : List Str := ["script", "k", "cell"]
theorem sc_law_bag : FnScope N_law_bag ["script", "k"] (defScope s_law_bag) := ⟨rfl, rfl, rfl, by decide +kernel, rfl, by decide +kernel, by decide +kernel⟩
abbrev s_law_take : Stmt := topS 8
abbrev N_law_take : List Str := ["bag", "many", "found"]
theorem sc_law_take : FnScope N_law_take ["bag", "many"] (defScope s_law_take) := ⟨rfl, rfl, rfl, by decide +kernel, rfl, by decide +kernel, by decide +kernel⟩
abbrev s_law_whole : Stmt := topS 9
abbrev N_law_whole : List Str := ["thing"]
theorem sc_law_whole : FnScope N_law_whole ["thing"] (defScope s_law_whole) := ⟨rfl, rfl, rfl, by decide +kernel, rfl, by decide +kernel, by decide +kernel⟩
abbrev s_law_clock : Stmt := topS 10
abbrev N_law_clock : List Str := ["bag"]
theorem sc_law_clock : FnScope N_law_clock ["bag"] (defScope s_law_clock) := ⟨rfl, rfl, rfl, by decide +kernel, rfl, by decide +kernel, by decide +kernel⟩
abbrev s_law_time : Stmt := topS 11
abbrev N_law_time : List Str := ["bag", "most"]
theorem sc_law_time : FnScope N_law_time ["bag"] (defScope s_law_time) := ⟨rfl, rfl, rfl, by decide +kernel, rfl, by decide +kernel, by decide +kernel⟩
abbrev s_law_late : Stmt := topS 12
abbrev N_law_late : List Str := ["c", "a", "t"]
theorem sc_law_late : FnScope N_law_late ["c", "a", "t"] (defScope s_law_late) := ⟨rfl, rfl, rfl, by decide +kernel, rfl, by decide +kernel, by decide +kernel⟩
abbrev s_law_terms : Stmt := topS 13
abbrev N_law_terms : List Str := ["bag", "most", "slack"]
theorem sc_law_terms : FnScope N_law_terms ["bag"] (defScope s_law_terms) := ⟨rfl, rfl, rfl, by decide +kernel, rfl, by decide +kernel, by decide +kernel⟩
abbrev s_law : Stmt := topS 14
abbrev N_law : List Str := ["script", "k", "bag", "clo1", "len1", "dri1", "ask1", "rows", "time", "long", "slow", "most"]
theorem sc_law : FnScope N_law ["script"] (defScope s_law) := ⟨rfl, rfl, rfl, by decide +kernel, rfl, by decide +kernel, by decide +kernel⟩
/-! ### the bag of a cell, draws of it -/
/-- a new bag -/
def spBag (K : PySem.W.Frag) : Sp := fun vs H Q _ => ∃ (s : Addr) (ns : List Int) (k : Nat), vs = [.ref s, .int (k : Int)] ∧ SqL K H s (ns.map V.int) ∧ ∀ p b0 b1, H p = none → Q (.ref p) (upd H p (.lst [.int b0, .int b1]))
/-- a draw: some number below many -/
def spTake : Sp := fun vs H Q _ => ∃ (a : Addr) (m : Int), vs = [.ref a, .int m] ∧ Bag H a ∧ 0 < m ∧ m.natAbs < 2 ^ 8000 ∧ ∀ (r b0 b1 : Int), 0 ≤ r → r < m → Q (.int r) (upd H a (.lst [.int b0, .int b1]))
def spWholeI : Sp := fun vs H Q _ => ∃ i : Int, vs = [.int i] ∧ Q (.bl true) H
theorem take_go {a : Addr} {m : Int} {H : Hp} {Q : VK} {E : XK} (hB : Bag H a) (hm : 0 < m) (hz : m.natAbs < 2 ^ 8000) (k : ∀ r H', 0 ≤ r → r < m → Dw a H H' → Q (.int r) H') : spTake [.ref a, .int m] H Q E :=
  ⟨a, m, rfl, hB, hm, hz, fun r b0 b1 h0 h1 => k r _ h0 h1 ⟨⟨b0, b1, upd_same⟩, fun b o n e => by rw [upd_ne n]; exact e⟩⟩
theorem lt2 {m : Int} (h0 : 0 ≤ m) (h : m < 10 ^ 40) : m.natAbs < 2 ^ 8000 := by
  have h1 : m.natAbs < 10 ^ 40 := by omega
  exact Nat.lt_trans h1 (by decide +kernel)
/-! ### the mathematics -/
def shownF (r ah t : Int) : Int := (t * r + ah) / 100
def budF (l d : Int) : Int := l * (100 - d) / 100
def usedF (r ah a t l d : Int) : Bool := decide (a ≤ t) && decide (shownF r ah t - shownF r ah a < budF l d)
/-! ### the promises -/
/-- a tuple (rate, ahead) -/
def Clk (K : PySem.W.Frag) (H : Hp) (c : Addr) (r ah : Int) : Prop := SqT K H c [.int r, .int ah] ∧ 50 ≤ r ∧ r ≤ 200
def spShown (K : PySem.W.Frag) : Sp := fun vs H Q _ => ∃ (c : Addr) (r ah t : Int), vs = [.ref c, .int t] ∧ Clk K H c r ah ∧ Q (.int (shownF r ah t)) H
def spBudget : Sp := fun vs H Q _ => ∃ (l d : Int), vs = [.int l, .int d] ∧ 0 ≤ d ∧ d ≤ 100 ∧ Q (.int (budF l d)) H
def spUsed (K : PySem.W.Frag) : Sp := fun vs H Q _ => ∃ (c : Addr) (r ah a t l d : Int), vs = [.ref c, .int a, .int t, .int l, .int d] ∧ Clk K H c r ah ∧ 0 ≤ d ∧ d ≤ 100 ∧ Q (.bl (usedF r ah a t l d)) H
def spLate (K : PySem.W.Frag) : Sp := fun vs H Q _ => ∃ (c : Addr) (r ah a t : Int), vs = [.ref c, .int a, .int t] ∧ Clk K H c r ah ∧ Q (.int (shownF r ah t - shownF r ah a)) H
def spClock : Sp := fun vs H Q _ => ∃ b : Addr, vs = [.ref b] ∧ Bag H b ∧ ∀ (p : Addr) (r ah : Int) (H' : Hp), 50 ≤ r → r ≤ 200 → 0 ≤ ah → ah < 100 → Dw b H H' → p ≠ b → H' p = some (.tup [.int r, .int ah]) → Q (.ref p) H'
def spTerms : Sp := fun vs H Q _ => ∃ b : Addr, vs = [.ref b] ∧ Bag H b ∧ ∀ (p : Addr) (l d : Int) (H' : Hp), 2 ≤ l → l ≤ 1000 → 0 ≤ d → d ≤ 50 → Dw b H H' → p ≠ b → H' p = some (.tup [.int l, .int d]) → Q (.ref p) H'
def spTime : Sp := fun vs H Q _ => ∃ b : Addr, vs = [.ref b] ∧ Bag H b ∧ ∀ (t : Int) (H' : Hp), 0 ≤ t → t ≤ 10 ^ 30 → Dw b H H' → Q (.int t) H'
def lastF (r ah a l d : Int) : Int := (100 * (shownF r ah a + budF l d - 1) + 99 - ah) / r
def spLast (K : PySem.W.Frag) : Sp := fun vs H Q _ => ∃ (c : Addr) (r ah a l d : Int), vs = [.ref c, .int a, .int l, .int d] ∧ Clk K H c r ah ∧ 0 ≤ d ∧ d ≤ 100 ∧ Q (.int (lastF r ah a l d)) H
theorem last_iff {r ah a l d t : Int} (hr : 0 < r) : t ≤ lastF r ah a l d ↔ shownF r ah t - shownF r ah a < budF l d := by
  unfold lastF
  rw [Int.le_ediv_iff_mul_le hr]
  generalize hs : shownF r ah a = s
  generalize budF l d = b
  unfold shownF
  generalize t * r = x
  omega
theorem bud_pos {l d : Int} (h0 : 2 ≤ l) (h1 : 0 ≤ d) (h2 : d ≤ 50) : 1 ≤ budF l d := by
  unfold budF
  have h3 : 2 * 50 ≤ l * (100 - d) := Int.mul_le_mul h0 (by omega) (by decide) (by omega)
  omega
theorem last_ge {r ah a l d : Int} (hr : 0 < r) (h0 : 2 ≤ l) (h1 : 0 ≤ d) (h2 : d ≤ 50) : a ≤ lastF r ah a l d := by
  rw [last_iff hr]
  have := bud_pos h0 h1 h2
  omega
def spLaw (K : PySem.W.Frag) : Sp := fun vs H Q _ => ∃ (a : Addr) (ns : List Int), vs = [.ref a] ∧ SqL K H a (ns.map V.int) ∧ ns.length ≤ 63 ∧ ∀ H', Q (.bl true) H'
/-- a row of the law's: a last use, with its length and drift -/
def RowAt (H : Hp) (r ah a : Int) (x : V) : Prop := ∃ (p : Addr) (l d : Int), x = .ref p ∧ H p = some (.tup [.int (lastF r ah a l d), .int l, .int d]) ∧ 2 ≤ l ∧ l ≤ 1000 ∧ 0 ≤ d ∧ d ≤ 50
theorem RowAt.same {H H' : Hp} {r ah a : Int} {x : V} (s : Same H H') (h : RowAt H r ah a x) : RowAt H' r ah a x := by
  obtain ⟨p, l, d, e, h, k⟩ := h
  exact ⟨p, l, d, e, s _ _ h, k⟩
def G_last_use_0 {α : Type} (d : α) (us ms ws : List α) : List α := [us.getD 0 d, us.getD 1 d, ws.getD 0 d, ws.getD 1 d]
def G_last_use_2 {α : Type} (d : α) (us ms ws : List α) : List α := [us.getD 0 d, us.getD 1 d, ms.getD 0 d, ws.getD 0 d]
def G_last_use_3 {α : Type} (d : α) (us ms ws : List α) : List α := [ws.getD 2 d, ws.getD 0 d, ws.getD 1 d, ms.getD 0 d]
theorem G_last_use_0_rel {vs mz zs : List V} {us mv ws : List Value} (r1 : Vals vs us) (r2 : Vals mz mv) (r3 : Vals zs ws) : Vals (G_last_use_0 .non vs mz zs) (G_last_use_0 .none us mv ws) := .cons (vals_getD 0 r1) (.cons (vals_getD 1 r1) (.cons (vals_getD 0 r3) (.cons (vals_getD 1 r3) .nil)))
theorem G_last_use_2_rel {vs mz zs : List V} {us mv ws : List Value} (r1 : Vals vs us) (r2 : Vals mz mv) (r3 : Vals zs ws) : Vals (G_last_use_2 .non vs mz zs) (G_last_use_2 .none us mv ws) := .cons (vals_getD 0 r1) (.cons (vals_getD 1 r1) (.cons (vals_getD 0 r2) (.cons (vals_getD 0 r3) .nil)))
theorem G_last_use_3_rel {vs mz zs : List V} {us mv ws : List Value} (r1 : Vals vs us) (r2 : Vals mz mv) (r3 : Vals zs ws) : Vals (G_last_use_3 .non vs mz zs) (G_last_use_3 .none us mv ws) := .cons (vals_getD 2 r3) (.cons (vals_getD 0 r3) (.cons (vals_getD 1 r3) (.cons (vals_getD 0 r2) .nil)))
/-! ### what the top has left (printed by wip/gen.py) -/
structure Txt (K : PySem.W.Frag) (mg : Str → Option Value) where
  f_shown : Addr
  d_shown : FuncData
  F_shown : FunD K "shown" "shown" (defArgs s_shown) (defBody s_shown) (defScope s_shown) [] [] f_shown d_shown
  g_shown : mg "shown" = some (.ref f_shown)
  b_shown : Binds K d_shown ["clock", "time"] []
  f_budget : Addr
  d_budget : FuncData
  F_budget : FunD K "budget" "budget" (defArgs s_budget) (defBody s_budget) (defScope s_budget) [] [] f_budget d_budget
  g_budget : mg "budget" = some (.ref f_budget)
  b_budget : Binds K d_budget ["length", "drift"] []
  f_last_use : Addr
  d_last_use : FuncData
  F_last_use : FunD K "last_use" "last_use" (defArgs s_last_use) (defBody s_last_use) (defScope s_last_use) [] [("length", .int 20), ("drift", .int 10)] f_last_use d_last_use
  g_last_use : mg "last_use" = some (.ref f_last_use)
  f_law_bag : Addr
  d_law_bag : FuncData
  F_law_bag : FunD K "_law_bag" "_law_bag" (defArgs s_law_bag) (defBody s_law_bag) (defScope s_law_bag) [] [] f_law_bag d_law_bag
  g__law_bag : mg "_law_bag" = some (.ref f_law_bag)
  b_law_bag : Binds K d_law_bag ["script", "k"] []
  f_law_take : Addr
  d_law_take : FuncData
  F_law_take : FunD K "_law_take" "_law_take" (defArgs s_law_take) (defBody s_law_take) (defScope s_law_take) [] [] f_law_take d_law_take
  g__law_take : mg "_law_take" = some (.ref f_law_take)
  b_law_take : Binds K d_law_take ["bag", "many"] []
  f_law_whole : Addr
  d_law_whole : FuncData
  F_law_whole : FunD K "_law_whole" "_law_whole" (defArgs s_law_whole) (defBody s_law_whole) (defScope s_law_whole) [] [] f_law_whole d_law_whole
  g__law_whole : mg "_law_whole" = some (.ref f_law_whole)
  b_law_whole : Binds K d_law_whole ["thing"] []
  f_law_clock : Addr
  d_law_clock : FuncData
  F_law_clock : FunD K "_law_clock" "_law_clock" (defArgs s_law_clock) (defBody s_law_clock) (defScope s_law_clock) [] [] f_law_clock d_law_clock
  g__law_clock : mg "_law_clock" = some (.ref f_law_clock)
  b_law_clock : Binds K d_law_clock ["bag"] []
  f_law_time : Addr
  d_law_time : FuncData
  F_law_time : FunD K "_law_time" "_law_time" (defArgs s_law_time) (defBody s_law_time) (defScope s_law_time) [] [] f_law_time d_law_time
  g__law_time : mg "_law_time" = some (.ref f_law_time)
  b_law_time : Binds K d_law_time ["bag"] []
  f_law_late : Addr
  d_law_late : FuncData
  F_law_late : FunD K "_law_late" "_law_late" (defArgs s_law_late) (defBody s_law_late) (defScope s_law_late) [] [] f_law_late d_law_late
  g__law_late : mg "_law_late" = some (.ref f_law_late)
  b_law_late : Binds K d_law_late ["c", "a", "t"] []
  f_law_terms : Addr
  d_law_terms : FuncData
  F_law_terms : FunD K "_law_terms" "_law_terms" (defArgs s_law_terms) (defBody s_law_terms) (defScope s_law_terms) [] [] f_law_terms d_law_terms
  g__law_terms : mg "_law_terms" = some (.ref f_law_terms)
  b_law_terms : Binds K d_law_terms ["bag"] []
  f_law : Addr
  d_law : FuncData
  F_law : FunD K "law" "law" (defArgs s_law) (defBody s_law) (defScope s_law) [] [] f_law d_law
  g_law : mg "law" = some (.ref f_law)
  b_law : Binds K d_law ["script"] []
  m_last_use_0 : List Value
  n_last_use_0 : KBn K d_last_use ["clock", "asked", "length", "drift"] 2 ["length", "drift"] (fun us ws => G_last_use_0 .none us m_last_use_0 ws) (fun vs zs => G_last_use_0 .non vs [] zs)
  e_last_use : List Value
  v_last_use : Vals [.int 20, .int 10] e_last_use
  b_last_use : Binds K d_last_use ["clock", "asked", "length", "drift"] e_last_use
  m_last_use_2 : List Value
  n_last_use_2 : KBn K d_last_use ["clock", "asked", "length", "drift"] 2 ["drift"] (fun us ws => G_last_use_2 .none us m_last_use_2 ws) (fun vs zs => G_last_use_2 .non vs [.int 20] zs)
  m_last_use_3 : List Value
  n_last_use_3 : KBn K d_last_use ["clock", "asked", "length", "drift"] 0 ["asked", "length", "clock"] (fun us ws => G_last_use_3 .none us m_last_use_3 ws) (fun vs zs => G_last_use_3 .non vs [.int 10] zs)
  z_len : mg "len" = none
  z_abs : mg "abs" = none
  z_isinstance : mg "isinstance" = none
  z_bool : mg "bool" = none
  z_int : mg "int" = none
  z_range : mg "range" = none
  z_min : mg "min" = none
section
variable {P : Program} {w : World} {K : PySem.W.Frag} {mg : Str → Option Value} {base : Heap}
theorem ok_law_bag (T : Txt K mg) : FnOk P w K mg base CX0 1 T.f_law_bag T.d_law_bag ["script", "k"] (spBag K) := by
  refine FunD.ok T.F_law_bag sc_law_bag ?len (fun cdv A outer s H vs Q E hr h => ?_)
  case len => intro vs H Q E h; obtain ⟨_, _, _, rfl, _⟩ := h; rfl
  · obtain ⟨s, ns, k, rfl, hS, q⟩ := h
    refine ⟨_, (PSs.nox (pss_cons (ps_set (i := 2) sc_law_bag.nd rfl (.inl rfl) pe_int)
      (pss_cons (ps_if (pt_cmpR op_lt (pv 1) (pe_callB call_len_seq (by rfl) T.z_len (by decide +kernel) (pa_cons (pv 0) pa_nil)) (nomark _))
        (pss_one (ps_set (i := 2) sc_law_bag.nd rfl (.inl rfl) (pe_callB call_abs (by rfl) T.z_abs (by decide +kernel) (pa_cons (pe_ix ix_list (pv 0) (pv 1) (fun _ _ => rfl)) pa_nil))))
        pss_nil)
      (pss_cons (ps_if (pt_cmpR op_lt (pv 2) (pe_op op_pow pe_int pe_int) (nomark _))
        (pss_one (ps_ret (pe_lst (pa_cons pe_int (pa_cons (pe_op op_add pe_int (pe_op op_mod (pe_op op_add (pe_op op_mul (pv 2) pe_int) (pe_op op_mul pe_int (pv 1))) pe_int)) pa_nil)))))
        pss_nil)
      (pss_one (ps_ret (pe_lst (pa_cons (pv 2) (pa_cons (pe_op op_add pe_int (pe_op op_mod (pe_op op_add (pv 2) (pv 1)) pe_int)) pa_nil)))))))) : PSs _ _ _), ?_⟩
    try dsimp only [cxOf, Cx.nox, Cx.wish]
    show tSeq _ _ _ [some (.ref s), some (.int (k : Int)), none] H
    walk_at "rd"
    refine w_dec (fun hlt => ?_) (fun _ => ?_)
    · have hk : k < ns.length := by
        rw [List.length_map] at hlt
        omega
      walk_at "rd"
      refine w_ixL hS (atI_nat (j := k) (v := .int ns[k]) (by rw [List.getElem?_map, List.getElem?_eq_getElem hk]; rfl)) ?_
      walk_at "rd"
      refine w_dec (fun _ => ?_) (fun _ => ?_) <;> (walk_at "rd"; exact fun p np => q p _ _ np)
    · walk_at "rd"
      refine w_dec (fun _ => ?_) (fun _ => ?_) <;> (walk_at "rd"; exact fun p np => q p _ _ np)
theorem ok_law_take (T : Txt K mg) : FnOk P w K mg base CX0 1 T.f_law_take T.d_law_take ["bag", "many"] spTake := by
  refine FunD.ok T.F_law_take sc_law_take ?len (fun cdv A outer s H vs Q E hr h => ?_)
  case len => intro vs H Q E h; obtain ⟨_, _, rfl, _⟩ := h; rfl
  · obtain ⟨a, m, rfl, ⟨b0, b1, hB⟩, hm, hz, q⟩ := h
    have hw : ∀ x : Int, CDivW x m := fun x => wide_div hm hz (by decide) (by decide)
    refine ⟨_, (PSs.nox (pss_cons (ps_if (pt_cmpR op_gt (pe_ix ix_list (pv 0) pe_int (fun _ _ => rfl)) pe_int (nomark _))
        (pss_cons (ps_set (i := 2) sc_law_take.nd rfl (.inl rfl) (pe_op op_mod (pe_ix ix_list (pv 0) pe_int (fun _ _ => rfl)) (pv 1)))
          (pss_cons (ps_asg (pe_op op_fdivW (pe_ix ix_list (pv 0) pe_int (fun _ _ => rfl)) (pv 1)) (pg_sub (pv 0) pe_int set_list))
          (pss_one (ps_ret (pv 2)))))
        pss_nil)
      (pss_cons (ps_asg (pe_op op_mod (pe_op op_mul (pe_ix ix_list (pv 0) pe_int (fun _ _ => rfl)) pe_int) pe_int) (pg_sub (pv 0) pe_int set_list))
      (pss_one (ps_ret (pe_op op_mod (pe_op op_fdiv (pe_op op_mod (pe_op op_mul (pe_ix ix_list (pv 0) pe_int (fun _ _ => rfl)) (pe_ix ix_list (pv 0) pe_int (fun _ _ => rfl))) pe_int) pe_int) (pv 1)))))) : PSs _ _ _), ?_⟩
    try dsimp only [cxOf, Cx.nox, Cx.wish]
    show tSeq _ _ _ [some (.ref a), some (.int m), none] H
    walk_at "rd"
    refine w_dec (fun hlt => ?_) (fun _ => ?_)
    · walk_at "rd"
      refine w_I (hw _) ?_
      walk_at "rd"
      exact q _ _ _ (Int.emod_nonneg _ (by omega)) (Int.emod_lt_of_pos _ hm)
    · walk_at "rd"
      exact q _ _ _ (Int.emod_nonneg _ (by omega)) (Int.emod_lt_of_pos _ hm)
theorem ok_law_whole (T : Txt K mg) : FnOk P w K mg base CX0 1 T.f_law_whole T.d_law_whole ["thing"] spWholeI := by
  refine FunD.ok T.F_law_whole sc_law_whole ?len (fun cdv A outer s H vs Q E hr h => ?_)
  case len => intro vs H Q E h; obtain ⟨_, rfl, _⟩ := h; rfl
  · obtain ⟨i, rfl, q⟩ := h
    refine ⟨_, (PSs.nox (pss_one (ps_ret (pe_and (pe_callB call_isi (by rfl) T.z_isinstance (by decide +kernel) (pa_cons (pv 0) (pa_cons (pe_bltn (v := .ty "int") (u := .type "int") (by rfl) T.z_int (by decide +kernel) rfl) pa_nil))) (pe_one (pe_not (pe_callB call_isi (by rfl) T.z_isinstance (by decide +kernel) (pa_cons (pv 0) (pa_cons (pe_bltn (v := .ty "bool") (u := .type "bool") (by rfl) T.z_bool (by decide +kernel) rfl) pa_nil)))))))) : PSs _ _ _), ?_⟩
    try dsimp only [cxOf, Cx.nox, Cx.wish]
    show tRet _ _ [some (.int i)] H
    walk_at "rd"
    exact q
theorem ok_shown (T : Txt K mg) : FnOk P w K mg base CX0 1 T.f_shown T.d_shown ["clock", "time"] (spShown K) := by
  refine FunD.ok T.F_shown sc_shown ?len (fun cdv A outer s H vs Q E hr h => ?_)
  case len => intro vs H Q E h; obtain ⟨_, _, _, _, rfl, _⟩ := h; rfl
  · obtain ⟨c, r, ah, t, rfl, ⟨hC, h1, h2⟩, q⟩ := h
    refine ⟨_, (PSs.nox (pss_cons (ps_asg (pv 0) (pg_tup (n := 2) rfl (pgs_cons (pg_name (i := 2) sc_shown.nd rfl (.inl rfl)) (pgs_cons (pg_name (i := 3) sc_shown.nd rfl (.inl rfl)) pgs_nil))))
      (pss_one (ps_ret (pe_op op_fdiv (pe_op op_add (pe_op op_mul (pv 1) (pv 2)) (pv 3)) pe_int)))) : PSs _ _ _), ?_⟩
    try dsimp only [cxOf, Cx.nox, Cx.wish]
    show tSeq _ _ _ [some (.ref c), some (.int t), none, none] H
    walk_at "rd"
    exact q
theorem ok_budget (T : Txt K mg) : FnOk P w K mg base CX0 1 T.f_budget T.d_budget ["length", "drift"] spBudget := by
  refine FunD.ok T.F_budget sc_budget ?len (fun cdv A outer s H vs Q E hr h => ?_)
  case len => intro vs H Q E h; obtain ⟨_, _, rfl, _⟩ := h; rfl
  · obtain ⟨l, d, rfl, h1, h2, q⟩ := h
    refine ⟨_, (PSs.nox (pss_one (ps_ret (pe_op op_fdiv (pe_op op_mul (pv 0) (pe_op op_sub pe_int (pv 1))) pe_int))) : PSs _ _ _), ?_⟩
    try dsimp only [cxOf, Cx.nox, Cx.wish]
    show tRet _ _ [some (.int l), some (.int d)] H
    walk_at "rd"
    exact q
theorem ok_last_use (T : Txt K mg) : FnOk P w K mg base CX0 2 T.f_last_use T.d_last_use ["clock", "asked", "length", "drift"] (spLast K) := by
  refine FunD.ok T.F_last_use sc_last_use ?len (fun cdv A outer s H vs Q E hr h => ?_)
  case len => intro vs H Q E h; obtain ⟨_, _, _, _, _, _, rfl, _⟩ := h; rfl
  · obtain ⟨c, r, ah, a, l, d, rfl, ⟨hC, r0, r1⟩, h1, h2, q⟩ := h
    refine ⟨_, (PSs.nox (pss_cons (ps_asg (pv 0) (pg_tup (n := 2) rfl (pgs_cons (pg_name (i := 4) sc_last_use.nd rfl (.inl rfl)) (pgs_cons (pg_name (i := 5) sc_last_use.nd rfl (.inl rfl)) pgs_nil))))
      (pss_cons (ps_set (i := 6) sc_last_use.nd rfl (.inl rfl) (pe_op op_sub (pe_op op_add (pe_call (ok_shown T) hr (by rfl) T.g_shown T.F_shown.kp T.b_shown .nil pass0 (pa_cons (pv 0) (pa_cons (pv 1) pa_nil))) (pe_call (ok_budget T) hr (by rfl) T.g_budget T.F_budget.kp T.b_budget .nil pass0 (pa_cons (pv 2) (pa_cons (pv 3) pa_nil)))) pe_int))
      (pss_one (ps_ret (pe_op op_fdiv (pe_op op_sub (pe_op op_add (pe_op op_mul pe_int (pv 6)) pe_int) (pv 5)) (pv 4)))))) : PSs _ _ _), ?_⟩
    try dsimp only [cxOf, Cx.nox, Cx.wish]
    show tSeq _ _ _ [some (.ref c), some (.int a), some (.int l), some (.int d), none, none, none] H
    walk_at "rd"
    refine ⟨c, r, ah, a, rfl, ⟨hC, r0, r1⟩, ?_⟩
    walk_at "rd"
    refine ⟨l, d, rfl, h1, h2, ?_⟩
    walk_at "rd"
    exact q
theorem ok_law_late (T : Txt K mg) : FnOk P w K mg base CX0 1 T.f_law_late T.d_law_late ["c", "a", "t"] (spLate K) := by
  refine FunD.ok T.F_law_late sc_law_late ?len (fun cdv A outer s H vs Q E hr h => ?_)
  case len => intro vs H Q E h; obtain ⟨_, _, _, _, _, rfl, _⟩ := h; rfl
  · obtain ⟨c, r, ah, a, t, rfl, ⟨hC, h1, h2⟩, q⟩ := h
    refine ⟨_, (PSs.nox (pss_one (ps_ret (pe_op op_sub (pe_op op_fdiv (pe_op op_add (pe_op op_mul (pv 2) (pe_ix ix_tup (pv 0) pe_int (fun _ _ => rfl))) (pe_ix ix_tup (pv 0) pe_int (fun _ _ => rfl))) pe_int) (pe_op op_fdiv (pe_op op_add (pe_op op_mul (pv 1) (pe_ix ix_tup (pv 0) pe_int (fun _ _ => rfl))) (pe_ix ix_tup (pv 0) pe_int (fun _ _ => rfl))) pe_int)))) : PSs _ _ _), ?_⟩
    try dsimp only [cxOf, Cx.nox, Cx.wish]
    show tRet _ _ [some (.ref c), some (.int a), some (.int t)] H
    walk_at "rd"
    exact q
theorem ok_law_clock (T : Txt K mg) : FnOk P w K mg base CX0 2 T.f_law_clock T.d_law_clock ["bag"] spClock := by
  refine FunD.ok T.F_law_clock sc_law_clock ?len (fun cdv A outer s H vs Q E hr h => ?_)
  case len => intro vs H Q E h; obtain ⟨_, rfl, _⟩ := h; rfl
  · obtain ⟨b, rfl, hB, q⟩ := h
    refine ⟨_, (PSs.nox (pss_one (ps_ret (pe_tup (pa_cons (pe_op op_add pe_int (pe_call (ok_law_take T) hr (by rfl) T.g__law_take T.F_law_take.kp T.b_law_take .nil pass0 (pa_cons (pv 0) (pa_cons pe_int pa_nil)))) (pa_cons (pe_call (ok_law_take T) hr (by rfl) T.g__law_take T.F_law_take.kp T.b_law_take .nil pass0 (pa_cons (pv 0) (pa_cons pe_int pa_nil))) pa_nil))))) : PSs _ _ _), ?_⟩
    try dsimp only [cxOf, Cx.nox, Cx.wish]
    show tRet _ _ [some (.ref b)] H
    walk_at "rd"
    refine take_go hB (by decide) (lt2 (by decide) (by decide)) fun x H1 x0 x1 d1 => ?_
    walk_at "rd"
    refine take_go d1.bag (by decide) (lt2 (by decide) (by decide)) fun y H2 y0 y1 d2 => ?_
    walk_at "rd"
    intro p np
    have n := New.mk' (o := .tup [.int (50 + x), .int y]) np
    exact q p _ _ _ (by omega) (by omega) y0 y1 ((d1.trans d2).new n) (d2.bag.ne np) upd_same
theorem ok_law_terms (T : Txt K mg) : FnOk P w K mg base CX0 2 T.f_law_terms T.d_law_terms ["bag"] spTerms := by
  refine FunD.ok T.F_law_terms sc_law_terms ?len (fun cdv A outer s H vs Q E hr h => ?_)
  case len => intro vs H Q E h; obtain ⟨_, rfl, _⟩ := h; rfl
  · obtain ⟨b, rfl, hB, q⟩ := h
    refine ⟨_, (PSs.nox (pss_cons (ps_set (i := 1) sc_law_terms.nd rfl (.inl rfl) (pe_ix ix_list (pe_lst (pa_cons pe_int (pa_cons pe_int (pa_cons pe_int pa_nil)))) (pe_call (ok_law_take T) hr (by rfl) T.g__law_take T.F_law_take.kp T.b_law_take .nil pass0 (pa_cons (pv 0) (pa_cons pe_int pa_nil))) (fun _ _ => rfl)))
      (pss_cons (ps_set (i := 2) sc_law_terms.nd rfl (.inl rfl) (pe_ix ix_list (pe_lst (pa_cons pe_int (pa_cons pe_int (pa_cons pe_int (pa_cons pe_int (pa_cons pe_int (pa_cons pe_int pa_nil))))))) (pe_call (ok_law_take T) hr (by rfl) T.g__law_take T.F_law_take.kp T.b_law_take .nil pass0 (pa_cons (pv 0) (pa_cons pe_int pa_nil))) (fun _ _ => rfl)))
      (pss_cons (ps_if (pt_cmpR op_eq (pv 2) pe_int (nomark _))
        (pss_one (ps_set (i := 2) sc_law_terms.nd rfl (.inl rfl) (pe_call (ok_law_take T) hr (by rfl) T.g__law_take T.F_law_take.kp T.b_law_take .nil pass0 (pa_cons (pv 0) (pa_cons pe_int pa_nil)))))
        pss_nil)
      (pss_one (ps_ret (pe_tup (pa_cons (pe_op op_add pe_int (pe_call (ok_law_take T) hr (by rfl) T.g__law_take T.F_law_take.kp T.b_law_take .nil pass0 (pa_cons (pv 0) (pa_cons (pv 1) pa_nil)))) (pa_cons (pv 2) pa_nil)))))))) : PSs _ _ _), ?_⟩
    try dsimp only [cxOf, Cx.nox, Cx.wish]
    show tSeq _ _ _ [some (.ref b), none, none] H
    walk_at "rd"
    intro p np
    walk_at "rd"
    have n1 := New.mk' (o := .lst [.int 9, .int 60, .int 999]) np
    refine take_go (hB.same n1.same) (by decide) (lt2 (by decide) (by decide)) fun x H1 x0 x1 d1 => ?_
    obtain ⟨most, hm, m0, m1⟩ : ∃ most, atI [V.int 9, .int 60, .int 999] x = some (.int most) ∧ 0 < most ∧ most < 1000 := by
      have h3 : x = 0 ∨ x = 1 ∨ x = 2 := by omega
      rcases h3 with rfl | rfl | rfl <;> exact ⟨_, rfl, by decide, by decide⟩
    refine w_ixL (sqL_of (d1.get (hB.ne np) n1.now)) hm ?_
    walk_at "rd"
    intro p2 np2
    walk_at "rd"
    have n2 := New.mk' (o := .lst [.int 0, .int 1, .int 49, .int 50, .int 10, .int 51]) np2
    refine take_go (d1.bag.same n2.same) (by decide) (lt2 (by decide) (by decide)) fun y H2 y0 y1 d2 => ?_
    obtain ⟨sl, hs, s0, s1⟩ : ∃ sl, atI [V.int 0, .int 1, .int 49, .int 50, .int 10, .int 51] y = some (.int sl) ∧ 0 ≤ sl ∧ sl ≤ 51 := by
      have h6 : y = 0 ∨ y = 1 ∨ y = 2 ∨ y = 3 ∨ y = 4 ∨ y = 5 := by omega
      rcases h6 with rfl | rfl | rfl | rfl | rfl | rfl <;> exact ⟨_, rfl, by decide, by decide⟩
    refine w_ixL (sqL_of (d2.get (d1.bag.ne np2) n2.now)) hs ?_
    have d3 : Dw b H H2 := ((Dw.of_same hB n1.same).trans d1).trans ((Dw.of_same d1.bag n2.same).trans d2)
    walk_at "rd"
    refine w_eqI (fun e => ?_) (fun e => ?_)
    · walk_at "rd"
      refine take_go d2.bag (by decide) (lt2 (by decide) (by decide)) fun z H3 z0 z1 d4 => ?_
      walk_at "rd"
      refine take_go d4.bag m0 (lt2 (by omega) (by omega)) fun u H4 u0 u1 d5 => ?_
      walk_at "rd"
      intro p3 np3
      exact q p3 _ _ _ (by omega) (by omega) (by omega) (by omega) (((d3.trans d4).trans d5).new (New.mk' np3)) (d5.bag.ne np3) upd_same
    · walk_at "rd"
      refine take_go d2.bag m0 (lt2 (by omega) (by omega)) fun u H4 u0 u1 d5 => ?_
      walk_at "rd"
      intro p3 np3
      exact q p3 _ _ _ (by omega) (by omega) (by omega) (by omega) ((d3.trans d5).new (New.mk' np3)) (d5.bag.ne np3) upd_same
theorem ok_law_time (T : Txt K mg) : FnOk P w K mg base CX0 2 T.f_law_time T.d_law_time ["bag"] spTime := by
  refine FunD.ok T.F_law_time sc_law_time ?len (fun cdv A outer s H vs Q E hr h => ?_)
  case len => intro vs H Q E h; obtain ⟨_, rfl, _⟩ := h; rfl
  · obtain ⟨b, rfl, hB, q⟩ := h
    refine ⟨_, (PSs.nox (pss_cons (ps_set (i := 1) sc_law_time.nd rfl (.inl rfl) (pe_ix ix_list (pe_lst (pa_cons pe_int (pa_cons (pe_op op_pow pe_int pe_int) (pa_cons (pe_op op_add (pe_op op_pow pe_int pe_int) pe_int) pa_nil)))) (pe_call (ok_law_take T) hr (by rfl) T.g__law_take T.F_law_take.kp T.b_law_take .nil pass0 (pa_cons (pv 0) (pa_cons pe_int pa_nil))) (fun _ _ => rfl)))
      (pss_one (ps_ret (pe_call (ok_law_take T) hr (by rfl) T.g__law_take T.F_law_take.kp T.b_law_take .nil pass0 (pa_cons (pv 0) (pa_cons (pv 1) pa_nil)))))) : PSs _ _ _), ?_⟩
    try dsimp only [cxOf, Cx.nox, Cx.wish]
    show tSeq _ _ _ [some (.ref b), none] H
    walk_at "rd"
    intro p np
    walk_at "rd"
    have n1 := New.mk' (o := .lst [.int 300, .int (10 ^ (6 : Int).toNat), .int (10 ^ (30 : Int).toNat + 1)]) np
    refine take_go (hB.same n1.same) (by decide) (lt2 (by decide) (by decide)) fun x H1 x0 x1 d1 => ?_
    obtain ⟨most, hm, m0, m1⟩ : ∃ most, atI [V.int 300, .int (10 ^ (6 : Int).toNat), .int (10 ^ (30 : Int).toNat + 1)] x = some (.int most) ∧ 0 < most ∧ most ≤ 10 ^ 30 + 1 := by
      have h3 : x = 0 ∨ x = 1 ∨ x = 2 := by omega
      rcases h3 with rfl | rfl | rfl
      · exact ⟨_, rfl, by decide, by decide⟩
      · exact ⟨_, rfl, by decide, by decide⟩
      · exact ⟨_, rfl, by decide, by decide⟩
    refine w_ixL (sqL_of (d1.get (hB.ne np) n1.now)) hm ?_
    walk_at "rd"
    refine take_go d1.bag m0 (lt2 (by omega) (by omega)) fun y H2 y0 y1 d2 => ?_
    exact q y H2 y0 (by omega) (((Dw.of_same hB n1.same).trans d1).trans d2)
theorem ok_law (T : Txt K mg) : FnOk P w K mg base CX0 3 T.f_law T.d_law ["script"] (spLaw K) := by
  refine FunD.ok T.F_law sc_law ?len (fun cdv A outer s H vs Q E hr h => ?_)
  case len => intro vs H Q E h; obtain ⟨_, _, rfl, _⟩ := h; rfl
  · obtain ⟨s, ns, rfl, hS, hlen, q⟩ := h
    have hl' : (ns.map V.int).length ≤ 63 := by rw [List.length_map]; exact hlen
    refine ⟨_, (PSs.nox (pss_cons (ps_for PassesOwn.never rfl (pi_range1 (by rfl) T.z_range (pa_cons (pe_op op_add pe_int (pe_callB (call_min2 rfl) (by rfl) T.z_min (by decide +kernel) (pa_cons (pe_callB call_len_seq (by rfl) T.z_len (by decide +kernel) (pa_cons (pv 0) pa_nil)) (pa_cons pe_int pa_nil)))) pa_nil)) (pg_name (i := 1) sc_law.nd rfl (.inl rfl))
        (pss_cons (ps_set (i := 2) sc_law.nd rfl (.inl rfl) (pe_call (ok_law_bag T) (hr.mono (by decide)) (by rfl) T.g__law_bag T.F_law_bag.kp T.b_law_bag .nil pass0 (pa_cons (pv 0) (pa_cons (pv 1) pa_nil))))
          (pss_cons (ps_set (i := 3) sc_law.nd rfl (.inl rfl) (pe_call (ok_law_clock T) hr (by rfl) T.g__law_clock T.F_law_clock.kp T.b_law_clock .nil pass0 (pa_cons (pv 2) pa_nil)))
          (pss_cons (ps_asg (pe_call (ok_law_terms T) hr (by rfl) T.g__law_terms T.F_law_terms.kp T.b_law_terms .nil pass0 (pa_cons (pv 2) pa_nil)) (pg_tup (n := 2) rfl (pgs_cons (pg_name (i := 4) sc_law.nd rfl (.inl rfl)) (pgs_cons (pg_name (i := 5) sc_law.nd rfl (.inl rfl)) pgs_nil))))
          (pss_cons (ps_set (i := 6) sc_law.nd rfl (.inl rfl) (pe_call (ok_law_time T) hr (by rfl) T.g__law_time T.F_law_time.kp T.b_law_time .nil pass0 (pa_cons (pv 2) pa_nil)))
          (pss_cons (ps_set (i := 7) sc_law.nd rfl (.inl rfl) (pe_lst (pa_cons (pe_tup (pa_cons (pe_callN (ok_last_use T) hr (by rfl) T.g_last_use T.F_last_use.kp T.n_last_use_0 pass0 (pa_cons (pv 3) (pa_cons (pv 6) pa_nil)) (pk_cons (pv 4) (pk_cons (pv 5) pk_nil))) (pa_cons (pv 4) (pa_cons (pv 5) pa_nil)))) pa_nil)))
          (pss_cons (ps_expr (pe_bm PySem.F.plainAttrs_list PySem.F.slot_list_append PySem.F.type_list_append mt_append (pv 7) (pa_cons (pe_tup (pa_cons (pe_call (ok_last_use T) hr (by rfl) T.g_last_use T.F_last_use.kp T.b_last_use T.v_last_use pass0 (pa_cons (pv 3) (pa_cons (pv 6) pa_nil))) (pa_cons pe_int (pa_cons pe_int pa_nil)))) pa_nil)))
          (pss_cons (ps_expr (pe_bm PySem.F.plainAttrs_list PySem.F.slot_list_append PySem.F.type_list_append mt_append (pv 7) (pa_cons (pe_tup (pa_cons (pe_callN (ok_last_use T) hr (by rfl) T.g_last_use T.F_last_use.kp T.n_last_use_2 pass0 (pa_cons (pv 3) (pa_cons (pv 6) pa_nil)) (pk_cons (pv 5) pk_nil)) (pa_cons pe_int (pa_cons (pv 5) pa_nil)))) pa_nil)))
          (pss_cons (ps_expr (pe_bm PySem.F.plainAttrs_list PySem.F.slot_list_append PySem.F.type_list_append mt_append (pv 7) (pa_cons (pe_tup (pa_cons (pe_callN0 (ok_last_use T) hr (by rfl) T.g_last_use T.F_last_use.kp T.n_last_use_3 pass0 (pk_cons (pv 6) (pk_cons (pv 4) (pk_cons (pv 3) pk_nil)))) (pa_cons (pv 4) (pa_cons pe_int pa_nil)))) pa_nil)))
          (pss_one (ps_for PassesOwn.never rfl (pi_list (pv 7)) (pg_tup (n := 3) rfl (pgs_cons (pg_name (i := 8) sc_law.nd rfl (.inl rfl)) (pgs_cons (pg_name (i := 9) sc_law.nd rfl (.inl rfl)) (pgs_cons (pg_name (i := 10) sc_law.nd rfl (.inl rfl)) pgs_nil))))
            (pss_cons (ps_if (PW.pt (pw_or (pt_not (pt_val (pe_call (ok_law_whole T) (hr.mono (by decide)) (by rfl) T.g__law_whole T.F_law_whole.kp T.b_law_whole .nil pass0 (pa_cons (pv 8) pa_nil)))) (pw_or1 (pt_cmpR op_lt (pv 8) (pv 6) (nomark _)))))
                (pss_one (ps_ret pe_bl))
                pss_nil)
              (pss_cons (ps_set (i := 11) sc_law.nd rfl (.inl rfl) (pe_op op_fdiv (pe_op op_mul (pv 9) (pe_op op_sub pe_int (pv 10))) pe_int))
              (pss_one (ps_if (PW.pt (pw_or (pt_cmpR op_ge (pe_call (ok_law_late T) (hr.mono (by decide)) (by rfl) T.g__law_late T.F_law_late.kp T.b_law_late .nil pass0 (pa_cons (pv 3) (pa_cons (pv 6) (pa_cons (pv 8) pa_nil)))) (pv 11) (nomark _)) (pw_or1 (pt_cmpR op_lt (pe_call (ok_law_late T) (hr.mono (by decide)) (by rfl) T.g__law_late T.F_law_late.kp T.b_law_late .nil pass0 (pa_cons (pv 3) (pa_cons (pv 6) (pa_cons (pe_op op_add (pv 8) pe_int) pa_nil)))) (pv 11) (nomark _)))))
                (pss_one (ps_ret pe_bl))
                pss_nil)))))))))))))))
      (pss_one (ps_ret pe_bl))) : PSs _ _ _), ?_⟩
    try dsimp only [cxOf, Cx.nox, Cx.wish]
    show tSeq _ _ _ [some (.ref s), none, none, none, none, none, none, none, none, none, none, none] H
    walk_at "rd"
    refine ⟨by omega, by omega, ?_⟩
    refine w_loopR0 (fun _ σ' H' => ∃ x1 x2 x3 x4 x5 x6 x7 x8 x9 x10 x11 : Option V, σ' = [some (.ref s), x1, x2, x3, x4, x5, x6, x7, x8, x9, x10, x11] ∧ Same H H') ⟨_, _, _, _, _, _, _, _, _, _, _, rfl, Same.refl H⟩ ?turn ?done
    case done =>
      intro σ' H' h
      obtain ⟨_, _, _, _, _, _, _, _, _, _, _, rfl, _⟩ := h
      walk_at "rd"
      exact q _
    case turn =>
      intro k σ' H' hk h
      obtain ⟨x1, x2, x3, x4, x5, x6, x7, x8, x9, x10, x11, rfl, sm⟩ := h
      walk_at "rd"
      refine ⟨s, ns, k, rfl, sm.seq hS, fun bag b0 b1 nb => ?_⟩
      have hB : Bag (upd H' bag (.lst [.int b0, .int b1])) bag := Bag.mk'
      have sm1 : Same H (upd H' bag (.lst [.int b0, .int b1])) := sm.trans (New.mk' nb).same
      have nb0 : H bag = none := sm.free nb
      walk_at "rd"
      refine ⟨bag, rfl, hB, fun c r ah H2 r0 r1 a0 a1 d2 nc hc => ?_⟩
      walk_at "rd"
      refine ⟨bag, rfl, d2.bag, fun p l d H3 l0 l1 s0 s1 d3 np hp => ?_⟩
      walk_at "rd"
      refine ⟨bag, rfl, d3.bag, fun a H4 t0 t1 d4 => ?_⟩
      have sm4 : Same H H4 := by walk_at "same"
      have hc4 : H4 c = some (.tup [.int r, .int ah]) := d4.get nc (d3.get nc hc)
      walk_at "rd"
      have hC : ∀ H', H' c = some (.tup [.int r, .int ah]) → Clk K H' c r ah := fun H' h => ⟨sqT_of h, r0, r1⟩
      refine ⟨rfl, rfl, c, r, ah, a, l, d, rfl, hC _ (by walk_at "hp"), s0, by omega, ?_⟩
      walk_at "rd"
      intro p1 n1
      walk_at "rd"
      intro rows nr
      walk_at "rd"
      refine ⟨c, r, ah, a, 20, 10, rfl, hC _ (by walk_at "hp"), by decide, by decide, ?_⟩
      walk_at "rd"
      intro p2 n2
      walk_at "rd"
      refine ⟨rfl, rfl, c, r, ah, a, 20, d, rfl, hC _ (by walk_at "hp"), s0, by omega, ?_⟩
      walk_at "rd"
      intro p3 n3
      walk_at "rd"
      refine ⟨rfl, rfl, c, r, ah, a, l, 10, rfl, hC _ (by walk_at "hp"), by decide, by decide, ?_⟩
      walk_at "rd"
      intro p4 n4
      walk_at "rd"
      refine w_loopX upd_same (fun xs _ σ' H' => ∃ y8 y9 y10 y11 : Option V, σ' = [some (.ref s), some (.int k), some (.ref bag), some (.ref c), some (.int l), some (.int d), some (.int a), some (.ref rows), y8, y9, y10, y11] ∧
        Same H H' ∧ H' rows = some (.lst xs) ∧ H' c = some (.tup [.int r, .int ah]) ∧ ∀ x ∈ xs, RowAt H' r ah a x) ⟨_, _, _, _, rfl, by walk_at "same", upd_same, by walk_at "hp", ?rows⟩ ?lst ?turn ?done
      case rows =>
        intro x hx
        simp only [List.cons_append, List.nil_append, List.mem_cons, List.not_mem_nil, or_false] at hx
        rcases hx with rfl | rfl | rfl | rfl
        · exact ⟨p1, l, d, rfl, by walk_at "hp", l0, l1, s0, s1⟩
        · exact ⟨p2, 20, 10, rfl, by walk_at "hp", by decide, by decide, by decide, by decide⟩
        · exact ⟨p3, 20, d, rfl, by walk_at "hp", by decide, by decide, s0, s1⟩
        · exact ⟨p4, l, 10, rfl, by walk_at "hp", l0, l1, by decide, by decide⟩
      case lst =>
        intro k σ' H' h
        obtain ⟨_, _, _, _, _, _, h, _⟩ := h
        exact sqL_of h
      case done =>
        intro σ' H' h
        obtain ⟨_, _, _, _, rfl, h, _⟩ := h
        exact ⟨_, _, _, _, _, _, _, _, _, _, _, rfl, h⟩
      case turn =>
        intro k x σ' H' hx h
        obtain ⟨y8, y9, y10, y11, rfl, sm, ht, hc, hi⟩ := h
        obtain ⟨p, l', d', rfl, hp, l0', l1', s0', s1'⟩ := hi x (List.mem_of_getElem? hx)
        have hr0 : 0 < r := by omega
        have g := last_ge (ah := ah) (a := a) hr0 l0' s0' s1'
        have u1 := (last_iff (r := r) (ah := ah) (a := a) (l := l') (d := d') (t := lastF r ah a l' d') hr0).mp (Int.le_refl _)
        have u2 : ¬ shownF r ah (lastF r ah a l' d' + 1) - shownF r ah a < budF l' d' := fun z => by
          have := (last_iff hr0).mpr z
          omega
        walk_at "rd"
        refine ⟨_, rfl, ?_⟩
        walk_at "rd"
        refine w_no (decide_eq_false (by omega)) ?_
        walk_at "rd"
        refine ⟨c, r, ah, a, _, rfl, hC _ hc, ?_⟩
        walk_at "rd"
        refine w_no (decide_eq_false (Int.not_le.mpr u1)) ?_
        walk_at "rd"
        refine ⟨c, r, ah, a, _, rfl, hC _ hc, ?_⟩
        walk_at "rd"
        refine w_no (decide_eq_false u2) ?_
        walk_at "rd"
        exact ⟨_, _, _, _, rfl, sm, ht, hc, hi⟩
end
/-! ### the end (printed by wip/gen.py) -/
theorem all_mk {l : PySem.W.OpenLaw} {w : World} {K : PySem.W.Frag} {h : Heap} {mg : Str → Option Value} {fa : Addr} (X : K.In h) (G : h.Ns mainGlobals mg) (hfa : mg "law" = some (.ref fa))
    {f1 f2 f3 f4 f5 f6 f7 f8 f9 f10 f11 : Addr} {k3 : Addr} {od1 an1 od2 an2 od3 an3 od4 an4 od5 an5 od6 an6 od7 an7 od8 an8 od9 an9 od10 an10 od11 an11 : Option Addr} {sl1 sl2 sl3 sl4 sl5 sl6 sl7 sl8 sl9 sl10 sl11 : Array (Option Value)} {oc1 kV1 dc1 pm1 cd1 ct1 oc2 kV2 dc2 pm2 cd2 ct2 oc3 dc3 pm3 cd3 ct3 oc4 kV4 dc4 pm4 cd4 ct4 oc5 kV5 dc5 pm5 cd5 ct5 oc6 kV6 dc6 pm6 cd6 ct6 oc7 kV7 dc7 pm7 cd7 ct7 oc8 kV8 dc8 pm8 cd8 ct8 oc9 kV9 dc9 pm9 cd9 ct9 oc10 kV10 dc10 pm10 cd10 ct10 oc11 kV11 dc11 pm11 cd11 ct11 : Value}
    (a1 : PySem.W.nsIn K mainGlobals "shown" = some (some (.ref f1)))
    (l1 : K.lookup f1 = some ⟨oc1, od1, .func (PySem.W.fnOf "shown" "shown" (defArgs s_shown) (defBody s_shown) (defScope s_shown) .none kV1 dc1 pm1 an1 cd1 ct1), sl1⟩)
    (c1 : PySem.W.codeIn K cd1 "shown" = true)
    (k1_ : PySem.W.keepIn K (.ref f1) = true)
    (a2 : PySem.W.nsIn K mainGlobals "budget" = some (some (.ref f2)))
    (l2 : K.lookup f2 = some ⟨oc2, od2, .func (PySem.W.fnOf "budget" "budget" (defArgs s_budget) (defBody s_budget) (defScope s_budget) .none kV2 dc2 pm2 an2 cd2 ct2), sl2⟩)
    (c2 : PySem.W.codeIn K cd2 "budget" = true)
    (k2_ : PySem.W.keepIn K (.ref f2) = true)
    (a3 : PySem.W.nsIn K mainGlobals "last_use" = some (some (.ref f3)))
    (l3 : K.lookup f3 = some ⟨oc3, od3, .func (PySem.W.fnOf "last_use" "last_use" (defArgs s_last_use) (defBody s_last_use) (defScope s_last_use) .none (.ref k3) dc3 pm3 an3 cd3 ct3), sl3⟩)
    (c3 : PySem.W.codeIn K cd3 "last_use" = true)
    (k3_ : PySem.W.keepIn K (.ref f3) = true)
    {t3_length : Tok} (w3_length : PySem.W.nsIn K k3 "length" = some (some (Value.int 20 t3_length)))
    {t3_drift : Tok} (w3_drift : PySem.W.nsIn K k3 "drift" = some (some (Value.int 10 t3_drift)))
    (a4 : PySem.W.nsIn K mainGlobals "_law_bag" = some (some (.ref f4)))
    (l4 : K.lookup f4 = some ⟨oc4, od4, .func (PySem.W.fnOf "_law_bag" "_law_bag" (defArgs s_law_bag) (defBody s_law_bag) (defScope s_law_bag) .none kV4 dc4 pm4 an4 cd4 ct4), sl4⟩)
    (c4 : PySem.W.codeIn K cd4 "_law_bag" = true)
    (k4_ : PySem.W.keepIn K (.ref f4) = true)
    (a5 : PySem.W.nsIn K mainGlobals "_law_take" = some (some (.ref f5)))
    (l5 : K.lookup f5 = some ⟨oc5, od5, .func (PySem.W.fnOf "_law_take" "_law_take" (defArgs s_law_take) (defBody s_law_take) (defScope s_law_take) .none kV5 dc5 pm5 an5 cd5 ct5), sl5⟩)
    (c5 : PySem.W.codeIn K cd5 "_law_take" = true)
    (k5_ : PySem.W.keepIn K (.ref f5) = true)
    (a6 : PySem.W.nsIn K mainGlobals "_law_whole" = some (some (.ref f6)))
    (l6 : K.lookup f6 = some ⟨oc6, od6, .func (PySem.W.fnOf "_law_whole" "_law_whole" (defArgs s_law_whole) (defBody s_law_whole) (defScope s_law_whole) .none kV6 dc6 pm6 an6 cd6 ct6), sl6⟩)
    (c6 : PySem.W.codeIn K cd6 "_law_whole" = true)
    (k6_ : PySem.W.keepIn K (.ref f6) = true)
    (a7 : PySem.W.nsIn K mainGlobals "_law_clock" = some (some (.ref f7)))
    (l7 : K.lookup f7 = some ⟨oc7, od7, .func (PySem.W.fnOf "_law_clock" "_law_clock" (defArgs s_law_clock) (defBody s_law_clock) (defScope s_law_clock) .none kV7 dc7 pm7 an7 cd7 ct7), sl7⟩)
    (c7 : PySem.W.codeIn K cd7 "_law_clock" = true)
    (k7_ : PySem.W.keepIn K (.ref f7) = true)
    (a8 : PySem.W.nsIn K mainGlobals "_law_time" = some (some (.ref f8)))
    (l8 : K.lookup f8 = some ⟨oc8, od8, .func (PySem.W.fnOf "_law_time" "_law_time" (defArgs s_law_time) (defBody s_law_time) (defScope s_law_time) .none kV8 dc8 pm8 an8 cd8 ct8), sl8⟩)
    (c8 : PySem.W.codeIn K cd8 "_law_time" = true)
    (k8_ : PySem.W.keepIn K (.ref f8) = true)
    (a9 : PySem.W.nsIn K mainGlobals "_law_late" = some (some (.ref f9)))
    (l9 : K.lookup f9 = some ⟨oc9, od9, .func (PySem.W.fnOf "_law_late" "_law_late" (defArgs s_law_late) (defBody s_law_late) (defScope s_law_late) .none kV9 dc9 pm9 an9 cd9 ct9), sl9⟩)
    (c9 : PySem.W.codeIn K cd9 "_law_late" = true)
    (k9_ : PySem.W.keepIn K (.ref f9) = true)
    (a10 : PySem.W.nsIn K mainGlobals "_law_terms" = some (some (.ref f10)))
    (l10 : K.lookup f10 = some ⟨oc10, od10, .func (PySem.W.fnOf "_law_terms" "_law_terms" (defArgs s_law_terms) (defBody s_law_terms) (defScope s_law_terms) .none kV10 dc10 pm10 an10 cd10 ct10), sl10⟩)
    (c10 : PySem.W.codeIn K cd10 "_law_terms" = true)
    (k10_ : PySem.W.keepIn K (.ref f10) = true)
    (a11 : PySem.W.nsIn K mainGlobals "law" = some (some (.ref f11)))
    (l11 : K.lookup f11 = some ⟨oc11, od11, .func (PySem.W.fnOf "law" "law" (defArgs s_law) (defBody s_law) (defScope s_law) .none kV11 dc11 pm11 an11 cd11 ct11), sl11⟩)
    (c11 : PySem.W.codeIn K cd11 "law" = true)
    (k11_ : PySem.W.keepIn K (.ref f11) = true)
    (z_len : PySem.W.nsIn K mainGlobals "len" = some none)
    (z_abs : PySem.W.nsIn K mainGlobals "abs" = some none)
    (z_isinstance : PySem.W.nsIn K mainGlobals "isinstance" = some none)
    (z_bool : PySem.W.nsIn K mainGlobals "bool" = some none)
    (z_int : PySem.W.nsIn K mainGlobals "int" = some none)
    (z_range : PySem.W.nsIn K mainGlobals "range" = some none)
    (z_min : PySem.W.nsIn K mainGlobals "min" = some none) :
    ∃ fd : FuncData, (∀ (s : Shared) (v : Value), BindsTo s fd ⟨[v], []⟩ [("script", v)]) ∧ ∀ base : Heap, K.In base → base.Ns mainGlobals mg → FnOk l.prog w K mg base CX0 3 fa fd ["script"] (spLaw K) := by
  have e := hfa.symm.trans (PySem.W.mg_of X G a11)
  cases e
  have F1 : FunD K "shown" "shown" (defArgs s_shown) (defBody s_shown) (defScope s_shown) [] [] f1 _ := ⟨⟨oc1, od1, .none, _, dc1, pm1, an1, cd1, ct1, sl1, rfl, l1, c1, .inl ⟨rfl, rfl⟩, .inl rfl⟩, k1_⟩
  have b1 : Binds K _ ["clock", "time"] [] := F1.bindsN fun _ _ _ _ _ _ us hl => match us, hl with | [_, _], _ => rfl
  have F2 : FunD K "budget" "budget" (defArgs s_budget) (defBody s_budget) (defScope s_budget) [] [] f2 _ := ⟨⟨oc2, od2, .none, _, dc2, pm2, an2, cd2, ct2, sl2, rfl, l2, c2, .inl ⟨rfl, rfl⟩, .inl rfl⟩, k2_⟩
  have b2 : Binds K _ ["length", "drift"] [] := F2.bindsN fun _ _ _ _ _ _ us hl => match us, hl with | [_, _], _ => rfl
  have F3 : FunD K "last_use" "last_use" (defArgs s_last_use) (defBody s_last_use) (defScope s_last_use) [] [("length", .int 20), ("drift", .int 10)] f3 _ := ⟨⟨oc3, od3, .none, _, dc3, pm3, an3, cd3, ct3, sl3, rfl, l3, c3, .inl ⟨rfl, rfl⟩, .inr ⟨k3, rfl, by
    intro q hq
    simp only [List.mem_cons, List.not_mem_nil, or_false] at hq
    rcases hq with rfl | rfl
    all_goals first
      | exact ⟨_, w3_length, ⟨_, rfl⟩⟩
      | exact ⟨_, w3_drift, ⟨_, rfl⟩⟩⟩⟩, k3_⟩
  have F4 : FunD K "_law_bag" "_law_bag" (defArgs s_law_bag) (defBody s_law_bag) (defScope s_law_bag) [] [] f4 _ := ⟨⟨oc4, od4, .none, _, dc4, pm4, an4, cd4, ct4, sl4, rfl, l4, c4, .inl ⟨rfl, rfl⟩, .inl rfl⟩, k4_⟩
  have b4 : Binds K _ ["script", "k"] [] := F4.bindsN fun _ _ _ _ _ _ us hl => match us, hl with | [_, _], _ => rfl
  have F5 : FunD K "_law_take" "_law_take" (defArgs s_law_take) (defBody s_law_take) (defScope s_law_take) [] [] f5 _ := ⟨⟨oc5, od5, .none, _, dc5, pm5, an5, cd5, ct5, sl5, rfl, l5, c5, .inl ⟨rfl, rfl⟩, .inl rfl⟩, k5_⟩
  have b5 : Binds K _ ["bag", "many"] [] := F5.bindsN fun _ _ _ _ _ _ us hl => match us, hl with | [_, _], _ => rfl
  have F6 : FunD K "_law_whole" "_law_whole" (defArgs s_law_whole) (defBody s_law_whole) (defScope s_law_whole) [] [] f6 _ := ⟨⟨oc6, od6, .none, _, dc6, pm6, an6, cd6, ct6, sl6, rfl, l6, c6, .inl ⟨rfl, rfl⟩, .inl rfl⟩, k6_⟩
  have b6 : Binds K _ ["thing"] [] := F6.bindsN fun _ _ _ _ _ _ us hl => match us, hl with | [_], _ => rfl
  have F7 : FunD K "_law_clock" "_law_clock" (defArgs s_law_clock) (defBody s_law_clock) (defScope s_law_clock) [] [] f7 _ := ⟨⟨oc7, od7, .none, _, dc7, pm7, an7, cd7, ct7, sl7, rfl, l7, c7, .inl ⟨rfl, rfl⟩, .inl rfl⟩, k7_⟩
  have b7 : Binds K _ ["bag"] [] := F7.bindsN fun _ _ _ _ _ _ us hl => match us, hl with | [_], _ => rfl
  have F8 : FunD K "_law_time" "_law_time" (defArgs s_law_time) (defBody s_law_time) (defScope s_law_time) [] [] f8 _ := ⟨⟨oc8, od8, .none, _, dc8, pm8, an8, cd8, ct8, sl8, rfl, l8, c8, .inl ⟨rfl, rfl⟩, .inl rfl⟩, k8_⟩
  have b8 : Binds K _ ["bag"] [] := F8.bindsN fun _ _ _ _ _ _ us hl => match us, hl with | [_], _ => rfl
  have F9 : FunD K "_law_late" "_law_late" (defArgs s_law_late) (defBody s_law_late) (defScope s_law_late) [] [] f9 _ := ⟨⟨oc9, od9, .none, _, dc9, pm9, an9, cd9, ct9, sl9, rfl, l9, c9, .inl ⟨rfl, rfl⟩, .inl rfl⟩, k9_⟩
  have b9 : Binds K _ ["c", "a", "t"] [] := F9.bindsN fun _ _ _ _ _ _ us hl => match us, hl with | [_, _, _], _ => rfl
  have F10 : FunD K "_law_terms" "_law_terms" (defArgs s_law_terms) (defBody s_law_terms) (defScope s_law_terms) [] [] f10 _ := ⟨⟨oc10, od10, .none, _, dc10, pm10, an10, cd10, ct10, sl10, rfl, l10, c10, .inl ⟨rfl, rfl⟩, .inl rfl⟩, k10_⟩
  have b10 : Binds K _ ["bag"] [] := F10.bindsN fun _ _ _ _ _ _ us hl => match us, hl with | [_], _ => rfl
  have F11 : FunD K "law" "law" (defArgs s_law) (defBody s_law) (defScope s_law) [] [] fa _ := ⟨⟨oc11, od11, .none, _, dc11, pm11, an11, cd11, ct11, sl11, rfl, l11, c11, .inl ⟨rfl, rfl⟩, .inl rfl⟩, k11_⟩
  have b11 : Binds K _ ["script"] [] := F11.bindsN fun _ _ _ _ _ _ us hl => match us, hl with | [_], _ => rfl
  obtain ⟨m3_0, n3_0⟩ := kbinds0 F3 (ps := ["clock", "asked", "length", "drift"]) 2 ["length", "drift"] [] G_last_use_0 (by simp) (by simp) G_last_use_0_rel (fun D doc pm an cdv ct us mv ws l1 l2 l3 => match us, mv, ws, l1, l2, l3 with | [_, _], [], [_, _], _, _, _ => rfl)
  obtain ⟨e3_1, v3_1, bb3_1⟩ := F3.binds0 (ps := ["clock", "asked", "length", "drift"]) 2 (by simp) rfl (fun D doc pm an cdv ct us ks l1 l2 => match us, ks, l1, l2 with | [_, _], [_, _], _, _ => ⟨_, _, _, _, _, _, rfl, rfl, ⟨_, _, _, _, _, _, rfl, rfl, rfl⟩⟩)
  obtain ⟨m3_2, n3_2⟩ := kbinds0 F3 (ps := ["clock", "asked", "length", "drift"]) 2 ["drift"] [("length", .int 20)] G_last_use_2 (by simp) (by simp) G_last_use_2_rel (fun D doc pm an cdv ct us mv ws l1 l2 l3 => match us, mv, ws, l1, l2, l3 with | [_, _], [_], [_], _, _, _ => ⟨_, _, _, _, _, _, rfl, rfl, rfl⟩)
  obtain ⟨m3_3, n3_3⟩ := kbinds0 F3 (ps := ["clock", "asked", "length", "drift"]) 0 ["asked", "length", "clock"] [("drift", .int 10)] G_last_use_3 (by simp) (by simp) G_last_use_3_rel (fun D doc pm an cdv ct us mv ws l1 l2 l3 => match us, mv, ws, l1, l2, l3 with | [], [_], [_, _, _], _, _, _ => ⟨_, _, _, _, _, _, rfl, rfl, rfl⟩)
  let T : Txt K mg := {
    f_shown := f1,
    d_shown := _,
    F_shown := F1,
    g_shown := PySem.W.mg_of X G a1,
    b_shown := b1,
    f_budget := f2,
    d_budget := _,
    F_budget := F2,
    g_budget := PySem.W.mg_of X G a2,
    b_budget := b2,
    f_last_use := f3,
    d_last_use := _,
    F_last_use := F3,
    g_last_use := PySem.W.mg_of X G a3,
    f_law_bag := f4,
    d_law_bag := _,
    F_law_bag := F4,
    g__law_bag := PySem.W.mg_of X G a4,
    b_law_bag := b4,
    f_law_take := f5,
    d_law_take := _,
    F_law_take := F5,
    g__law_take := PySem.W.mg_of X G a5,
    b_law_take := b5,
    f_law_whole := f6,
    d_law_whole := _,
    F_law_whole := F6,
    g__law_whole := PySem.W.mg_of X G a6,
    b_law_whole := b6,
    f_law_clock := f7,
    d_law_clock := _,
    F_law_clock := F7,
    g__law_clock := PySem.W.mg_of X G a7,
    b_law_clock := b7,
    f_law_time := f8,
    d_law_time := _,
    F_law_time := F8,
    g__law_time := PySem.W.mg_of X G a8,
    b_law_time := b8,
    f_law_late := f9,
    d_law_late := _,
    F_law_late := F9,
    g__law_late := PySem.W.mg_of X G a9,
    b_law_late := b9,
    f_law_terms := f10,
    d_law_terms := _,
    F_law_terms := F10,
    g__law_terms := PySem.W.mg_of X G a10,
    b_law_terms := b10,
    f_law := fa,
    d_law := _,
    F_law := F11,
    g_law := PySem.W.mg_of X G a11,
    b_law := b11,
    m_last_use_0 := m3_0,
    n_last_use_0 := n3_0,
    e_last_use := e3_1,
    v_last_use := v3_1,
    b_last_use := bb3_1,
    m_last_use_2 := m3_2,
    n_last_use_2 := n3_2,
    m_last_use_3 := m3_3,
    n_last_use_3 := n3_3,
    z_len := PySem.W.mg_none_of X G z_len,
    z_abs := PySem.W.mg_none_of X G z_abs,
    z_isinstance := PySem.W.mg_none_of X G z_isinstance,
    z_bool := PySem.W.mg_none_of X G z_bool,
    z_int := PySem.W.mg_none_of X G z_int,
    z_range := PySem.W.mg_none_of X G z_range,
    z_min := PySem.W.mg_none_of X G z_min }
  exact ⟨_, fun s v => F11.bindsA (ps := ["script"]) (fun _ _ _ _ _ _ us hl => match us, hl with | [_], _ => rfl) s [v] rfl, fun base _ _ => ok_law T⟩
end My
open PySem PySem.W PyProof.Rows
set_option maxHeartbeats 0 in
theorem PySem.Challenge.cw_pagelend_k04_the_last_use_holds : PySem.Challenge.rw_pagelend_k04_the_last_use.Holds := by
  w_on; o_law; k_head; (case hw => w_witness2)
  k_fill
  refine L2.walk_of (l := PySem.Challenge.rw_pagelend_k04_the_last_use) (n := 63) (k := 3) (x := "script") (CX := fun _ => L2.CX0) (sp := fun w => My.spLaw _) rfl (by decide) rfl ⟨rfl, by decide, by decide⟩ (fun w h Y => PySem.W.kIn_of Y) ?F (fun _ _ a ns hl hO hS => ⟨a, ns, rfl, hS, hl, fun _ => rfl⟩) (fun _ _ _ _ _ h => h)
  case F =>
    intro w mg fa h KX G hmg
    refine' My.all_mk KX G hmg ?a1 ?l1 ?c1 ?k1_ ?a2 ?l2 ?c2 ?k2_ ?a3 ?l3 ?c3 ?k3_ ?w3_length ?w3_drift ?a4 ?l4 ?c4 ?k4_ ?a5 ?l5 ?c5 ?k5_ ?a6 ?l6 ?c6 ?k6_ ?a7 ?l7 ?c7 ?k7_ ?a8 ?l8 ?c8 ?k8_ ?a9 ?l9 ?c9 ?k9_ ?a10 ?l10 ?c10 ?k10_ ?a11 ?l11 ?c11 ?k11_ ?z_len ?z_abs ?z_isinstance ?z_bool ?z_int ?z_range ?z_min
    (case a1 => k_is)
    (case l1 => k_is)
    (case c1 => k_is)
    (case k1_ => k_is)
    (case a2 => k_is)
    (case l2 => k_is)
    (case c2 => k_is)
    (case k2_ => k_is)
    (case a3 => k_is)
    (case l3 => k_is)
    (case c3 => k_is)
    (case k3_ => k_is)
    (case w3_length => k_is)
    (case w3_drift => k_is)
    (case a4 => k_is)
    (case l4 => k_is)
    (case c4 => k_is)
    (case k4_ => k_is)
    (case a5 => k_is)
    (case l5 => k_is)
    (case c5 => k_is)
    (case k5_ => k_is)
    (case a6 => k_is)
    (case l6 => k_is)
    (case c6 => k_is)
    (case k6_ => k_is)
    (case a7 => k_is)
    (case l7 => k_is)
    (case c7 => k_is)
    (case k7_ => k_is)
    (case a8 => k_is)
    (case l8 => k_is)
    (case c8 => k_is)
    (case k8_ => k_is)
    (case a9 => k_is)
    (case l9 => k_is)
    (case c9 => k_is)
    (case k9_ => k_is)
    (case a10 => k_is)
    (case l10 => k_is)
    (case c10 => k_is)
    (case k10_ => k_is)
    (case a11 => k_is)
    (case l11 => k_is)
    (case c11 => k_is)
    (case k11_ => k_is)
    (case z_len => k_is)
    (case z_abs => k_is)
    (case z_isinstance => k_is)
    (case z_bool => k_is)
    (case z_int => k_is)
    (case z_range => k_is)
    (case z_min => k_is)

import PyProof.Rows.All
import Wide.All
import OpenK.AllK
import Wide.FinOn
import HandS.ForMost
import HandS.ForExc
import HandS.Wide
import HandS.IsInst
import HandS.Zip
import HandS.Flow
import HandS.EndBits
import HandS.Defaults
import HandS.TupAny
import HandS.TupMul
import HandS.Codes
import HandS.Deep
import HandS.Walk
import HandS.ExcInit
import HandS.MakeKwOnly
import HandS.RaiseMore
import HandS.FStr
import PySem.Challenge.RW_rowring_k15_inverse_machines
set_option Elab.async false
set_option linter.all false
set_option maxRecDepth 100000
set_option maxHeartbeats 4000000
/-! # U0: tuple * n for any n from 0 -/
namespace R
open PySem PySem.Spec PyProof.Rows L2
theorem tuple_mul1 (l : Addr) (items : Array Value) (n : Nat) (dd : Option Addr) (sl : Array (Option Value)) (u : Tok) :
    Meets (Builtin.«tuple.__mul__» ⟨[.ref l, .int 1 u], []⟩) (fun _ R s => s.heap.get? l = some { cls := .type "tuple", dict := dd, data := .seq items n, slots := sl } ∧
      R (.ok (.ret (Value.ref l))) s) :=
  .of_wp fun prog w A R s h => by
    obtain ⟨hp, g, d, tk, os⟩ := s
    obtain ⟨hl, h⟩ := h
    have f1 := AutoSeq1.idx_int
    have c0 : (decide ((1 : Int) < -(2 ^ 63)) || decide ((1 : Int) ≥ 2 ^ 63)) = false := by decide
    have c1 : (items.isEmpty || (1 : Int) == 1) = true := by simp
    wp_walk using wpAny_loadPart' hl
    repeat (first
      | (refine wpAny_ite_false (decide_eq_false (by rw [c0]; exact Bool.false_ne_true)) ?_; wp_walk using wpAny_loadPart' hl)
      | (refine wpAny_ite_true (decide_eq_true c1) ?_; wp_walk using wpAny_loadPart' hl))
    exact ⟨_, rfl, h⟩
theorem tuple_mul0 (l : Addr) (items : Array Value) (n : Nat) (dd : Option Addr) (sl : Array (Option Value)) (u : Tok) (c1 : (items.isEmpty || (0 : Int) == 1) = false) :
    Meets (Builtin.«tuple.__mul__» ⟨[.ref l, .int 0 u], []⟩) (fun _ R s => s.heap.get? l = some { cls := .type "tuple", dict := dd, data := .seq items n, slots := sl } ∧
      R (.ok (.ret (Value.ref s.heap.objs.size))) { s with heap := s.heap.push { cls := Value.type "tuple", data := Data.seq #[] }, toks := s.toks }) :=
  .of_wp fun prog w A R s h => by
    obtain ⟨hp, g, d, tk, os⟩ := s
    obtain ⟨hl, h⟩ := h
    have f1 := AutoSeq1.idx_int
    have c0 : (decide ((0 : Int) < -(2 ^ 63)) || decide ((0 : Int) ≥ 2 ^ 63)) = false := by decide
    have c2 : (decide ((0 : Int) ≤ 0) || items.isEmpty) = true := by simp
    wp_walk using wpAny_loadPart' hl
    repeat (first
      | (refine wpAny_ite_false (decide_eq_false (by rw [c0]; exact Bool.false_ne_true)) ?_; wp_walk using wpAny_loadPart' hl)
      | (refine wpAny_ite_false (decide_eq_false (by rw [c1]; exact Bool.false_ne_true)) ?_; wp_walk using wpAny_loadPart' hl)
      | (refine wpAny_ite_true (decide_eq_true c2) ?_; wp_walk using wpAny_loadPart' hl))
    exact ⟨_, rfl, h⟩
/-- a tuple that is not empty, times n: one is the tuple itself -/
def rMulT (K : PySem.W.Frag) : R2 := fun x y H Q => ∃ l k xs, x = .ref l ∧ y = .int k ∧ SqT K H l xs ∧ xs ≠ [] ∧ 0 ≤ k ∧ k ≤ 1000 ∧ xs.length ≤ 1000 ∧ (k = 1 → Q (.ref l) H) ∧ (k ≠ 1 → ∀ p, H p = none → Q (.ref p) (upd H p (.tup (List.replicate k.toNat xs).flatten)))
theorem op_mulT {X : Cx} : OpR X (binaryOp .Mult) (rMulT X.K) := by
  intro pins s σ H x y v u Q I rx ry h
  obtain ⟨l, k, xs, rfl, rfl, hT, hne, h1, h2, hz, q1, q2⟩ := h
  by_cases hk : 2 ≤ k
  · exact op_repT pins s σ H _ _ v u Q I rx ry ⟨l, k, xs, rfl, rfl, hT, hne, hk, h2, hz, q2 (by omega)⟩
  cases rx
  obtain ⟨t, rfl⟩ := ry
  obtain ⟨its, r, ⟨⟨cls, dd, data, sl⟩, ho, hc, n, hd⟩, hs⟩ := I.tuple hT
  simp only at hc hd
  subst hc hd
  have hle : its.length = xs.length := r.length.symm
  have hn : its ≠ [] := fun e => hne (by
    rw [e] at hle
    exact List.eq_nil_of_length_eq_zero hle.symm)
  have hi : its.toArray.isEmpty = false := by
    cases its with
    | nil => exact absurd rfl hn
    | cons a b => rfl
  by_cases hk1 : k = 1
  · subst hk1
    refine wpAny_binaryOp_repeat_ref (T := "tuple") (U := "int") (by decide) ⟨_, ho, rfl⟩ (fun s' => typeIs_int s' 1 t) noFill_tuple_mul F.fills_int_mul F.slot_int_rmul repeat_tuple F.slot_int_index.lookup
      (call_meets F.slot_int_rmul (typeIs_int s 1 t) F.entry_int_rmul (F.args_int_rmul_2 _ _) (int_rmul_tuple 1 t l its.toArray n dd sl)
        ⟨ho, rfl, ⟨_, ho, rfl⟩, call_meets F.slot_tuple_mul ⟨_, ho, rfl⟩ F.entry_tuple_mul (F.args_tuple_mul_2 _ _) (tuple_mul1 l its.toArray n dd sl t) ⟨ho, ?_⟩⟩)
    exact ⟨.ref l, H, I, rfl, q1 rfl⟩
  · have hk0 : k = 0 := by omega
    subst hk0
    refine wpAny_binaryOp_repeat_ref (T := "tuple") (U := "int") (by decide) ⟨_, ho, rfl⟩ (fun s' => typeIs_int s' 0 t) noFill_tuple_mul F.fills_int_mul F.slot_int_rmul repeat_tuple F.slot_int_index.lookup
      (call_meets F.slot_int_rmul (typeIs_int s 0 t) F.entry_int_rmul (F.args_int_rmul_2 _ _) (int_rmul_tuple 0 t l its.toArray n dd sl)
        ⟨ho, rfl, ⟨_, ho, rfl⟩, call_meets F.slot_tuple_mul ⟨_, ho, rfl⟩ F.entry_tuple_mul (F.args_tuple_mul_2 _ _) (tuple_mul0 l its.toArray n dd sl t (by rw [hi]; rfl)) ⟨ho, ?_⟩⟩)
    refine ⟨.ref s.heap.objs.size, _, I.laid (t' := s.toks) (o := .tup []) (fun b ob q => Heap.get?_push_of_some _ q) (Nat.le_refl _) ?_, rfl, q2 (by decide) _ (I.hok.fresh (Nat.le_refl _))⟩
    exact ⟨Nat.zero_le _, [], .nil, IsTup.new _ _⟩
/-- a tuple and a tuple: an empty one gives the other itself -/
def rCat3 (K : PySem.W.Frag) : R2 := fun x y H Q => ∃ a b xs ys, x = .ref a ∧ y = .ref b ∧ SqT K H a xs ∧ SqT K H b ys ∧ xs.length + ys.length ≤ sizeLine ∧
  (xs = [] → Q (.ref b) H) ∧ (xs ≠ [] → ys = [] → Q (.ref a) H) ∧ (xs ≠ [] → ys ≠ [] → ∀ p, H p = none → Q (.ref p) (upd H p (.tup (xs ++ ys))))
theorem op_cat3 {X : Cx} : OpR X (binaryOp .Add) (rCat3 X.K) := by
  intro pins s σ H x y v u Q I rx ry h
  obtain ⟨a, b, xs, ys, rfl, rfl, ha, hb, hz, q0, q1, q2⟩ := h
  by_cases hx : xs = []
  · subst hx
    cases rx
    cases ry
    obtain ⟨its, r1, p1, _⟩ := I.tuple ha
    obtain ⟨its2, r2, p2, _⟩ := I.tuple hb
    cases r1
    obtain ⟨⟨cls, dd, data, sl⟩, ho, hc, n, hd⟩ := id p1
    obtain ⟨⟨cls2, dd2, data2, sl2⟩, ho2, hc2, n2, hd2⟩ := id p2
    simp only at hc hd hc2 hd2
    subst hc hd hc2 hd2
    exact concat_meets ⟨_, ho, rfl⟩ ⟨_, ho2, rfl⟩ noFill_tuple_add seq_tuple_add PySem.F.slot_tuple_add PySem.F.entry_tuple_add (PySem.F.args_tuple_add_2 _ _)
      (tuple_addW0 a b #[] its2.toArray n n2 dd dd2 sl sl2 rfl) ⟨ho, ho2, ⟨.ref b, H, I, rfl, q0 rfl⟩⟩
  · exact op_catT pins s σ H _ _ v u Q I rx ry ⟨a, b, xs, ys, rfl, rfl, ha, hb, hx, hz, q1 hx, q2 hx⟩
end R

/-! # U1: heaps, smart operators, readings as rules by their heads -/
namespace R
open PySem PySem.Spec PyProof.Rows L2

/-! ### heaps: all but r is kept -/
def Kp (r : Addr) (H H' : Hp) : Prop := ∀ b o, H b = some o → b ≠ r → H' b = some o
abbrev Ex (H H' : Hp) : Prop := L2.Same H H'
theorem Ex.kp {r : Addr} {H H' : Hp} (e : Ex H H') : Kp r H H' := fun b o h _ => e b o h
theorem Kp.refl (r : Addr) (H : Hp) : Kp r H H := fun _ _ h _ => h
theorem Kp.trans {r : Addr} {H H1 H2 : Hp} (a : Kp r H H1) (b : Kp r H1 H2) : Kp r H H2 := fun c o h n => b c o (a c o h n) n
theorem Ex.new {H : Hp} {p : Addr} {o : HO} (h : H p = none) : Ex H (upd H p o) := fun a u e => by
  rw [upd_ne (ne_of_none e h)]
  exact e
theorem Kp.new {r : Addr} {H : Hp} {p : Addr} {o : HO} (h : H p = none) : Kp r H (upd H p o) := (Ex.new h).kp
theorem Kp.set {r : Addr} {H : Hp} {o : HO} : Kp r H (upd H r o) := fun b u e n => by
  rw [upd_ne n]
  exact e
theorem Ex.mut {H H' : Hp} {p : Addr} {o : HO} (e : Ex H H') (h : H p = none) : Ex H (upd H' p o) := fun a u ha => by
  rw [upd_ne (ne_of_none ha h)]
  exact e a u ha
theorem Kp.mut {r : Addr} {H H' : Hp} {p : Addr} {o : HO} (e : Kp r H H') (h : H p = none) : Kp r H (upd H' p o) := fun a u ha n => by
  rw [upd_ne (ne_of_none ha h)]
  exact e a u ha n
theorem Kp.ex {r : Addr} {H H' : Hp} (e : Kp r H H') (h : H r = none) : Ex H H' := fun b o hb => e b o hb (ne_of_none hb h)
theorem Ex.none {H H' : Hp} (e : Ex H H') {l : Addr} (h : H' l = none) : H l = none := Same.free e h
theorem Kp.none {r : Addr} {H H' : Hp} (e : Kp r H H') {l : Addr} (h : H' l = none) (n : l ≠ r) : H l = none := by
  cases q : H l with
  | none => rfl
  | some o =>
    rw [e l o q n] at h
    cases h
theorem ex_at {H H' : Hp} {b : Addr} {o : HO} (e : Ex H H') (h : H b = some o) : H' b = some o := e b o h
theorem ne_at {H : Hp} {a b : Addr} {o u : HO} (n : b ≠ a) (h : H b = some u) : upd H a o b = some u := (upd_ne n).trans h
theorem ne_none {H : Hp} {a b : Addr} {o : HO} (h' : H b = none) (h : H a = some o) : a ≠ b := ne_of_none h h'
theorem kp_at {r : Addr} {H H' : Hp} {b : Addr} {o : HO} (e : Kp r H H') (h : H b = some o) (n : b ≠ r) : H' b = some o := e b o h n
theorem upd_none {H : Hp} {a p : Addr} {o : HO} (h : upd H a o p = none) : p ≠ a ∧ H p = none := by
  by_cases e : p = a
  · rw [e, upd_same] at h
    cases h
  · rw [upd_ne e] at h
    exact ⟨e, h⟩
theorem sq_ex {K : PySem.W.Frag} {H H' : Hp} {a : Addr} {xs : List V} (e : Ex H H') (h : SqL K H a xs) : SqL K H' a xs := e.seq h
theorem rd_ex {H H' : Hp} {a : Addr} {u : HO} (e : Ex H H') (h : Rd H a u) : Rd H' a u := by
  rcases h with h | ⟨o, h⟩
  · exact .inl (e a _ h)
  · exact .inr ⟨o, e a _ h⟩
theorem st_ex {K : PySem.W.Frag} {H H' : Hp} {a : Addr} {xs : List V} (e : Ex H H') (h : SqT K H a xs) : SqT K H' a xs := by
  rcases h with h | h
  · exact .inl (rd_ex e h)
  · exact .inr h
theorem rd_kp {r : Addr} {H H' : Hp} {a : Addr} {u : HO} (e : Kp r H H') (h : Rd H a u) (n : a ≠ r) : Rd H' a u := by
  rcases h with h | ⟨o, h⟩
  · exact .inl (e a _ h n)
  · exact .inr ⟨o, e a _ h n⟩
theorem sq_kp {K : PySem.W.Frag} {r : Addr} {H H' : Hp} {a : Addr} {xs : List V} (e : Kp r H H') (h : SqL K H a xs) (n : a ≠ r) : SqL K H' a xs := h.imp (fun h => rd_kp e h n) id
theorem st_kp {K : PySem.W.Frag} {r : Addr} {H H' : Hp} {a : Addr} {xs : List V} (e : Kp r H H') (h : SqT K H a xs) (n : a ≠ r) : SqT K H' a xs := h.imp (fun h => rd_kp e h n) id
theorem sq_of {K : PySem.W.Frag} {H : Hp} {a : Addr} {xs : List V} (h : H a = some (.lst xs)) : SqL K H a xs := .inl (.inl h)
theorem st_of {K : PySem.W.Frag} {H : Hp} {a : Addr} {xs : List V} (h : H a = some (.tup xs)) : SqT K H a xs := .inl (.inl h)
theorem sz_of {n : Nat} (h : n ≤ 1000000) : n ≤ sizeLine := Nat.le_trans h (by decide)
theorem sz_lt {n : Nat} (h : n < 1000000) : n < sizeLine := Nat.lt_of_lt_of_le h (by decide)

/-! ### readings by their heads -/
/-- a new tuple, a new list -/
def mkT (xs : List V) (H : Hp) (Q : VK) : Prop := xs.length ≤ sizeLine ∧ ∀ p, H p = none → Q (.ref p) (upd H p (.tup xs))
def mkL (xs : List V) (H : Hp) (Q : VK) : Prop := xs.length ≤ sizeLine ∧ ∀ p, H p = none → Q (.ref p) (upd H p (.lst xs))
section
variable {σ : L2.St} {H : Hp} {Q : VK} {D : Ends} {v w : V} {i : Nat} {K : PySem.W.Frag}
theorem x_var (h : σ[i]? = some (some v)) (q : Q v H) : tVar i σ H Q := ⟨v, h, q⟩
theorem x_c (q : Q v H) : tC v σ H Q := q
theorem x_op {r : R2} {ta tb : TE} (q : ta σ H fun x H1 => tb σ H1 fun y H2 => r x y H2 Q) : tOp r ta tb σ H Q := q
theorem x_un {r : V → Hp → VK → Prop} {ta : TE} (q : ta σ H fun x H1 => r x H1 Q) : tUn r ta σ H Q := q
theorem x_nil {Q : List V → Hp → Prop} (q : Q [] H) : tNil σ H Q := q
theorem x_cons {Q : List V → Hp → Prop} {ta : TE} {tr : TA} (q : ta σ H fun x H1 => tr σ H1 fun xs H2 => Q (x :: xs) H2) : tCons ta tr σ H Q := q
theorem x_cb {r : List V → Hp → VK → Prop} {t : TA} (q : t σ H fun vs H1 => r vs H1 Q) : tCB r t σ H Q := q
theorem x_tup {t : TA} (q : t σ H fun xs H1 => mkT xs H1 Q) : tTup t σ H Q := q
theorem x_lst {t : TA} (q : t σ H fun xs H1 => mkL xs H1 Q) : tLst t σ H Q := q
theorem z_tup {xs : List V} (h : ∀ p, H p = none → Q (.ref p) (upd H p (.tup xs))) (hl : xs.length ≤ 1000000 := by exact Nat.le_of_ble_eq_true rfl) : mkT xs H Q := ⟨sz_of hl, h⟩
theorem z_lst {xs : List V} (h : ∀ p, H p = none → Q (.ref p) (upd H p (.lst xs))) (hl : xs.length ≤ 1000000 := by exact Nat.le_of_ble_eq_true rfl) : mkL xs H Q := ⟨sz_of hl, h⟩
theorem x_if {c : TT} {ta tb : TE} (q : c σ H fun b H1 => if b = true then ta σ H1 Q else tb σ H1 Q) : tIf c ta tb σ H Q := q
theorem x_andV {ta tb : TE} (q : ta σ H fun x H1 => ∃ c, x = .bl c ∧ if c = true then tb σ H1 Q else Q (.bl false) H1) : tAndV ta tb σ H Q := q
theorem x_orV {ta tb : TE} (q : ta σ H fun x H1 => ∃ c, x = .bl c ∧ if c = true then Q (.bl true) H1 else tb σ H1 Q) : tOrV ta tb σ H Q := q
theorem x_notV {ta : TE} (q : ta σ H fun x H1 => ∃ c, x = .bl c ∧ Q (.bl (!c)) H1) : tNotV ta σ H Q := q
theorem x_bl {b : Bool} {P : Bool → Prop} (q : P b) : ∃ c, V.bl b = .bl c ∧ P c := ⟨b, rfl, q⟩
theorem x_chain {r r' : R2} {ta tb tc : TE} (q : ta σ H fun x H1 => tb σ H1 fun y H2 => r x y H2 fun z H3 => ∃ k, z = .bl k ∧ (if k = true then tc σ H3 fun w' H4 => r' y w' H4 Q else Q (.bl false) H3)) : tChain r r' ta tb tc σ H Q := q
variable {B : Bool → Hp → Prop}
theorem x_tB {t : TE} (q : t σ H fun x H1 => ∃ c, x = .bl c ∧ B c H1) : tB t σ H B := q
theorem x_test {t : TE} (q : t σ H fun x H1 => ∃ c, x = .bl c ∧ B c H1) : tTest t σ H B := q
theorem x_and {t u : TT} (q : t σ H fun c H1 => if c = true then u σ H1 B else B false H1) : tAnd t u σ H B := q
theorem x_or {t u : TT} (q : t σ H fun c H1 => if c = true then B true H1 else u σ H1 B) : tOr t u σ H B := q
theorem x_not {t : TT} (q : t σ H fun c H1 => B (!c) H1) : tNot t σ H B := q
/-! statements -/
theorem x_seq {t u : TS} (q : t { D with nx := u D } σ H) : tSeq t u D σ H := q
theorem x_cut {t u : TS} (h : ∃ Mid : L2.St → Hp → Prop, t { D with nx := Mid } σ H ∧ ∀ σ' H', Mid σ' H' → u D σ' H') : C8.tCut t u D σ H := h
theorem x_next (q : D.nx σ H) : tNext D σ H := q
theorem x_brk (q : D.bk σ H) : tBreak D σ H := q
theorem x_cont (q : D.ct σ H) : tCont D σ H := q
theorem x_drop {te : TE} (q : te σ H fun _ H1 => D.nx σ H1) : tDrop te D σ H := q
theorem x_ret {te : TE} (q : te σ H D.rt) : tRet te D σ H := q
theorem x_retN (q : D.rt .non H) : tRetN D σ H := q
theorem x_ifS {c : TT} {t u : TS} (q : c σ H fun b H1 => if b = true then t D σ H1 else u D σ H1) : tIfS c t u D σ H := q
theorem x_asg {te : TE} {g : TG} (q : te σ H fun x H1 => g x σ H1 D.nx) : tAsg te g D σ H := q
theorem x_par {i j : Nat} {ta : TA} (q : ta σ H fun vs H1 => ∃ v w, vs = [v, w] ∧ D.nx ((σ.set i (some v)).set j (some w)) H1) : tPar i j ta D σ H := q
theorem x_two {P : V → V → Prop} (h : P v w) : ∃ a b, [v, w] = [a, b] ∧ P a b := ⟨_, _, rfl, h⟩
theorem x_name {Q : L2.St → Hp → Prop} {σ' : L2.St} (e : σ.set i (some v) = σ') (q : Q σ' H) : gName i v σ H Q := by
  subst e
  exact q
/-! known tests -/
theorem y_ite {c : Prop} [Decidable c] {A B : Prop} (h1 : c → A) (h2 : ¬ c → B) : if (decide c) = true then A else B := by
  by_cases h : c
  · rw [decide_eq_true h, if_pos rfl]
    exact h1 h
  · rw [decide_eq_false h, if_neg Bool.false_ne_true]
    exact h2 h
theorem y_iteN {c : Prop} [Decidable c] {A B : Prop} (h1 : ¬ c → A) (h2 : c → B) : if (!decide c) = true then A else B := by
  by_cases h : c
  · rw [decide_eq_true h]
    exact iteF (h2 h)
  · rw [decide_eq_false h]
    exact iteT (h1 h)
theorem y_iteb {b : Bool} {A B : Prop} (h1 : b = true → A) (h2 : b = false → B) : if b = true then A else B := by
  cases b with
  | true => exact iteT (h1 rfl)
  | false => exact iteF (h2 rfl)
theorem y_yes {c : Prop} [Decidable c] {A B : Prop} (h : c) (q : A) : if (decide c) = true then A else B := by
  rw [decide_eq_true h]
  exact iteT q
theorem y_no {c : Prop} [Decidable c] {A B : Prop} (h : ¬ c) (q : B) : if (decide c) = true then A else B := by
  rw [decide_eq_false h]
  exact iteF q
theorem y_yesV {x : V} {A B : Prop} (q : A) : if (decide (x = x)) = true then A else B := y_yes rfl q
theorem y_noV {x y : V} {A B : Prop} (h : ¬ x = y) (q : B) : if (decide (x = y)) = true then A else B := y_no h q
theorem y_yesN {c : Prop} [Decidable c] {A B : Prop} (h : ¬ c) (q : A) : if (!decide c) = true then A else B := by
  rw [decide_eq_false h]
  exact iteT q
theorem y_noN {c : Prop} [Decidable c] {A B : Prop} (h : c) (q : B) : if (!decide c) = true then A else B := by
  rw [decide_eq_true h]
  exact iteF q
theorem y_ff {A B : Prop} (q : B) : if (false || false) = true then A else B := iteF q
theorem y_tx {b : Bool} {A B : Prop} (q : A) : if (true || b) = true then A else B := iteT q
theorem y_ft {A B : Prop} (q : A) : if (false || true) = true then A else B := iteT q
theorem y_nt {A B : Prop} (q : B) : if (!true) = true then A else B := iteF q
theorem y_nf {A B : Prop} (q : A) : if (!false) = true then A else B := iteT q
theorem y_dyes {b : Bool} {A B : Prop} (q : A) : if (decide (b = b)) = true then A else B := y_yes rfl q
theorem y_dno {b : Bool} {A B : Prop} (q : B) : if (!decide (b = b)) = true then A else B := y_noN rfl q
end

/-! ### smart operators: the reading is reckoned from the values -/
def sI (g : Int → Int → V) (C : Int → Int → Prop) : R2 := fun x y H Q => match x, y with
  | .int i, .int j => C i j ∧ Q (g i j) H
  | _, _ => False
def sI0 (g : Int → Int → V) : R2 := fun x y H Q => match x, y with
  | .int i, .int j => Q (g i j) H
  | _, _ => False
theorem opr_imp {X : Cx} {f : Value → Value → Sem Value} {r r' : R2} (h : OpR X f r) (i : ∀ x y H Q, r' x y H Q → r x y H Q) : OpR X f r' :=
  fun pins s σ H x y u v Q I rx ry q => h pins s σ H x y u v Q I rx ry (i _ _ _ _ q)
theorem opr_or {X : Cx} {f : Value → Value → Sem Value} {r1 r2 r' : R2} (h1 : OpR X f r1) (h2 : OpR X f r2) (i : ∀ x y H Q, r' x y H Q → r1 x y H Q ∨ r2 x y H Q) : OpR X f r' :=
  fun pins s σ H x y u v Q I rx ry q => (i _ _ _ _ q).elim (fun q => h1 pins s σ H x y u v Q I rx ry q) (fun q => h2 pins s σ H x y u v Q I rx ry q)
def sAdd (K : PySem.W.Frag) : R2 := fun x y H Q => match x, y with
  | .int i, .int j => Q (.int (i + j)) H
  | .str a, .str b => a.length + b.length ≤ sizeLine ∧ Q (.str (a ++ b)) H
  | .ref a, .ref b => (∃ xs zs, H a = some (.lst xs) ∧ H b = some (.lst zs) ∧ xs.length + zs.length ≤ sizeLine ∧ ∀ p, H p = none → Q (.ref p) (upd H p (.lst (xs ++ zs)))) ∨ rCat3 K (.ref a) (.ref b) H Q
  | _, _ => False
theorem op_sAdd {X : Cx} : OpR X (binaryOp .Add) (sAdd X.K) := by
  refine opr_or (opr_or op_add op_add_str (r' := fun x y H Q => _ ∨ _) fun _ _ _ _ q => q) (opr_or op_cat op_cat3 (r' := fun x y H Q => _ ∨ _) fun _ _ _ _ q => q) fun x y H Q q => ?_
  cases x <;> cases y <;> first | exact False.elim q | skip
  · exact .inl (.inl ⟨_, _, rfl, rfl, q⟩)
  · exact .inl (.inr ⟨_, _, rfl, rfl, q⟩)
  · rcases q with ⟨xs, zs, h1, h2, h3, h4⟩ | q
    · exact .inr (.inl ⟨_, _, xs, zs, rfl, rfl, h1, h2, h3, h4⟩)
    · exact .inr (.inr q)
def sSub : R2 := sI0 fun i j => .int (i - j)
theorem op_sSub {X : Cx} : OpR X (binaryOp .Sub) sSub := opr_imp op_sub fun x y H Q q => by
  cases x <;> cases y <;> first | exact False.elim q | exact ⟨_, _, rfl, rfl, q⟩
def sMod : R2 := sI (fun i j => .int (i % j)) fun _ j => 0 < j
theorem op_sMod {X : Cx} : OpR X (binaryOp .Mod) sMod := opr_imp op_mod fun x y H Q q => by
  cases x <;> cases y <;> first | exact False.elim q | exact ⟨_, _, rfl, rfl, q.1, q.2⟩
def sDiv : R2 := sI (fun i j => .int (i / j)) fun _ j => 0 < j ∧ j < 2 ^ 200
theorem op_sDiv {X : Cx} : OpR X (binaryOp .FloorDiv) sDiv := opr_imp op_fdivW fun x y H Q q => by
  cases x <;> cases y <;> first | exact False.elim q | exact ⟨_, _, rfl, rfl, wide_div q.1.1 (b := 200) (by have := q.1; omega) (by decide) (by decide), q.2⟩
def sMul (K : PySem.W.Frag) : R2 := fun x y H Q => match x, y with
  | .int i, .int j => ((-(2 ^ 64) < i ∧ i < 2 ^ 64) ∨ (-(2 ^ 64) < j ∧ j < 2 ^ 64) ∨ (i.natAbs < 2 ^ 400000 ∧ j.natAbs < 2 ^ 400000)) ∧ Q (.int (i * j)) H
  | .ref l, .int k => rRep (.ref l) (.int k) H Q ∨ rMulT K (.ref l) (.int k) H Q
  | _, _ => False
theorem op_sMul {X : Cx} : OpR X (binaryOp .Mult) (sMul X.K) := by
  refine opr_or (opr_or op_mul op_mulW (r' := fun x y H Q => _ ∨ _) fun _ _ _ _ q => q) (opr_or op_rep op_mulT (r' := fun x y H Q => _ ∨ _) fun _ _ _ _ q => q) fun x y H Q q => ?_
  cases x <;> cases y <;> first | exact False.elim q | skip
  · obtain ⟨c, q⟩ := q
    rcases c with c | c | c
    · exact .inl (.inl ⟨_, _, rfl, rfl, .inl c, q⟩)
    · exact .inl (.inl ⟨_, _, rfl, rfl, .inr c, q⟩)
    · exact .inl (.inr ⟨_, _, rfl, rfl, wide_mul c.1 c.2 (by decide) (by decide) (by decide), q⟩)
  · exact .inr q
def sPow : R2 := sI (fun i j => .int (i ^ j.toNat)) fun i j => 0 ≤ j ∧ j ≤ 1000000 ∧ i.natAbs < 2 ^ 64
theorem op_sPow {X : Cx} : OpR X (binaryOp .Pow) sPow := opr_imp op_pow fun x y H Q q => by
  cases x <;> cases y <;> first | exact False.elim q | exact ⟨_, _, rfl, rfl, q.1, q.2⟩
def Sq (K : PySem.W.Frag) (H : Hp) (p : Addr) (xs : List V) : Prop := SqL K H p xs ∨ SqT K H p xs
theorem sq_l {K : PySem.W.Frag} {H : Hp} {p : Addr} {xs : List V} (h : SqL K H p xs) : Sq K H p xs := .inl h
theorem sq_t {K : PySem.W.Frag} {H : Hp} {p : Addr} {xs : List V} (h : SqT K H p xs) : Sq K H p xs := .inr h
theorem Sq.ex {K : PySem.W.Frag} {H H' : Hp} {a : Addr} {xs : List V} (e : Ex H H') (h : Sq K H a xs) : Sq K H' a xs := h.imp (sq_ex e) (st_ex e)
/-! comparisons -/
def sCmp (p : Int → Int → Bool) : R2 := fun x y H Q => match x, y with
  | .int i, .int j => Q (.bl (p i j)) H
  | _, _ => False
theorem opr_cmp {X : Cx} {f : Value → Value → Sem Value} {p : Int → Int → Bool} (h : OpR X f (rI0 fun i j => .bl (p i j))) : OpR X f (sCmp p) := opr_imp h fun x y H Q q => by
  cases x <;> cases y <;> first | exact False.elim q | exact ⟨_, _, rfl, rfl, q⟩
def sLt : R2 := sCmp fun i j => decide (i < j)
def sLe : R2 := sCmp fun i j => decide (i ≤ j)
def sGt : R2 := sCmp fun i j => decide (j < i)
def sGe : R2 := sCmp fun i j => decide (j ≤ i)
theorem op_sLt {X : Cx} : OpR X (compareOp .Lt) sLt := opr_cmp op_lt
theorem op_sLe {X : Cx} : OpR X (compareOp .LtE) sLe := opr_cmp op_le
theorem op_sGt {X : Cx} : OpR X (compareOp .Gt) sGt := opr_cmp op_gt
theorem op_sGe {X : Cx} : OpR X (compareOp .GtE) sGe := opr_cmp op_ge
def sEq (K : PySem.W.Frag) : R2 := fun x y H Q => match x, y with
  | .int i, .int j => Q (.bl (decide (i = j))) H
  | .str a, .str b => Q (.bl (decide (a = b))) H
  | .bl a, .bl b => Q (.bl (decide (a = b))) H
  | .ref a, .ref b => rEqD K (.ref a) (.ref b) H Q
  | x, y => rEqD K x y H Q
def sNe (K : PySem.W.Frag) : R2 := fun x y H Q => match x, y with
  | .int i, .int j => Q (.bl (!decide (i = j))) H
  | .str a, .str b => Q (.bl (!decide (a = b))) H
  | .bl a, .bl b => Q (.bl (!decide (a = b))) H
  | .ref a, .ref b => rNeD K (.ref a) (.ref b) H Q
  | x, y => rNeD K x y H Q
theorem dec_i {i j : Int} : decide (V.int i = V.int j) = decide (i = j) := by
  rw [Bool.eq_iff_iff]
  simp
theorem dec_s {i j : Str} : decide (V.str i = V.str j) = decide (i = j) := by
  rw [Bool.eq_iff_iff]
  simp
theorem dec_b {i j : Bool} : decide (V.bl i = V.bl j) = decide (i = j) := by
  rw [Bool.eq_iff_iff]
  simp
theorem op_sEq {X : Cx} (hu : X.A.units + 64 < cLine) : OpR X (compareOp .Eq) (sEq X.K) := opr_or op_eq (op_eqD hu) fun x y H Q q => by
  unfold sEq at q
  split at q
  · exact .inl ⟨rfl, by rw [dec_i]; exact q⟩
  · exact .inl ⟨rfl, by rw [dec_s]; exact q⟩
  · exact .inl ⟨rfl, by rw [dec_b]; exact q⟩
  · exact .inr q
  · exact .inr q
theorem op_sNe {X : Cx} (hu : X.A.units + 64 < cLine) : OpR X (compareOp .NotEq) (sNe X.K) := opr_or op_ne (op_neD hu) fun x y H Q q => by
  unfold sNe at q
  split at q
  · exact .inl ⟨rfl, by rw [dec_i]; exact q⟩
  · exact .inl ⟨rfl, by rw [dec_s]; exact q⟩
  · exact .inl ⟨rfl, by rw [dec_b]; exact q⟩
  · exact .inr q
  · exact .inr q
/-- in: one sign in a text; a flat thing in a list or a tuple -/
def sIn (K : PySem.W.Frag) : R2 := fun x y H Q => match x, y with
  | .str a, .str z => ∃ c, a = ⟨#[c]⟩ ∧ Q (.bl (decide (c ∈ z.cps.toList))) H
  | x, .ref p => ∃ xs, Sq K H p xs ∧ flatV x = true ∧ xs.all flatV = true ∧ Q (.bl (inV x xs)) H
  | _, _ => False
def sNotIn (K : PySem.W.Frag) : R2 := fun x y H Q => match x, y with
  | .str a, .str z => ∃ c, a = ⟨#[c]⟩ ∧ Q (.bl (!decide (c ∈ z.cps.toList))) H
  | x, .ref p => ∃ xs, Sq K H p xs ∧ flatV x = true ∧ xs.all flatV = true ∧ Q (.bl (!inV x xs)) H
  | _, _ => False
theorem op_sIn {X : Cx} : OpR X (compareOp .In) (sIn X.K) := opr_or op_in_sign op_in_seq fun x y H Q q => by
  unfold sIn at q
  split at q
  · obtain ⟨c, rfl, q⟩ := q
    exact .inl ⟨c, _, rfl, rfl, q⟩
  · obtain ⟨xs, h1, h2, h3, q⟩ := q
    exact .inr ⟨_, xs, rfl, h1, h2, h3, q⟩
  · exact q.elim
theorem op_sNotIn {X : Cx} : OpR X (compareOp .NotIn) (sNotIn X.K) := opr_or op_notIn_sign op_notIn_seq fun x y H Q q => by
  unfold sNotIn at q
  split at q
  · obtain ⟨c, rfl, q⟩ := q
    exact .inl ⟨c, _, rfl, rfl, q⟩
  · obtain ⟨xs, h1, h2, h3, q⟩ := q
    exact .inr ⟨_, xs, rfl, h1, h2, h3, q⟩
  · exact q.elim
def sIs : R2 := fun x y H Q => y = .non ∧ Q (.bl (decide (x = .non))) H
def sIsNot : R2 := fun x y H Q => y = .non ∧ Q (.bl (!decide (x = .non))) H
theorem op_sIs {X : Cx} : OpR X (compareOp .Is) sIs := op_isN
theorem op_sIsNot {X : Cx} : OpR X (compareOp .IsNot) sIsNot := op_notN
/-- xs[i], t[i], s[i] -/
def sIx (K : PySem.W.Frag) : R2 := fun x y H Q => match x, y with
  | .ref p, .int i => ∃ xs v, Sq K H p xs ∧ atI xs i = some v ∧ Q v H
  | .str z, .int i => ∃ c, z.length ≤ sizeLine ∧ atI z.cps.toList i = some c ∧ Q (.str ⟨#[c]⟩) H
  | _, _ => False
theorem ix_s {X : Cx} : IxR X (sIx X.K) := fun a b pins s σ H x y v u Q I rx ry q hs => by
  refine ix_seq a b pins s σ H x y v u Q I rx ry ?_ hs
  unfold sIx at q
  split at q
  · obtain ⟨xs, v, h, h2, q⟩ := q
    rcases h with h | h
    · exact .inl ⟨_, xs, _, v, rfl, rfl, h, h2, q⟩
    · exact .inr (.inl ⟨_, xs, _, v, rfl, rfl, h, h2, q⟩)
  · obtain ⟨c, h, h2, q⟩ := q
    exact .inr (.inr ⟨_, _, c, rfl, rfl, h, h2, q⟩)
  · exact q.elim
/-! built-ins -/
def sLen (K : PySem.W.Frag) : List V → Hp → VK → Prop := fun vs H Q => match vs with
  | [.str z] => z.length ≤ sizeLine ∧ Q (.int z.length) H
  | [.ref p] => ∃ xs, Sq K H p xs ∧ Q (.int xs.length) H
  | _ => False
theorem call_imp {X : Cx} {f : Value} {r r' : List V → Hp → VK → Prop} (h : CallR X f r) (i : ∀ vs H Q, r' vs H Q → r vs H Q) : CallR X f r' :=
  fun pins s σ H xs us Q I rx q => h pins s σ H xs us Q I rx (i _ _ _ q)
theorem call_or {X : Cx} {f : Value} {r1 r2 r' : List V → Hp → VK → Prop} (h1 : CallR X f r1) (h2 : CallR X f r2) (i : ∀ vs H Q, r' vs H Q → r1 vs H Q ∨ r2 vs H Q) : CallR X f r' :=
  fun pins s σ H xs us Q I rx q => (i _ _ _ q).elim (fun q => h1 pins s σ H xs us Q I rx q) (fun q => h2 pins s σ H xs us Q I rx q)
theorem call_sLen {X : Cx} : CallR X (.builtin "len") (sLen X.K) := call_or call_len_str call_len_seq fun vs H Q q => by
  unfold sLen at q
  split at q
  · exact .inl ⟨_, rfl, q.1, q.2⟩
  · obtain ⟨xs, h, q⟩ := q
    exact .inr ⟨_, xs, rfl, h, q⟩
  · exact q.elim
def sList (K : PySem.W.Frag) : List V → Hp → VK → Prop := fun vs H Q => match vs with
  | [.ref p] => ∃ xs, Sq K H p xs ∧ ∀ l, H l = none → Q (.ref l) (upd H l (.lst xs))
  | _ => False
theorem call_sList {X : Cx} : CallR X (.type "list") (sList X.K) := call_imp call_list_of fun vs H Q q => by
  unfold sList at q
  split at q
  · obtain ⟨xs, h, q⟩ := q
    exact ⟨_, xs, rfl, h, q⟩
  · exact q.elim
def sTuple (K : PySem.W.Frag) : List V → Hp → VK → Prop := fun vs H Q => match vs with
  | [.ref p] => ∃ xs, (SqL K H p xs ∧ ∀ l, H l = none → Q (.ref l) (upd H l (.tup xs))) ∨ (SqT K H p xs ∧ Q (.ref p) H)
  | _ => False
theorem call_sTuple {X : Cx} : CallR X (.type "tuple") (sTuple X.K) := call_imp call_tuple_of fun vs H Q q => by
  unfold sTuple at q
  split at q
  · obtain ⟨xs, h⟩ := q
    exact ⟨_, xs, rfl, h⟩
  · exact q.elim
def sAll (K : PySem.W.Frag) : List V → Hp → VK → Prop := fun vs H Q => ∃ (a : Addr) (bs : List Bool), vs = [V.ref a] ∧ SqL K H a (bs.map V.bl) ∧ Q (.bl (bs.all id)) H
theorem call_sAll {X : Cx} (hc : X.calm = true) : CallR X (.builtin "all") (sAll X.K) := cr_all hc
def sSum (K : PySem.W.Frag) : List V → Hp → VK → Prop := fun vs H Q => ∃ (a : Addr) (ns : List Int), vs = [V.ref a] ∧ SqL K H a (ns.map V.int) ∧ Q (.int ns.sum) H
theorem call_sSum {X : Cx} (hc : X.calm = true) : CallR X (.builtin "sum") (sSum X.K) := cr_sum hc
/-! slices -/
def sSl (K : PySem.W.Frag) : V → Option Int → Option Int → Hp → VK → Prop := fun x lo hi H Q => match x with
  | .ref a => (∃ xs, SqL K H a xs ∧ ∀ p, H p = none → Q (.ref p) (upd H p (.lst (cutV xs lo hi)))) ∨ rSlA K (.ref a) lo hi H Q
  | .str z => z.length ≤ sizeLine ∧ Q (.str (Txt.slice z lo hi)) H
  | _ => False
theorem sl_s {X : Cx} : SlR X (sSl X.K) := fun pins s σ H x v vl vu lo hi sl Q I rx hs pl pu q => by
  unfold sSl at q
  split at q
  · rcases q with ⟨xs, h, q⟩ | q
    · exact sl_list pins s σ H _ v vl vu lo hi sl Q I rx hs pl pu ⟨_, xs, rfl, h, q⟩
    · exact sl_tupA pins s σ H _ v vl vu lo hi sl Q I rx hs pl pu q
  · exact C8.sl_txt pins s σ H _ v vl vu lo hi sl Q I rx hs pl pu ⟨_, rfl, q.1, q.2⟩
  · exact q.elim

/-! ### what the operators give, by heads -/
section
variable {H : Hp} {Q : VK} {K : PySem.W.Frag} {i j : Int} {a b : Str} {p q : Addr} {xs zs : List V} {v : V}
theorem z_addI (h : Q (.int (i + j)) H) : sAdd K (.int i) (.int j) H Q := h
theorem z_addS (h1 : a.length + b.length ≤ sizeLine) (h : Q (.str (a ++ b)) H) : sAdd K (.str a) (.str b) H Q := ⟨h1, h⟩
theorem z_addL (h1 : H p = some (.lst xs)) (h2 : H q = some (.lst zs)) (h3 : xs.length + zs.length ≤ sizeLine) (h : ∀ r, H r = none → Q (.ref r) (upd H r (.lst (xs ++ zs)))) : sAdd K (.ref p) (.ref q) H Q := .inl ⟨xs, zs, h1, h2, h3, h⟩
theorem z_sub (h : Q (.int (i - j)) H) : sSub (.int i) (.int j) H Q := h
theorem z_neg {f : Int → V} (h : Q (f i) H) : rU f (.int i) H Q := ⟨i, rfl, h⟩
theorem z_mod (h1 : 0 < j) (h : Q (.int (i % j)) H) : sMod (.int i) (.int j) H Q := ⟨h1, h⟩
theorem z_div (h1 : 0 < j) (h2 : j < 2 ^ 200) (h : Q (.int (i / j)) H) : sDiv (.int i) (.int j) H Q := ⟨⟨h1, h2⟩, h⟩
theorem z_mulL (h1 : -(2 ^ 64) < i ∧ i < 2 ^ 64) (h : Q (.int (i * j)) H) : sMul K (.int i) (.int j) H Q := ⟨.inl h1, h⟩
theorem z_mulR (h1 : -(2 ^ 64) < j ∧ j < 2 ^ 64) (h : Q (.int (i * j)) H) : sMul K (.int i) (.int j) H Q := ⟨.inr (.inl h1), h⟩
theorem z_mulW (h1 : i.natAbs < 2 ^ 400000) (h2 : j.natAbs < 2 ^ 400000) (h : Q (.int (i * j)) H) : sMul K (.int i) (.int j) H Q := ⟨.inr (.inr ⟨h1, h2⟩), h⟩
/-- a list, a tuple times n -/
theorem z_mulLst (h1 : H p = some (.lst xs)) (h2 : 0 ≤ i ∧ i < 2 ^ 62) (h3 : xs.length * i.toNat ≤ 1000000) (h : ∀ r, H r = none → Q (.ref r) (upd H r (.lst (List.replicate i.toNat xs).flatten))) : sMul K (.ref p) (.int i) H Q := .inl ⟨p, i, xs, rfl, rfl, h1, by omega, by omega, sz_of h3, h⟩
theorem z_mulTup (h1 : SqT K H p xs) (h0 : xs ≠ []) (h2 : 0 ≤ i ∧ i ≤ 1000) (h3 : xs.length ≤ 1000) (h4 : i = 1 → Q (.ref p) H) (h5 : i ≠ 1 → ∀ r, H r = none → Q (.ref r) (upd H r (.tup (List.replicate i.toNat xs).flatten))) : sMul K (.ref p) (.int i) H Q := .inr ⟨p, i, xs, rfl, rfl, h1, h0, h2.1, h2.2, h3, h4, h5⟩
/-- a tuple and a tuple -/
theorem z_addT (h1 : SqT K H p xs) (h2 : SqT K H q zs) (h3 : xs.length + zs.length ≤ 1000000) (k0 : xs = [] → Q (.ref q) H) (k1 : xs ≠ [] → zs = [] → Q (.ref p) H) (k2 : xs ≠ [] → zs ≠ [] → ∀ r, H r = none → Q (.ref r) (upd H r (.tup (xs ++ zs)))) : sAdd K (.ref p) (.ref q) H Q := .inr ⟨p, q, xs, zs, rfl, rfl, h1, h2, sz_of h3, k0, k1, k2⟩
theorem z_pow (h1 : 0 ≤ j ∧ j ≤ 1000000 ∧ i.natAbs < 2 ^ 64) (h : Q (.int (i ^ j.toNat)) H) : sPow (.int i) (.int j) H Q := ⟨h1, h⟩
theorem z_lt (h : Q (.bl (decide (i < j))) H) : sLt (.int i) (.int j) H Q := h
theorem z_le (h : Q (.bl (decide (i ≤ j))) H) : sLe (.int i) (.int j) H Q := h
theorem z_gt (h : Q (.bl (decide (j < i))) H) : sGt (.int i) (.int j) H Q := h
theorem z_ge (h : Q (.bl (decide (j ≤ i))) H) : sGe (.int i) (.int j) H Q := h
theorem z_eqI (h : Q (.bl (decide (i = j))) H) : sEq K (.int i) (.int j) H Q := h
theorem z_eqS (h : Q (.bl (decide (a = b))) H) : sEq K (.str a) (.str b) H Q := h
theorem z_eqB {a b : Bool} (h : Q (.bl (decide (a = b))) H) : sEq K (.bl a) (.bl b) H Q := h
theorem z_neI (h : Q (.bl (!decide (i = j))) H) : sNe K (.int i) (.int j) H Q := h
theorem z_neS (h : Q (.bl (!decide (a = b))) H) : sNe K (.str a) (.str b) H Q := h
theorem z_neB {a b : Bool} (h : Q (.bl (!decide (a = b))) H) : sNe K (.bl a) (.bl b) H Q := h
theorem z_eqR (h : rEqD K (.ref p) (.ref q) H Q) : sEq K (.ref p) (.ref q) H Q := h
theorem z_neR (h : rNeD K (.ref p) (.ref q) H Q) : sNe K (.ref p) (.ref q) H Q := h
theorem z_inS {c : Nat} {z : Str} (h : Q (.bl (decide (c ∈ z.cps.toList))) H) : sIn K (.str ⟨#[c]⟩) (.str z) H Q := ⟨c, rfl, h⟩
theorem z_inI (h1 : Sq K H p xs) (h2 : xs.all flatV = true) (h : Q (.bl (inV (.int i) xs)) H) : sIn K (.int i) (.ref p) H Q := ⟨xs, h1, rfl, h2, h⟩
theorem z_ninI (h1 : Sq K H p xs) (h2 : xs.all flatV = true) (h : Q (.bl (!inV (.int i) xs)) H) : sNotIn K (.int i) (.ref p) H Q := ⟨xs, h1, rfl, h2, h⟩
theorem z_ninS {c : Nat} {z : Str} (h : Q (.bl (!decide (c ∈ z.cps.toList))) H) : sNotIn K (.str ⟨#[c]⟩) (.str z) H Q := ⟨c, rfl, h⟩
theorem z_is (h : Q (.bl (decide (v = .non))) H) : sIs v .non H Q := ⟨rfl, h⟩
theorem z_isnot (h : Q (.bl (!decide (v = .non))) H) : sIsNot v .non H Q := ⟨rfl, h⟩
theorem z_ix (h1 : Sq K H p xs) (h2 : atI xs i = some v) (h : Q v H) : sIx K (.ref p) (.int i) H Q := ⟨xs, v, h1, h2, h⟩
theorem z_ixS {c : Nat} (h1 : a.length ≤ sizeLine) (h2 : atI a.cps.toList i = some c) (h : Q (.str ⟨#[c]⟩) H) : sIx K (.str a) (.int i) H Q := ⟨c, h1, h2, h⟩
theorem z_lenS (h1 : a.length ≤ sizeLine) (h : Q (.int a.length) H) : sLen K [.str a] H Q := ⟨h1, h⟩
theorem z_len (h1 : Sq K H p xs) (h : Q (.int xs.length) H) : sLen K [.ref p] H Q := ⟨xs, h1, h⟩
theorem z_list (h1 : Sq K H p xs) (h : ∀ l, H l = none → Q (.ref l) (upd H l (.lst xs))) : sList K [.ref p] H Q := ⟨xs, h1, h⟩
theorem z_tupL (h1 : SqL K H p xs) (h : ∀ l, H l = none → Q (.ref l) (upd H l (.tup xs))) : sTuple K [.ref p] H Q := ⟨xs, .inl ⟨h1, h⟩⟩
theorem z_tupT (h1 : SqT K H p xs) (h : Q (.ref p) H) : sTuple K [.ref p] H Q := ⟨xs, .inr ⟨h1, h⟩⟩
theorem z_slL {lo hi : Option Int} (h1 : SqL K H p xs) (h : ∀ r, H r = none → Q (.ref r) (upd H r (.lst (cutV xs lo hi)))) : sSl K (.ref p) lo hi H Q := .inl ⟨xs, h1, h⟩
theorem z_slS {lo hi : Option Int} (h1 : a.length ≤ sizeLine) (h : Q (.str (Txt.slice a lo hi)) H) : sSl K (.str a) lo hi H Q := ⟨h1, h⟩
theorem z_all {bs : List Bool} (h1 : SqL K H p (bs.map V.bl)) (h : Q (.bl (bs.all id)) H) : sAll K [.ref p] H Q := ⟨p, bs, rfl, h1, h⟩
theorem z_sum {ns : List Int} (h1 : SqL K H p (ns.map V.int)) (h : Q (.int ns.sum) H) : sSum K [.ref p] H Q := ⟨p, ns, rfl, h1, h⟩
/-! pieces of a slice -/
theorem x_nopart {σ : L2.St} {Q : Option Int → Hp → Prop} (h : Q none H) : tNoPart σ H Q := h
theorem x_part {σ : L2.St} {t : TE} {Q : Option Int → Hp → Prop} (h : t σ H fun x H1 => ∃ i, x = .int i ∧ Q (some i) H1) : tPart t σ H Q := h
theorem x_int {P : Int → Prop} (h : P i) : ∃ j, V.int i = .int j ∧ P j := ⟨i, rfl, h⟩
theorem x_sl {σ : L2.St} {r : V → Option Int → Option Int → Hp → VK → Prop} {te : TE} {tl th : TO} (h : te σ H fun x H1 => tl σ H1 fun l H2 => th σ H2 fun u H3 => r x l u H3 Q) : tSl r te tl th σ H Q := h
/-! methods of built-ins -/
theorem x_bm {σ : L2.St} {T : String} {r : V → List V → Hp → VK → Prop} {to : TE} {t : TA} (h : to σ H fun x H1 => tyV K T x H1 ∧ t σ H1 fun xs H2 => r x xs H2 Q) : tBM K T r to t σ H Q := h
theorem x_bm0 {σ : L2.St} {T : String} {r : V → List V → Hp → VK → Prop} {to : TE} (h : to σ H fun x H1 => tyV K T x H1 ∧ r x [] H1 Q) : tBM0 K T r to σ H Q := h
theorem ty_list (h : H p = some (.lst xs)) : tyV K "list" (.ref p) H := .inl ⟨rfl, _, .inl (.inl h)⟩
theorem z_append (h : H p = some (.lst xs)) (hz : xs.length < 1000000) (k : Q .non (upd H p (.lst (xs ++ [v])))) : rAppend (.ref p) [v] H Q := ⟨p, xs, v, rfl, rfl, h, sz_lt hz, k⟩
/-! items stored -/
theorem x_sub {σ : L2.St} {to ti : TE} {t : TSet} {Q : L2.St → Hp → Prop} (h : to σ H fun o H1 => ti σ H1 fun i H2 => t o i v H2 fun H3 => Q σ H3) : gSub to ti t v σ H Q := h
theorem z_setL {j : Nat} {Q : Hp → Prop} (h : H p = some (.lst xs)) (hj : ixN xs.length i = some j) (k : Q (upd H p (.lst (xs.set j v)))) : rSetL (.ref p) (.int i) v H Q := ⟨p, xs, i, j, rfl, rfl, h, hj, k⟩
theorem x_gtup {σ : L2.St} {n : Nat} {t : TGs} {Q : L2.St → Hp → Prop} (h1 : SqT K H p xs) (h2 : xs.length = n) (h : t xs σ H Q) : gTup K n t (.ref p) σ H Q := ⟨p, xs, rfl, h1, h2, h⟩
theorem x_gnil {σ : L2.St} {Q : L2.St → Hp → Prop} (h : Q σ H) : gNil [] σ H Q := ⟨rfl, h⟩
theorem x_gcons {σ : L2.St} {vs : List V} {t : TG} {u : TGs} {Q : L2.St → Hp → Prop} (h : t v σ H fun σ' H' => u vs σ' H' Q) : gCons t u (v :: vs) σ H Q := ⟨v, vs, rfl, h⟩
/-! loops -/
theorem x_for {σ : L2.St} {wi : TI} {g : TG} {tb : TS} {D : Ends} (h : wi σ H fun J H1 => ∃ W : Nat → Nat → L2.St → Hp → Prop, (∃ m, W 0 m σ H1) ∧ ∀ i m σ H, W i m σ H →
    (J.stop i H ∧ D.nx σ H) ∨ (J.go i H ∧ ∃ N : L2.St → Hp → Prop, (∀ σ' H', N σ' H' → ∃ m', m' < m ∧ W (i + 1) m' σ' H') ∧ ∀ x H', J.yld i H x H' → g x σ H' fun σ2 H2 => tb { D with nx := N, ct := N, bk := D.nx } σ2 H2)) : tFor wi g tb D σ H := h
theorem x_forL {σ : L2.St} {tl : TE} {g : TG} {tb : TS} {D : Ends} {R : It → Hp → Prop} (h : tl σ H fun x H1 => ∃ a, x = .ref a ∧ (∃ xs, SqL K H1 a xs) ∧ R (Itl K a) H1) : iList K tl σ H R := h
end
end R

/-! # U2: defs of the text as bundles, calls, passing of errors -/
namespace R
open PySem PySem.Spec PyProof.Rows L2
/-- a def of the text as it stands behind the top -/
structure DF (K : PySem.W.Frag) (mg : Str → Option Value) (x : Str) (st : Stmt) (ps : List Str) where
  f : Addr
  fd : FuncData
  F : Fun K x x st f fd
  g : mg x = some (.ref f)
  b : Binds K fd ps []
section
variable {P : Program} {w : World} {K : PySem.W.Frag} {mg : Str → Option Value} {base : Heap}
/-- what a def at f promises -/
abbrev Ok (P : Program) (w : World) (K : PySem.W.Frag) (mg : Str → Option Value) (base : Heap) (k : Nat) {x : Str} {st : Stmt} {ps : List Str} (d : DF K mg x st ps) (sp : Sp) : Prop := FnOk P w K mg base (L2.CX P w) k d.f d.fd ps sp
theorem ok_of {x : Str} {st : Stmt} {ps N : List Str} {k : Nat} {sp : Sp} (d : DF K mg x st ps) (S : FnScope N ps (defScope st)) (len : ∀ vs H Q E, sp vs H Q E → vs.length = ps.length)
    (hbody : ∀ (cdv : Value) (A : Around) (outer : List Env) (s : Shared) (H : Hp) (vs : List V) (Q : VK) (E : XK), Room k (A.deeper (envOfC x (defScope st) s.heap.objs.size d.f cdv)) → sp vs H Q E →
      ∃ t, PSs (cxOf (L2.CX P w) P w K mg base N x (defScope st) d.f cdv A outer s H E) (defBody st) t ∧ t { nx := fun _ H' => Q .non H', rt := Q } (L2.start N vs) H) : Ok P w K mg base (k + 1) d sp := d.F.okX S len hbody
variable {A : Around} {outer : List Env} {s : Shared} {H : Hp} {E : XK} {N : List Str} {q : Str} {sc : Scope} {f : Addr} {cdv : Value}
/-- an error of a callee leaves the def -/
theorem passE : Passes (L2.CX P w) (cxOf (L2.CX P w) P w K mg base N q sc f cdv A outer s H E) E := passes_call (W := fun cls d _ H => E cls d H) (takes_of rfl rfl rfl rfl) (fun _ _ _ _ h => h)
theorem ownE : PassesOwn (model P w) (A.deeper (envOfC q sc s.heap.objs.size f cdv)) (envOfC q sc s.heap.objs.size f cdv) (cxOf (L2.CX P w) P w K mg base N q sc f cdv A outer s H E).xe := passes_of rfl
end
section
variable {X : Cx} {x : Str} {st : Stmt} {ps : List Str} {k : Nat} {sp : Sp} {E : XK} {p pos : Pos} {e : Expr} {es : List Expr} {t : TA}
theorem pcall (d : DF X.K X.mg x st ps) (G : Ok X.prog X.w X.K X.mg X.base k d sp) (hr : Room k X.A) (hx : Passes (L2.CX X.prog X.w) X E) (ha : PA X (e :: es) t) (hg : Gl X x := by rfl) (hdb : (x == ("__debug__" : Str)) = false := by decide)
    (he : starEach (e :: es) X.env = (false, eval e X.env) :: starEach es X.env := by rfl) (hpl : (backTo pos (starEach es X.env)).any (·.1) = false := by rfl) : PE X (.Call (.Name x p) (e :: es) [] pos) (tCall sp [] E t) :=
  pe_call G hr hg d.g d.F.kp d.b .nil hx ha hdb he hpl
theorem pcall0 (d : DF X.K X.mg x st ps) (G : Ok X.prog X.w X.K X.mg X.base k d sp) (hr : Room k X.A) (hx : Passes (L2.CX X.prog X.w) X E) (hg : Gl X x := by rfl) (hdb : (x == ("__debug__" : Str)) = false := by decide) : PE X (.Call (.Name x p) [] [] pos) (tCall sp [] E tNil) :=
  pe_call0 G hr hg d.g d.F.kp d.b .nil hx hdb
theorem x_call {σ : L2.St} {H : Hp} {Q : VK} {t : TA} (h : t σ H fun vs H1 => sp vs H1 Q E) : tCall sp [] E t σ H Q := by
  have e : (fun vs H1 => sp (vs ++ []) H1 Q E) = (fun vs H1 => sp vs H1 Q E) := by
    funext vs H1
    rw [List.append_nil]
  show t σ H (fun vs H1 => sp (vs ++ []) H1 Q E)
  rw [e]
  exact h
theorem go {t : TS} {D : Ends} {N : List Str} {vs : List V} {H : Hp} (σ : L2.St) (e : L2.start N vs = σ) (h : t D σ H) : t D (L2.start N vs) H := by
  rw [e]
  exact h
/-- a global that is a constant -/
def GV (mg : Str → Option Value) (x : Str) (v : V) : Prop := ∃ u, mg x = some u ∧ RelV v u
theorem pglob {v : V} (h : GV X.mg x v) (hg : Gl X x) (hd : (x == ("__debug__" : Str)) = false := by decide) : PE X (.Name x pos) (tC v) := by
  obtain ⟨u, h1, h2⟩ := h
  exact pe_glob hg h1 h2 hd
/-! what a for walks: a list, a tuple, a text -/
def rS (K : PySem.W.Frag) : V → Hp → (It → Hp → Prop) → Prop := fun x H R => match x with
  | .ref a => (∃ xs, SqL K H a xs ∧ R (Itl K a) H) ∨ (∃ xs, SqT K H a xs ∧ R (Itt K a) H)
  | .str z => R (Its z) H
  | _ => False
def iS (K : PySem.W.Frag) (tl : TE) : TI := fun σ H R => tl σ H fun x H1 => rS K x H1 R
theorem pi_s {tg l : Expr} {tl : TE} (hl : PE X l tl) : PI X tg l (iS X.K tl) := by
  refine ⟨fun pins s σ H R I h => ?_⟩
  refine thn (hl.run pins s σ H _ I h) fun v s1 ⟨y, H1, I1, r1, q1⟩ => ?_
  have q1 : rS X.K y H1 R := q1
  cases y with
  | ref a =>
    obtain rfl : v = Value.ref a := r1
    rcases q1 with ⟨xs, hq, q⟩ | ⟨xs, hq, q⟩
    · obtain ⟨its, rv, p, hz⟩ := I1.list hq
      refine wpAny_pyIter_list p.isList ?_
      refine ⟨s1.heap.objs.size, [s1.heap.objs.size], _, _, H1, rfl, I1.kept (t' := s1.toks) fun b o e => Heap.get?_push_of_some _ e, turn_list a _, ⟨_, Heap.get?_push_size _ rfl, rfl, rfl⟩, fun b hb => ?_, q⟩
      have e : b = s1.heap.objs.size := by simpa using hb
      subst e
      exact I1.fpOk (Nat.le_refl _) (I1.hok.fresh (Nat.le_refl _))
    · obtain ⟨its, rv, p, hz⟩ := I1.tuple hq
      refine wpAny_pyIter_tuple (show s1.heap.IsTuple a its.toArray from p) ?_
      refine ⟨s1.heap.objs.size, [s1.heap.objs.size], _, _, H1, rfl, I1.kept (t' := s1.toks) fun b o e => Heap.get?_push_of_some _ e, turn_tuple a _, ⟨_, Heap.get?_push_size _ rfl, rfl, rfl⟩, fun b hb => ?_, q⟩
      have e : b = s1.heap.objs.size := by simpa using hb
      subst e
      exact I1.fpOk (Nat.le_refl _) (I1.hok.fresh (Nat.le_refl _))
  | str z =>
    obtain ⟨t, rfl⟩ := r1
    cases ha : z.cps.all (· < 128)
    · exact wpAny_pyIter_wide ha (pi_one (tk := s1.toks) I1 _ (turn_str _ z t "str_iterator" (.inr rfl)) ⟨_, Heap.get?_push_size _ rfl, rfl, rfl⟩ q1)
    · exact wpAny_pyIter_ascii ha (pi_one (tk := s1.toks) I1 _ (turn_str _ z t "str_ascii_iterator" (.inl rfl)) ⟨_, Heap.get?_push_size _ rfl, rfl, rfl⟩ q1)
  | _ => exact q1.elim
section
variable {σ : L2.St} {H : Hp} {K : PySem.W.Frag} {R : It → Hp → Prop} {a : Addr} {xs : List V} {z : Str}
theorem x_s {tl : TE} (h : tl σ H fun x H1 => rS K x H1 R) : iS K tl σ H R := h
theorem z_sL (h : SqL K H a xs) (q : R (Itl K a) H) : rS K (.ref a) H R := .inl ⟨xs, h, q⟩
theorem z_sT (h : SqT K H a xs) (q : R (Itt K a) H) : rS K (.ref a) H R := .inr ⟨xs, h, q⟩
theorem z_sS (q : R (Its z) H) : rS K (.str z) H R := q
def rR1 (vs : List V) (H : Hp) (R : It → Hp → Prop) : Prop := ∃ j : Int, vs = [.int j] ∧ -(2 ^ 62) ≤ j ∧ j < 2 ^ 62 ∧ R (Itr 0 j.toNat) H
def rR2 (vs : List V) (H : Hp) (R : It → Hp → Prop) : Prop := ∃ i j : Int, vs = [.int i, .int j] ∧ (-(2 ^ 62) ≤ i ∧ i < 2 ^ 62 ∧ -(2 ^ 62) ≤ j ∧ j < 2 ^ 62) ∧ R (Itr i (j - i).toNat) H
theorem x_r1 {t : TA} (h : t σ H fun vs H1 => rR1 vs H1 R) : iRng1 t σ H R := h
theorem z_r1 {j : Int} (h1 : -(2 ^ 62) ≤ j) (h2 : j < 2 ^ 62) (q : R (Itr 0 j.toNat) H) : rR1 [.int j] H R := ⟨j, rfl, h1, h2, q⟩
theorem x_r2 {t : TA} (h : t σ H fun vs H1 => rR2 vs H1 R) : iRng2 t σ H R := h
theorem z_r2 {lo j : Int} (h : -(2 ^ 62) ≤ lo ∧ lo < 2 ^ 62 ∧ -(2 ^ 62) ≤ j ∧ j < 2 ^ 62) (q : R (Itr lo (j - lo).toNat) H) : rR2 [.int lo, .int j] H R := ⟨lo, j, rfl, h, q⟩
end
end
/-! ### comprehensions: the list made so far -/
def LcP (D : Addr) (Iv : Nat → List V → Hp → Prop) (i : Nat) (H : Hp) : Prop := ∃ ys, H D = some (.lst ys) ∧ ys.length ≤ i ∧ Iv i ys H
section
variable {D : Addr} {Iv : Nat → List V → Hp → Prop} {i n : Nat} {H : Hp} {ys : List V} {y : V}
theorem lc0 (h : Iv 0 [] (upd H D (.lst []))) : LcP D Iv 0 (upd H D (.lst [])) := ⟨[], upd_same, Nat.le_refl _, h⟩
theorem lc_put (hD : H D = some (.lst ys)) (hl : ys.length ≤ i) (hi : i < n) (hn : n ≤ 900000) (h : Iv (i + 1) (ys ++ [y]) (upd H D (.lst (ys ++ [y])))) :
    ∃ acc, H D = some (.lst acc) ∧ acc.length < sizeLine ∧ LcP D Iv (i + 1) (upd H D (.lst (acc ++ [y]))) :=
  ⟨ys, hD, sz_lt (by omega), ys ++ [y], upd_same, by rw [List.length_append, List.length_singleton]; omega, h⟩
theorem lc_skip (hD : H D = some (.lst ys)) (hl : ys.length ≤ i) (h : Iv (i + 1) ys H) : LcP D Iv (i + 1) H := ⟨ys, hD, by omega, h⟩
theorem x_lc {wi : TI} {g : TG} {tt : TT} {te : TE} {vs : List Nat} {σ : L2.St} {Q : VK} (h : wi σ H fun J H1 => ∀ D, H1 D = none → ∃ W : Nat → Nat → Hp → Prop, (∃ m, W 0 m (upd H1 D (.lst []))) ∧ ∀ i m H, W i m H →
      (J.stop i H ∧ Q (.ref D) H) ∨ (J.go i H ∧ ∃ Nx : Hp → Prop, (∀ H', Nx H' → ∃ m', m' < m ∧ W (i + 1) m' H') ∧ ∀ x H', J.yld i H x H' → g x (wipe σ vs) H' fun σ2 H2 => wipe σ2 vs = wipe σ vs ∧ tt σ2 H2 fun b H3 =>
        if b = true then te σ2 H3 fun y H4 => ∃ acc, H4 D = some (.lst acc) ∧ acc.length < sizeLine ∧ Nx (upd H4 D (.lst (acc ++ [y]))) else Nx H3)) : tLc wi g tt te vs σ H Q := h
theorem x_yes {σ : L2.St} {Q : Bool → Hp → Prop} (h : Q true H) : tYes σ H Q := h
end
/-! what a zip walks -/
def rZip (K : PySem.W.Frag) (vs : List V) (H : Hp) (R : It → Hp → Prop) : Prop := ∃ a b xs ys, vs = [.ref a, .ref b] ∧ ((SqL K H a xs ∧ SqL K H b ys ∧ R (Itz K a b) H) ∨ (SqT K H a xs ∧ SqT K H b ys ∧ R (RZ.ItzT K a b) H))
theorem x_zip {K : PySem.W.Frag} {σ : L2.St} {H : Hp} {t : TA} {R : It → Hp → Prop} (h : t σ H fun vs H1 => rZip K vs H1 R) : RZ.iZipA K t σ H R := h
theorem z_zipL {K : PySem.W.Frag} {H : Hp} {p q : Addr} {xs ys : List V} {R : It → Hp → Prop} (h1 : SqL K H p xs) (h2 : SqL K H q ys) (h : R (Itz K p q) H) : rZip K [.ref p, .ref q] H R := ⟨p, q, xs, ys, rfl, .inl ⟨h1, h2, h⟩⟩
theorem z_zipT {K : PySem.W.Frag} {H : Hp} {p q : Addr} {xs ys : List V} {R : It → Hp → Prop} (h1 : SqT K H p xs) (h2 : SqT K H q ys) (h : R (RZ.ItzT K p q) H) : rZip K [.ref p, .ref q] H R := ⟨p, q, xs, ys, rfl, .inr ⟨h1, h2, h⟩⟩
theorem walk_zipT {K : PySem.W.Frag} {a b : Addr} {xs ys : List V} {n : Nat} (hn : n = min xs.length ys.length) : Walk (RZ.ItzT K a b) n (fun H => SqT K H a xs ∧ SqT K H b ys) (YPair (fun i => xs[i]?) (fun i => ys[i]?)) := by
  subst hn
  refine ⟨fun i _ hi q => ?_, fun _ q => ⟨xs, ys, q.1, q.2, by omega⟩, fun i H v H' _ q y => ?_⟩
  · have h1 : i < xs.length := by omega
    have h2 : i < ys.length := by omega
    exact ⟨xs, ys, xs[i], ys[i], q.1, q.2, by simp [h1], by simp [h2]⟩
  · obtain ⟨T, x, z, h1, h2, h3, h4, h5⟩ := y
    exact ⟨T, x, z, h1, h2, h3, h4 xs q.1, h5 ys q.2⟩
/-! ### isinstance -/
theorem ki_bool_list : kitB "bool" "list" = some false := by decide +kernel
theorem ki_bool_tuple : kitB "bool" "tuple" = some false := by decide +kernel
theorem ki_bool_bool : kitB "bool" "bool" = some true := by decide +kernel
theorem ki_bool_int : kitB "bool" "int" = some true := by decide +kernel
theorem ki_bool_str : kitB "bool" "str" = some false := by decide +kernel
theorem ki_int_list : kitB "int" "list" = some false := by decide +kernel
theorem ki_int_tuple : kitB "int" "tuple" = some false := by decide +kernel
theorem ki_int_bool : kitB "int" "bool" = some false := by decide +kernel
theorem ki_int_int : kitB "int" "int" = some true := by decide +kernel
theorem ki_int_str : kitB "int" "str" = some false := by decide +kernel
theorem ki_str_list : kitB "str" "list" = some false := by decide +kernel
theorem ki_str_tuple : kitB "str" "tuple" = some false := by decide +kernel
theorem ki_str_bool : kitB "str" "bool" = some false := by decide +kernel
theorem ki_str_int : kitB "str" "int" = some false := by decide +kernel
theorem ki_str_str : kitB "str" "str" = some true := by decide +kernel
theorem ki_list_list : kitB "list" "list" = some true := by decide +kernel
theorem ki_list_tuple : kitB "list" "tuple" = some false := by decide +kernel
theorem ki_list_bool : kitB "list" "bool" = some false := by decide +kernel
theorem ki_list_int : kitB "list" "int" = some false := by decide +kernel
theorem ki_list_str : kitB "list" "str" = some false := by decide +kernel
theorem ki_tuple_list : kitB "tuple" "list" = some false := by decide +kernel
theorem ki_tuple_tuple : kitB "tuple" "tuple" = some true := by decide +kernel
theorem ki_tuple_bool : kitB "tuple" "bool" = some false := by decide +kernel
theorem ki_tuple_int : kitB "tuple" "int" = some false := by decide +kernel
theorem ki_tuple_str : kitB "tuple" "str" = some false := by decide +kernel
theorem ki_NoneType_list : kitB "NoneType" "list" = some false := by decide +kernel
theorem ki_NoneType_tuple : kitB "NoneType" "tuple" = some false := by decide +kernel
theorem ki_NoneType_bool : kitB "NoneType" "bool" = some false := by decide +kernel
theorem ki_NoneType_int : kitB "NoneType" "int" = some false := by decide +kernel
theorem ki_NoneType_str : kitB "NoneType" "str" = some false := by decide +kernel
section
variable {K : PySem.W.Frag} {H : Hp} {Q : VK} {x : V} {t : String} {b : Bool} {n : String}
theorem tyx_l {a : Addr} {xs : List V} (h : SqL K H a xs) : TyX K H (.ref a) (.type "list") := by
  rcases h with (h | ⟨o, h⟩) | ⟨o, its, m, h1, h2, _⟩
  · exact .base (.lst h)
  · exact .base (.frz h)
  · exact .kList h1 h2
theorem tyx_t {a : Addr} {xs : List V} (h : SqT K H a xs) : TyX K H (.ref a) (.type "tuple") := by
  rcases h with (h | ⟨o, h⟩) | ⟨o, its, m, h1, h2, _⟩
  · exact .base (.tup h)
  · exact .fTuple h
  · exact .kTuple h1 h2
theorem z_isi (ty : TyX K H x (.type t)) (e : kitB t n = some b) (q : Q (.bl b) H) : rIsi K [x, .ty n] H Q := ⟨x, .ty n, .type t, .type n, b, rfl, .ty n, ty, kit_ty e, q⟩
theorem z_isiT {tp : Addr} {n1 n2 : String} {b1 b2 : Bool} (ht : H tp = some (.tup [.ty n1, .ty n2])) (ty : TyX K H x (.type t)) (e1 : kitB t n1 = some b1) (e2 : kitB t n2 = some b2) (q : Q (.bl (b1 || b2)) H) : rIsiT K [x, .ref tp] H Q := by
  refine ⟨x, tp, [.ty n1, .ty n2], .type t, [.type n1, .type n2], b1 || b2, rfl, ht, .cons (.ty n1) (.cons (.ty n2) .nil), ty, kitAny_cons (kit_ty e1) (fun h => ?_) (fun h => by rw [h]; rfl), q⟩
  subst h
  refine kitAny_cons (kit_ty e2) (fun h => ?_) (fun h => by rw [h]; rfl)
  subst h
  exact kitAny_nil
end
end R

/-! # U3: more built-ins -/
namespace R
open PySem PySem.Spec PyProof.Rows L2
def sInt (_ : PySem.W.Frag) : List V → Hp → VK → Prop := fun vs H Q => match vs with
  | [.int i] => Q (.int i) H
  | [.bl k] => Q (.int (if k then 1 else 0)) H
  | [.str a] => ∃ n, PySem.intText? a = some n ∧ a.length ≤ 640 ∧ Q (.int n) H
  | _ => False
theorem call_sInt {X : Cx} : CallR X (.type "int") (sInt X.K) := call_or call_int1 call_int_str fun vs H Q q => by
  unfold sInt at q
  split at q
  · exact .inl (.inl ⟨_, rfl, q⟩)
  · exact .inl (.inr ⟨_, rfl, q⟩)
  · obtain ⟨n, h1, h2, q⟩ := q
    exact .inr ⟨_, n, rfl, h1, h2, q⟩
  · exact q.elim
def sStr (_ : PySem.W.Frag) : List V → Hp → VK → Prop := fun vs H Q => match vs with
  | [.int i] => i.natAbs.log2 < 1920 ∧ Q (.str (toString i)) H
  | [.str a] => Q (.str a) H
  | _ => False
theorem call_sStr {X : Cx} : CallR X (.type "str") (sStr X.K) := call_or call_str_int SkE.call_str_str fun vs H Q q => by
  unfold sStr at q
  split at q
  · exact .inl ⟨_, rfl, q⟩
  · exact .inr ⟨_, rfl, q⟩
  · exact q.elim
def sAbs (_ : PySem.W.Frag) : List V → Hp → VK → Prop := fun vs H Q => match vs with
  | [.int i] => Q (.int (if i < 0 then -i else i)) H
  | _ => False
theorem call_sAbs {X : Cx} : CallR X (.builtin "abs") (sAbs X.K) := call_imp call_abs fun vs H Q q => by
  unfold sAbs at q
  split at q
  · exact ⟨_, rfl, q⟩
  · exact q.elim
section
variable {K : PySem.W.Frag} {H : Hp} {Q : VK} {i : Int} {b : Bool} {a : Str}
theorem z_intI (h : Q (.int i) H) : sInt K [.int i] H Q := h
theorem z_intB (h : Q (.int (if b then 1 else 0)) H) : sInt K [.bl b] H Q := h
theorem z_strS (h : Q (.str a) H) : sStr K [.str a] H Q := h
theorem z_strI (h1 : i.natAbs.log2 < 1920) (h : Q (.str (toString i)) H) : sStr K [.int i] H Q := ⟨h1, h⟩
theorem z_abs (h : Q (.int (if i < 0 then -i else i)) H) : sAbs K [.int i] H Q := h
end
end R

/-! # DX: texts -/
namespace R
open PySem PySem.Spec PyProof.Rows L2
def sJoin (K : PySem.W.Frag) : V → List V → Hp → VK → Prop := fun x xs H Q => ∃ a p, ∃ ys : List Str, x = .str a ∧ xs = [.ref p] ∧ (SqL K H p (ys.map V.str) ∨ SqT K H p (ys.map V.str)) ∧ (ys.map (·.length)).sum + ys.length * a.length ≤ 16777216 ∧ Q (.str (Txt.join a ys)) H
theorem pjoin {X : Cx} {o e : Expr} {to te : TE} {apos pos : Pos} (ho : PE X o to) (he : PE X e te) (hs : starEach [e] X.env = [(false, eval e X.env)] := by rfl) (hbase : attributeBase o "join" X.env (eval o X.env) = eval o X.env := by rfl) (hline : (apos.endLine == pos.line) = true := by rfl) :
    PE X (.Call (.Attribute o "join" apos) [e] [] pos) (tM1 (sJoin X.K) to te) := pe_join ho he hs hbase hline
section
variable {σ : L2.St} {H : Hp} {Q : VK} {K : PySem.W.Frag} {p : Addr} {ys : List Str} {a : Str}
theorem x_m1 {r : V → List V → Hp → VK → Prop} {to te : TE} (h : to σ H fun x H1 => (∃ a, x = .str a) ∧ te σ H1 fun y H2 => r x [y] H2 Q) : tM1 r to te σ H Q := h
theorem x_isstr {P : Prop} (h : P) : (∃ b, V.str a = .str b) ∧ P := ⟨⟨a, rfl⟩, h⟩
theorem z_join (h : Sq K H p (ys.map V.str)) (hz : (ys.map (·.length)).sum + ys.length * a.length ≤ 16777216) (k : Q (.str (Txt.join a ys)) H) : sJoin K (.str a) [.ref p] H Q := ⟨a, p, ys, rfl, rfl, h, hz, k⟩
end
theorem join_len (a : Str) (ys : List Str) : (Txt.join a ys).length ≤ (ys.map (·.length)).sum + ys.length * a.length := by
  show (Builtin.Str.glued a ys).length ≤ _
  rw [StrLaws.glued_eq_join]
  exact StrLaws.join_length_le a ys
theorem app_len (a b : Str) : (a ++ b).length = a.length + b.length := Str.length_append a b
end R

/-! # X1: the package's own errors, raised -/
namespace R
open PySem PySem.Spec PyProof.Rows L2
/-- the fields of the package's errors -/
def efs : List Str := ["tag", "state", "position", "name", "row"]
/-- a class of errors under ValueError, with its own __init__ at fI -/
structure EX (K : PySem.W.Frag) (mg : Str → Option Value) (x qual : Str) (st : Stmt) (ps : List Str) where
  C : Addr
  fI : Addr
  fd : FuncData
  cls : OexC K C
  g : mg x = some (.ref C)
  iC : PySem.W.findIn K (.ref C) "__init__" = some (some (.ref fI))
  tI : PySem.W.typeIn K (.ref fI) = some (.type "function")
  F : Fun K "__init__" qual (inClass st 0) fI fd
  b : Binds K fd ps []
  no : ∀ f : Str, f ∈ efs → PySem.W.findIn K (.ref C) f = some none
theorem pmk_oex0 {X : Cx} {CX : CXT} {x : Str} {C fI : Addr} {k : Nat} {fd : FuncData} {ps : List Str} {sp : Sp} {p pos : Pos} (T : OexC X.K C) (iC : PySem.W.findIn X.K (.ref C) "__init__" = some (some (.ref fI))) (tI : PySem.W.typeIn X.K (.ref fI) = some (.type "function"))
    (F1 : FnOk X.prog X.w X.K X.mg X.base CX k fI fd ps sp) (hr : Room (k + 1) X.A) (hb : Binds X.K fd ps []) (hx : Passes CX X (fun _ _ _ => False)) (hg : Gl X x) (hm : X.mg x = some (.ref C))
    (hdb : (x == ("__debug__" : Str)) = false := by decide) : PMk X (.Call (.Name x p) [] [] pos) (tMkO C sp [] tNil) := by
  intro pins s σ H Q I h
  obtain ⟨nm, q, N, bs, bm, sn, sub, ab, col, dd, k0, k1, k2, k3, k5, hC, hbm⟩ := T.cls
  refine wpAny_Call_Name_kw (ld_glob I hg hm ?_ hdb)
  refine PySem.W.callWith_K0 I.kIn T.kC ?_
  obtain ⟨hz, q1⟩ := h
  show wpAny _ _ (call (.ref C) []) _ _ _
  obtain ⟨hp, g, dr, tk, os⟩ := s
  have hsz : hp.objs.size ≤ hp.objs.size + 1 := Nat.le_succ _
  have hn : H (hp.objs.size + 1) = none := I.hok.fresh hsz
  have hq := q1 (hp.objs.size + 1) hn
  have kk : ∀ b o, hp.get? b = some o → ((hp.push (PySem.W.kdv_tup [])).push (PySem.HandSPX.excO C hp.objs.size)).get? b = some o := fun b o e => Heap.get?_push_of_some _ (Heap.get?_push_of_some _ e)
  have hget : ((hp.push (PySem.W.kdv_tup [])).push (PySem.HandSPX.excO C hp.objs.size)).get? (hp.objs.size + 1) = some (PySem.HandSPX.excO C hp.objs.size) := by heap_get
  have I2 : Inv X pins σ (upd H (hp.objs.size + 1) (exo (hp.objs.size + 1) C none)) ⟨(hp.push (PySem.W.kdv_tup [])).push (PySem.HandSPX.excO C hp.objs.size), g, dr, tk, os⟩ :=
    I.laid (t' := tk) (a := hp.objs.size + 1) (o := exo (hp.objs.size + 1) C none) (h' := (hp.push (PySem.W.kdv_tup [])).push (PySem.HandSPX.excO C hp.objs.size)) kk hsz (exo_ok hget)
  have r2 : Vals (V.ref (hp.objs.size + 1) :: ([] ++ [])) ([Value.ref (hp.objs.size + 1)] ++ []) := .cons rfl .nil
  have hl : (Value.ref (hp.objs.size + 1) :: [] ++ []).length = ps.length := by
    have e := F1.len _ _ _ _ hq
    exact e
  refine wpAny_call (PySem.HandSPX.call_own F.excBase_ValueError (fun Y => PySem.HandSPX.refsVE_contains Y bm hbm) (I.kIn _ _ hC) (PySem.W.looks_findIn I.kIn iC) (fun self => PySem.W.bind_fn I.kIn self tI) (Nat.zero_le _)
    (codeAny_mono (F1.run _ X.stack _ _ ⟨Value.ref (hp.objs.size + 1) :: [], []⟩ ([Value.ref (hp.objs.size + 1)] ++ []) _ _ (fun _ _ _ => False) (hr.make C [] []) (I2.env0.make C [] []) (hb _ [Value.ref (hp.objs.size + 1)] I2.kIn hl) r2 hq) fun r s' hq' => ?_))
  cases r with
  | error er => exact hx pins σ _ _ er s' I2 hq'
  | ok fl =>
    cases fl with
    | ret u =>
      obtain ⟨v, H2, os2, bare2, un2, hok2, rv, ev, d, fs, ea, ed, hd1, q2⟩ := hq'
      subst ev
      obtain ⟨h2, g2, d2, t2, os'⟩ := s'
      exact ⟨rv, mk_end (raises_own T.exC T.tyC) I hsz kk un2 hok2 os2 bare2 ea ed hd1 q2⟩
    | next => exact False.elim hq'
    | brk => exact False.elim hq'
    | cont => exact False.elim hq'
/-- what a maker of such an error leaves: the fields of its own dict -/
def spErr (C : Addr) (fs : List V → List (Str × V)) (n : Nat) : Sp := fun vs H Q _ => ∃ a ws, vs = .ref a :: ws ∧ ws.length = n ∧ H a = some (exo a C none) ∧
  ∀ (d : Addr) (H' : Hp), H d = none → H' a = some (exo a C (some d)) → H' d = some (exd d (fs ws)) → (∀ b o, H b = some o → b ≠ a → H' b = some o) → Q .non H'
/-- an error of the class at C with the fields fs is wanted: all that stood stands -/
def Er (E : XK) (C : Addr) (fs : List (Str × V)) (H : Hp) : Prop := ∀ (d : Addr) (H' : Hp), H d = none → H' d = some (.xd fs) → Ex H H' → E (.ref C) (some d) H'
/-- X(e, ..) made, then thrown -/
def rMk (C : Addr) (sp : Sp) (vs : List V) (H : Hp) (Q : XK) : Prop := vs.length ≤ 1000 ∧ ∀ a, H a = none → sp (.ref a :: (vs ++ [])) (upd H a (exo a C none))
  (fun v H2 => v = .non ∧ ∃ (d : Addr) (fs : List (Str × V)), H2 a = some (exo a C (some d)) ∧ H2 d = some (exd d fs) ∧ H d = none ∧ Q (.ref C) (some d) (upd (del H2 a) d (.xd fs))) (fun _ _ _ => False)
def tRs (C : Addr) (sp : Sp) (W : WX) (ta : TA) : TS := fun _ σ H => ta σ H fun vs H1 => rMk C sp vs H1 fun cls d H' => W cls d σ H'
theorem x_rs {C : Addr} {sp : Sp} {W : WX} {ta : TA} {D : Ends} {σ : L2.St} {H : Hp} (h : ta σ H fun vs H1 => rMk C sp vs H1 fun cls d H' => W cls d σ H') : tRs C sp W ta D σ H := h
theorem z_rs {C : Addr} {n : Nat} {fs : List V → List (Str × V)} {Q : XK} {vs : List V} {H : Hp} (h1 : vs.length = n) (h2 : n ≤ 1000) (h : Er Q C (fs vs) H) : rMk C (spErr C fs n) vs H Q := by
  refine ⟨by omega, fun a na => ⟨a, vs ++ [], rfl, by rw [List.append_nil]; exact h1, upd_same, fun d H' nd ea ed kp => ⟨rfl, d, fs vs, ea, by rw [List.append_nil] at ed; exact ed, ?_, ?_⟩⟩⟩
  · exact (upd_none nd).2
  · refine h d _ (upd_none nd).2 upd_same fun b o e => ?_
    have nb : b ≠ a := ne_of_none e na
    rw [upd_ne (ne_of_none e (upd_none nd).2), del_ne nb]
    exact kp b o (by rw [upd_ne nb]; exact e) nb
section
variable {X : Cx} {x q : Str} {st : Stmt} {ps : List Str} {k : Nat} {sp : Sp} {W : WX} {p pos pos2 : Pos}
theorem praise0 (d : EX X.K X.mg x q st ps) (G : FnOk X.prog X.w X.K X.mg X.base (L2.CX X.prog X.w) k d.fI d.fd ps sp) (hr : Room (k + 1) X.A) (hc : X.calm = true) (tk : Takes X W) (hg : Gl X x := by rfl) (hdb : (x == ("__debug__" : Str)) = false := by decide) :
    PS X (.Raise (some (.Call (.Name x p) [] [] pos)) none pos2) (tRs d.C sp W tNil) := ps_raise hc tk (pmk_oex0 d.cls d.iC d.tI G hr d.b passL hg d.g hdb)
theorem praise {e : Expr} {es : List Expr} {ta : TA} (d : EX X.K X.mg x q st ps) (G : FnOk X.prog X.w X.K X.mg X.base (L2.CX X.prog X.w) k d.fI d.fd ps sp) (hr : Room (k + 1) X.A) (hc : X.calm = true) (tk : Takes X W) (ha : PA X (e :: es) ta) (hg : Gl X x := by rfl) (hdb : (x == ("__debug__" : Str)) = false := by decide)
    (he : starEach (e :: es) X.env = (false, eval e X.env) :: starEach es X.env := by rfl) (hpl : (backTo pos (starEach es X.env)).any (·.1) = false := by rfl) :
    PS X (.Raise (some (.Call (.Name x p) (e :: es) [] pos)) none pos2) (tRs d.C sp W ta) := ps_raise hc tk (pmk_oex d.cls d.iC d.tI G hr d.b .nil passL hg d.g ha hdb he hpl)
end
theorem ei_end {K : PySem.W.Frag} {C a : Addr} {D : Ends} {σ : L2.St} {H : Hp} {f : Str} {y : V} {Q : VK} (cls : OexC K C) (no : PySem.W.findIn K (.ref C) f = some none) (ha : H a = some (exo a C none))
    (k : ∀ dx, H dx = none → dx ≠ a → D.nx σ (upd (upd H dx (exd dx [(f, y)])) a (exo a C (some dx)))) : ∃ (b C' : Addr), V.ref a = .ref b ∧ OexC K C' ∧ PySem.W.findIn K (.ref C') f = some none ∧
      ((H b = some (exo b C' none) ∧ ∀ dx, H dx = none → dx ≠ b → D.nx σ (upd (upd H dx (exd dx [(f, y)])) b (exo b C' (some dx)))) ∨
        ∃ (dx : Addr) (fs : List (Str × V)), H b = some (exo b C' (some dx)) ∧ H dx = some (exd dx fs) ∧ fs.length ≤ 900 ∧ D.nx σ (upd H dx (exd dx ((f, y) :: fs)))) := ⟨a, C, rfl, cls, no, .inl ⟨ha, k⟩⟩
end R

/-! # C1: classes of the text, defs with a keyword-only parameter -/
namespace R
open PySem PySem.Spec PyProof.Rows L2
/-- a class -/
structure CK (K : PySem.W.Frag) (mg : Str → Option Value) (x : Str) (fl : List Str) where
  C : Addr
  cl : Cls K C
  g : mg x = some (.ref C)
  no : ∀ f ∈ fl, NoAttr K C f
theorem gv_of {mg : Str → Option Value} {x : Str} {C : Addr} (h : mg x = some (.ref C)) : GV mg x (.ref C) := ⟨_, h, rfl⟩
/-- its own __eq__ at f, no own __ne__ -/
structure EQ (K : PySem.W.Frag) (C f : Addr) : Prop where
  eq : PySem.W.findIn K (.ref C) "__eq__" = some (some (.ref f))
  fn : PySem.W.isFn K (.ref f) = true
  ne : PySem.W.findIn K (.ref C) "__ne__" = some (some (.builtin "object.__ne__"))
  pl : PySem.W.plainOver K C = true
  ca : PySem.W.findIn K (.ref C) "__class__" = some (some (.builtin "object.__class__"))
  cn : PySem.W.specialIn K (.builtin "object.__class__") "__get__" = some (some (.builtin "getset_descriptor.__get__"))
  ct : PySem.W.takesIn K (.builtin "object.__class__") = some true
  cm : PySem.W.mroIn K C (.type "object") = some true
  ki : ∀ n ∈ (["NoneType", "tuple", "str"] : List String), PySem.W.kitOne K (.type n) (.ref C) = some false
/-- its __init__, with one keyword-only parameter -/
structure IK (K : PySem.W.Frag) (C : Addr) (qual : Str) (st : Stmt) (ps : List Str) (n : Nat) (kws : List (Str × V)) where
  f : Addr
  fd : FuncData
  F : FunD K "__init__" qual (defArgs st) (defBody st) (defScope st) [] kws f fd
  mak : Mk K C f
  dv : List Value
  hdv : Vals (kws.map (·.2)) dv
  b : Binds K fd ps dv
  kb : KBn K fd ps n (kws.map (·.1)) (fun us ws => us ++ ws) (fun vs zs => vs ++ zs)
/-- a method -/
structure MT (K : PySem.W.Frag) (C : Addr) (m qual : Str) (st : Stmt) (ps : List Str) where
  f : Addr
  fd : FuncData
  F : Fun K m qual st f fd
  mt : Meth K C m f
  b : Binds K fd ps []
/-- a def with one keyword-only parameter -/
structure DK (K : PySem.W.Frag) (mg : Str → Option Value) (x : Str) (st : Stmt) (ps : List Str) (n : Nat) (kws : List (Str × V)) where
  f : Addr
  fd : FuncData
  F : FunD K x x (defArgs st) (defBody st) (defScope st) [] kws f fd
  g : mg x = some (.ref f)
  dv : List Value
  hdv : Vals (kws.map (·.2)) dv
  b : Binds K fd ps dv
  kb : KBn K fd ps n (kws.map (·.1)) (fun us ws => us ++ ws) (fun vs zs => vs ++ zs)
section
variable {X : Cx} {C : Addr} {fl : List Str} {x m qual : Str} {st : Stmt} {ps : List Str} {k n : Nat} {kws : List (Str × V)} {sp : Sp} {E : XK} {p pos apos : Pos} {e o : Expr} {es : List Expr} {ta : TE} {t tk : TA} {kw : List Keyword}
theorem pmeth {pl : Sem Bool} (d : MT X.K C m qual st ps) (c : Cls X.K C) (G : FnOk X.prog X.w X.K X.mg X.base (L2.CX X.prog X.w) k d.f d.fd ps sp) (hr : Room k X.A) (hx : Passes (L2.CX X.prog X.w) X E) (he : PE X o ta) (ha : PA X (e :: es) t)
    (hst : starEach (e :: es) X.env = (false, eval e X.env) :: starEach es X.env := by rfl) (hpl : (backTo pos (starEach es X.env)).any (·.1) = false := by rfl)
    (ht : eval (.Call (.Attribute o m apos) (e :: es) [] pos) X.env = (do
      let ov ← eval o X.env
      standAt apos.atName
      let (f, first) ← holding [ov] (getMethod ov m pl)
      callWith pos f first (backTo pos (starEach (e :: es) X.env)) (backToKw pos (keywordEach [] X.env))) := by rfl) :
    PE X (.Call (.Attribute o m apos) (e :: es) [] pos) (tMeth C m sp [] E ta t) := pe_meth he c d.mt G hr d.b .nil hx ha hst hpl ht
theorem pmeth0 {pl : Sem Bool} (d : MT X.K C m qual st ps) (c : Cls X.K C) (G : FnOk X.prog X.w X.K X.mg X.base (L2.CX X.prog X.w) k d.f d.fd ps sp) (hr : Room k X.A) (hx : Passes (L2.CX X.prog X.w) X E) (he : PE X o ta)
    (ht : eval (.Call (.Attribute o m apos) [] [] pos) X.env = (do
      let ov ← eval o X.env
      standAt apos.atName
      let (f, first) ← holding [ov] (getMethod ov m pl)
      callWith pos f first (backTo pos (starEach [] X.env)) (backToKw pos (keywordEach [] X.env))) := by rfl) :
    PE X (.Call (.Attribute o m apos) [] [] pos) (tMeth C m sp [] E ta tNil) := pe_meth0 he c d.mt G hr d.b .nil hx ht
theorem pmake (g : X.mg x = some (.ref C)) (d : IK X.K C qual st ps n kws) (G : FnOk X.prog X.w X.K X.mg X.base (L2.CX X.prog X.w) k d.f d.fd ps sp) (hr : Room (k + 1) X.A) (hx : Passes (L2.CX X.prog X.w) X E) (ha : PA X (e :: es) t) (hg : Gl X x := by rfl) (hdb : (x == ("__debug__" : Str)) = false := by decide)
    (he : starEach (e :: es) X.env = (false, eval e X.env) :: starEach es X.env := by rfl) (hpl : (backTo pos (starEach es X.env)).any (·.1) = false := by rfl) :
    PE X (.Call (.Name x p) (e :: es) [] pos) (tMake C sp (kws.map (·.2)) E t) := pe_make d.mak G hr hg g d.b d.hdv hx ha hdb he hpl
theorem pmakeK (g : X.mg x = some (.ref C)) (d : IK X.K C qual st ps (n + 1) kws) (G : FnOk X.prog X.w X.K X.mg X.base (L2.CX X.prog X.w) k d.f d.fd ps sp) (hr : Room (k + 1) X.A) (hx : Passes (L2.CX X.prog X.w) X E) (ha : PA X (e :: es) t) (hkw : PK X kw tk) (hg : Gl X x := by rfl) (hdb : (x == ("__debug__" : Str)) = false := by decide)
    (hall : (backToKw pos (keywordEach kw X.env)).all (·.1.isSome) = true := by rfl) (hks : (backToKw pos (keywordEach kw X.env)).filterMap (·.1) = kws.map (·.1) := by rfl)
    (he : starEach (e :: es) X.env = (false, eval e X.env) :: starEach es X.env := by rfl) (hpl : ((backTo pos (starEach (e :: es) X.env)).any (·.1) || (backToKw pos (keywordEach kw X.env)).any (·.1.isNone)) = false := by rfl) :
    PE X (.Call (.Name x p) (e :: es) kw pos) (tMakeK C n (kws.map (·.1)).length sp (fun vs zs => vs ++ zs) E t tk) := pe_makeK d.mak G hr hg g d.kb hx ha hkw hall hks hdb he hpl
/-- f(e, ..) of such a def, the keyword left out; with it -/
theorem pcallD (d : DK X.K X.mg x st ps n kws) (G : FnOk X.prog X.w X.K X.mg X.base (L2.CX X.prog X.w) k d.f d.fd ps sp) (hr : Room k X.A) (hx : Passes (L2.CX X.prog X.w) X E) (ha : PA X (e :: es) t) (hg : Gl X x := by rfl) (hdb : (x == ("__debug__" : Str)) = false := by decide)
    (he : starEach (e :: es) X.env = (false, eval e X.env) :: starEach es X.env := by rfl) (hpl : (backTo pos (starEach es X.env)).any (·.1) = false := by rfl) : PE X (.Call (.Name x p) (e :: es) [] pos) (tCall sp (kws.map (·.2)) E t) :=
  pe_call G hr hg d.g d.F.kp d.b d.hdv hx ha hdb he hpl
theorem pcallD0 (d : DK X.K X.mg x st ps n kws) (G : FnOk X.prog X.w X.K X.mg X.base (L2.CX X.prog X.w) k d.f d.fd ps sp) (hr : Room k X.A) (hx : Passes (L2.CX X.prog X.w) X E) (hg : Gl X x := by rfl) (hdb : (x == ("__debug__" : Str)) = false := by decide) : PE X (.Call (.Name x p) [] [] pos) (tCall sp (kws.map (·.2)) E tNil) :=
  pe_call0 G hr hg d.g d.F.kp d.b d.hdv hx hdb
theorem pcallN (d : DK X.K X.mg x st ps n kws) (G : FnOk X.prog X.w X.K X.mg X.base (L2.CX X.prog X.w) k d.f d.fd ps sp) (hr : Room k X.A) (hx : Passes (L2.CX X.prog X.w) X E) (ha : PA X (e :: es) t) (hkw : PK X kw tk) (hg : Gl X x := by rfl) (hdb : (x == ("__debug__" : Str)) = false := by decide)
    (hall : (backToKw pos (keywordEach kw X.env)).all (·.1.isSome) = true := by rfl) (hks : (backToKw pos (keywordEach kw X.env)).filterMap (·.1) = kws.map (·.1) := by rfl)
    (he : starEach (e :: es) X.env = (false, eval e X.env) :: starEach es X.env := by rfl) (hpl : ((backTo pos (starEach (e :: es) X.env)).any (·.1) || (backToKw pos (keywordEach kw X.env)).any (·.1.isNone)) = false := by rfl) :
    PE X (.Call (.Name x p) (e :: es) kw pos) (tCallN n (kws.map (·.1)).length sp (fun vs zs => vs ++ zs) E t tk) := pe_callN G hr hg d.g d.F.kp d.kb hx ha hkw hall hks hdb he hpl
theorem pcallN0 (d : DK X.K X.mg x st ps 0 kws) (G : FnOk X.prog X.w X.K X.mg X.base (L2.CX X.prog X.w) k d.f d.fd ps sp) (hr : Room k X.A) (hx : Passes (L2.CX X.prog X.w) X E) (hkw : PK X kw tk) (hg : Gl X x := by rfl) (hdb : (x == ("__debug__" : Str)) = false := by decide)
    (hall : (backToKw pos (keywordEach kw X.env)).all (·.1.isSome) = true := by rfl) (hks : (backToKw pos (keywordEach kw X.env)).filterMap (·.1) = kws.map (·.1) := by rfl)
    (hpl : ((backTo pos (starEach [] X.env)).any (·.1) || (backToKw pos (keywordEach kw X.env)).any (·.1.isNone)) = false := by rfl) :
    PE X (.Call (.Name x p) [] kw pos) (tCallN 0 (kws.map (·.1)).length sp (fun vs zs => vs ++ zs) E tNil tk) := by
  refine ⟨fun pins s σ H Q I h => ?_⟩
  refine wpAny_Call_Name_kw (ld_glob I hg d.g ?_ hdb)
  refine PySem.W.callWith_KW0 (h₀ := X.base) I.ok.mod.kin d.F.kp hall ?_ hpl
  refine thn (hkw.run pos pins s σ H _ I h) fun ws s2 ⟨zs, H2, I2, rz, l1, l2, q2⟩ => ⟨I2.kIn, ?_⟩
  rw [hks]
  exact run_fnN (us := []) (vs := []) G hr d.kb hx I2 .nil rz rfl l2 q2
end
/-! readings by heads -/
section
variable {σ : L2.St} {H : Hp} {Q : VK} {E : XK} {sp : Sp} {C : Addr} {m : Str}
def rMeth (C : Addr) (m : Str) (sp : Sp) (t : TA) (σ : L2.St) (E : XK) (x : V) (H : Hp) (Q : VK) : Prop := ∃ a dx fs, x = .ref a ∧ H a = some (.ins C dx fs) ∧ fs.lookup m = none ∧ t σ H fun vs H2 => sp (x :: (vs ++ [])) H2 Q E
theorem x_meth {ta : TE} {t : TA} (h : ta σ H fun x H1 => rMeth C m sp t σ E x H1 Q) : tMeth C m sp [] E ta t σ H Q := h
theorem z_meth {t : TA} {a dx : Addr} {fs : List (Str × V)} (h : H a = some (.ins C dx fs)) (hl : fs.lookup m = none) (k : t σ H fun vs H2 => sp (.ref a :: vs) H2 Q E) : rMeth C m sp t σ E (.ref a) H Q := by
  refine ⟨a, dx, fs, rfl, h, hl, ?_⟩
  have e : (fun vs H2 => sp (V.ref a :: (vs ++ [])) H2 Q E) = (fun vs H2 => sp (V.ref a :: vs) H2 Q E) := by
    funext vs H2
    rw [List.append_nil]
  rw [e]
  exact k
def rMake (C : Addr) (sp : Sp) (dvs : List V) (E : XK) (vs : List V) (H : Hp) (Q : VK) : Prop := ∀ x dx, H x = none → H dx = none → dx ≠ x → sp (.ref x :: (vs ++ dvs)) (upd (upd H dx (.own x)) x (.ins C dx [])) (fun v H2 => v = .non ∧ Q (.ref x) H2) E
theorem x_make {dvs : List V} {t : TA} (h : t σ H fun vs H1 => rMake C sp dvs E vs H1 Q) : tMake C sp dvs E t σ H Q := h
def rMakeK (C : Addr) (n j : Nat) (sp : Sp) (E : XK) (vs zs : List V) (H : Hp) (Q : VK) : Prop := vs.length = n ∧ zs.length = j ∧ rMake C sp zs E vs H Q
theorem x_makeK' {n j : Nat} {t tk : TA} (h : t σ H fun vs H1 => tk σ H1 fun zs H2 => rMakeK C n j sp E vs zs H2 Q) : tMakeK C n j sp (fun vs zs => vs ++ zs) E t tk σ H Q := h
theorem z_makeK {n j : Nat} {vs zs : List V} (h1 : vs.length = n) (h2 : zs.length = j) (k : rMake C sp zs E vs H Q) : rMakeK C n j sp E vs zs H Q := ⟨h1, h2, k⟩
def rFld (K : PySem.W.Frag) (f : Str) (x : V) (H : Hp) (Q : VK) : Prop := ∃ a C dx fs v, x = .ref a ∧ H a = some (.ins C dx fs) ∧ Cls K C ∧ NoAttr K C f ∧ fs.lookup f = some v ∧ Q v H
theorem x_fld {K : PySem.W.Frag} {ta : TE} {f : Str} (h : ta σ H fun x H1 => rFld K f x H1 Q) : tFld K ta f σ H Q := h
theorem z_fld {K : PySem.W.Frag} {f : Str} {a dx : Addr} {fs : List (Str × V)} {v : V} (h : H a = some (.ins C dx fs)) (c : Cls K C) (n : NoAttr K C f) (hl : fs.lookup f = some v) (k : Q v H) : rFld K f (.ref a) H Q := ⟨a, C, dx, fs, v, rfl, h, c, n, hl, k⟩
def rSfld (K : PySem.W.Frag) (f : Str) (x y : V) (H : Hp) (P : Hp → Prop) : Prop := ∃ a C dx fs, x = .ref a ∧ H a = some (.ins C dx fs) ∧ Cls K C ∧ NoAttr K C f ∧ fs.length < 1000 ∧ P (upd H a (.ins C dx (putF f y fs)))
theorem x_sfld {K : PySem.W.Frag} {ta tv : TE} {f : Str} {D : Ends} (h : tv σ H fun y H1 => ta σ H1 fun x H2 => rSfld K f x y H2 fun H3 => D.nx σ H3) : sFld K ta tv f D σ H := h
theorem z_sfld {K : PySem.W.Frag} {f : Str} {a dx : Addr} {fs : List (Str × V)} {y : V} {P : Hp → Prop} (h : H a = some (.ins C dx fs)) (c : Cls K C) (n : NoAttr K C f) (hl : fs.length < 1000) (k : P (upd H a (.ins C dx (putF f y fs)))) : rSfld K f (.ref a) y H P := ⟨a, C, dx, fs, rfl, h, c, n, hl, k⟩
/-- the same, the fields told; what changed is x alone -/
theorem z_sfldC {K : PySem.W.Frag} {f : Str} {a dx : Addr} {fs : List (Str × V)} {y : V} {P : Hp → Prop} (gs : List (Str × V)) (h : H a = some (.ins C dx fs)) (c : Cls K C) (n : NoAttr K C f) (e : putF f y fs = gs) (k : ∀ H', Kp a H H' → H' a = some (.ins C dx gs) → (∀ b, H' b = none → H b = none) → P H') (hl : fs.length < 1000 := by exact Nat.le_of_ble_eq_true rfl) : rSfld K f (.ref a) y H P := by
  subst e
  exact z_sfld h c n hl (k _ Kp.set upd_same fun b hb => (upd_none hb).2)
def rCallN (n j : Nat) (sp : Sp) (E : XK) (vs zs : List V) (H : Hp) (Q : VK) : Prop := vs.length = n ∧ zs.length = j ∧ sp (vs ++ zs) H Q E
theorem x_callN {n j : Nat} {t tk : TA} (h : t σ H fun vs H1 => tk σ H1 fun zs H2 => rCallN n j sp E vs zs H2 Q) : tCallN n j sp (fun vs zs => vs ++ zs) E t tk σ H Q := h
theorem z_callN {n j : Nat} {vs zs : List V} (h1 : vs.length = n) (h2 : zs.length = j) (k : sp (vs ++ zs) H Q E) : rCallN n j sp E vs zs H Q := ⟨h1, h2, k⟩
theorem x_callD {dvs : List V} {t : TA} (h : t σ H fun vs H1 => sp (vs ++ dvs) H1 Q E) : tCall sp dvs E t σ H Q := h
end
/-! enumerate of a list -/
def rEnum (K : PySem.W.Frag) (vs : List V) (H : Hp) (R : It → Hp → Prop) : Prop := ∃ a xs, vs = [.ref a] ∧ SqL K H a xs ∧ R (Ite K a) H
theorem x_enum {K : PySem.W.Frag} {σ : L2.St} {H : Hp} {t : TA} {R : It → Hp → Prop} (h : t σ H fun vs H1 => rEnum K vs H1 R) : iEnum K t σ H R := h
theorem z_enum {K : PySem.W.Frag} {H : Hp} {p : Addr} {xs : List V} {R : It → Hp → Prop} (h1 : SqL K H p xs) (h : R (Ite K p) H) : rEnum K [.ref p] H R := ⟨p, xs, rfl, h1, h⟩
end R

/-! # N1: == and != by a class's own __eq__ -/
namespace PySem.W
open PySem PyProof.Rows
section
variable {prog : Program} {w : World} {A : Around} {E : Value → Shared → Prop} {s : Shared} {K : Frag} {x y C L f : Addr} {h₀ : Heap} {m : Str → Option Value} {ox oy : Obj} {od od' : Option Obj}
theorem ifBound_KB {M : Model} {name : Str} {id : String} {args : List Value} {Q : Option Value → Shared → Prop} (X : K.In s.heap) (I : InstAt s.heap x ox C od) (hs : findIn K (.ref C) name = some (some (.builtin id))) (hbind : ∀ self, bindSpecial (.builtin id) self = pure (.builtin id, [self]))
    (h : wpAny M A (call (.builtin id) (.ref x :: args)) (fun v => Q (some v)) E s) : wpAny M A (callSpecialIfBound? (.ref x) name args) Q E s := by
  simp only [callSpecialIfBound?, bindSpecialIfBound?]
  refine wpAny_holding (wpAny_bind (wpAny_bind (wpAny_bind (I.type.here ((looks_findIn X hs).here ?_)))))
  simp only [hbind]
  refine wpAny_bind (wpAny_askSetting (wpAny_ite ?_))
  have fin : wpAny M A (call (.builtin id) ([.ref x] ++ args) >>= fun v => pure (some v)) Q E s := wpAny_bind (wpAny_mono h (fun v s' h' => wpAny_pure h') fun _ _ h' => h')
  split
  · exact wpAny_bind (wpAny_pure (wpAny_pure fin))
  · exact wpAny_tryCatch (wpAny_bind (wpAny_pure (wpAny_pure fin)))
theorem ne_K {Q : Value → Shared → Prop} (hu : A.units + 1 < cLine) (Fq : Fr h₀ L s.heap m) (X₀ : K.In h₀) (I : InstAt s.heap x ox C od) (J : InstAt s.heap y oy C od')
    (hn : findIn K (.ref C) "__ne__" = some (some (.builtin "object.__ne__"))) (hs : findIn K (.ref C) "__eq__" = some (some (.ref f))) (hf : isFn K (.ref f) = true) (hp : plainOver K C = true)
    (h : wpAny (model prog w) A.in1 (call (.ref f) [.ref x, .ref y]) (fun v s' => ∃ b, v = .bool b ∧ Q (.bool (!b)) s') E s) : wpAny (model prog w) A (richCompare .NotEq (.ref x) (.ref y)) Q E s := by
  have X := X₀.keeps Fq.keep
  have sub : Looks (model prog w) s.heap (isInstance (.ref x) (.type "object")) true := by
    obtain ⟨cd, hc, ho⟩ := any_some hp
    have ne : cd.mro.isEmpty = false := by cases q : cd.mro with | nil => rw [q] at ho; cases ho | cons _ _ => rfl
    exact I.type.andThen (looks_mroIn X (by unfold mroIn; rw [hc, Option.bind_some, if_neg (by rw [ne]; decide), only_has ho]))
  have one : wpAny (model prog w) A (tryCompare (.ref x) (cmpInfo .NotEq).2.1 (.ref y)) (fun r s' => ∃ v, r = some v ∧ Q v s') E s := by
    unfold tryCompare
    refine wpAny_bind (ifBound_KB X I hn PySem.F.cmp_object.ne.bind ?_)
    refine wpAny_call (codeAny_call_builtin PySem.F.cmp_object.ne.plain PySem.F.cmpEntry_ne (@check_slot (model prog w) _ _ s "object.__ne__" "object" "__ne__" (.ref x) [.ref y] [] _ PySem.F.cmpKind_ne PySem.F.cmpSplit_ne sub (PySem.F.cmpArgs_ne _ _) ?_))
    unfold Builtin.«object.__ne__»
    obtain ⟨hp', g, d, t, os⟩ := s
    repeat (first
      | with_reducible refine wpAny_cRoomFor hu ?_
      | (refine wpAny_bind (m := callSpecialIfBound? (.ref x) (Str.ofString "__eq__") [.ref y])
          (ifBound_K X I hs hf (wpAny_mono h (fun r s' hr => by
            obtain ⟨b, rfl, hq⟩ := hr
            repeat (first | exact ⟨_, rfl, hq⟩ | exact hq | exact wpAny_pure hq | (refine wpAny_bind (m := truthy (.bool _)) (wpAny_truthy_bool ?_)) | wp_step)) fun _ _ e => e)))
      | wp_step)
  unfold richCompare
  simp only [oneThing_ref]
  refine wpAny_holding (wpAny_bind (wpAny_cRoomFor (Nat.lt_of_succ_lt hu) ?_))
  refine wpAny_bind (I.type.here (wpAny_bind (J.type.here ?_)))
  rw [show (Value.ref C != Value.ref C) = false from by simp]
  simp only [Bool.false_eq_true, if_false]
  refine wpAny_bind (wpAny_pure ?_)
  simp only [Bool.false_eq_true, if_false]
  refine wpAny_bind (wpAny_mono one (fun r s' z => ?_) fun _ _ e => e)
  obtain ⟨v, rfl, hq⟩ := z
  exact wpAny_pure hq
end
end PySem.W
namespace R
open PySem PySem.Spec PyProof.Rows L2
/-- x == y, x != y for two of the class at C -/
def rOwn (C : Addr) (sp : Sp) (E : XK) (g : Bool → Bool) : R2 := fun x y H Q => ∃ a b dx dy fs gs, x = .ref a ∧ y = .ref b ∧ H a = some (.ins C dx fs) ∧ H b = some (.ins C dy gs) ∧ sp [.ref a, .ref b] H (fun v H' => ∃ r, v = .bl r ∧ Q (.bl (g r)) H') E
section
variable {X : Cx} {C : Addr} {m qual : Str} {st : Stmt} {ps : List Str} {k : Nat} {sp : Sp} {E : XK}
theorem env0_in1 {P : Program} {w : World} {K : PySem.W.Frag} {mg : Str → Option Value} {base : Heap} {A : Around} {st : List Env} {s : Shared} {H : Hp} (e : Env0 P w K mg base A st s H) : Env0 P w K mg base A.in1 st s H := ⟨e.frames, e.mod, e.bs, e.bsz, e.funs, e.frf, e.hok, e.bare⟩
theorem own_run (d : MT X.K C m qual st ps) (G : FnOk X.prog X.w X.K X.mg X.base (L2.CX X.prog X.w) k d.f d.fd ps sp) {A : Around} (hr : Room k A) {pins : List (Addr × Obj)} {s : Shared} {σ : L2.St} {H : Hp} (I : Inv X pins σ H s) (e0 : Env0 X.prog X.w X.K X.mg X.base A X.stack s H) (hx : Passes (L2.CX X.prog X.w) X E)
    {a b : Addr} {Q : VK} {R : Value → Shared → Prop} (hsp : sp [.ref a, .ref b] H Q E) (hq : ∀ v u H' s', Inv X pins σ H' s' → RelV v u → Q v H' → R u s') : wpAny (model X.prog X.w) A (call (.ref d.f) [.ref a, .ref b]) R X.xe s := by
  have hl := G.len _ _ _ _ hsp
  have r2 : Vals [V.ref a, V.ref b] [Value.ref a, Value.ref b] := .cons rfl (.cons rfl .nil)
  refine wpAny_call (codeAny_mono (G.run A X.stack s H ⟨[.ref a, .ref b], []⟩ [.ref a, .ref b] [.ref a, .ref b] _ E hr e0 (by
    have := d.b s [.ref a, .ref b] I.kIn (by simpa using hl)
    simpa using this) r2 hsp) fun r s' z => ?_)
  cases r with
  | error e => exact hx pins σ H s e s' I z
  | ok fl =>
    cases fl with
    | ret w =>
      obtain ⟨v, H', I', rz, q⟩ := I.after z
      exact hq v w H' s' I' rz q
    | next => exact False.elim z
    | brk => exact False.elim z
    | cont => exact False.elim z
theorem op_ownEq (d : MT X.K C m qual st ps) (q : EQ X.K C d.f) (G : FnOk X.prog X.w X.K X.mg X.base (L2.CX X.prog X.w) k d.f d.fd ps sp) (hr : Room (k + 1) X.A) (hx : Passes (L2.CX X.prog X.w) X E) : OpR X (compareOp .Eq) (rOwn C sp E id) := by
  intro pins s σ H x y v u Q I rx ry h
  obtain ⟨a, b, dx, dy, fs, gs, rfl, rfl, ha, hb, hs⟩ := h
  cases rx
  cases ry
  obtain ⟨mA, J, _⟩ := ins_get I.hok ha
  obtain ⟨mB, J', _⟩ := ins_get I.hok hb
  obtain ⟨od, J, _⟩ := J.look
  obtain ⟨od', J', _⟩ := J'.look
  obtain ⟨m0, hF⟩ := I.fr
  show wpAny (model X.prog X.w) X.A (richCompare .Eq (.ref a) (.ref b)) (EP X pins σ Q) X.xe s
  refine PySem.W.cmp_K (op := .Eq) (tb := .ref C) hr.units0 hF I.ok.mod.kin J J'.type (by simp [PySem.W.notFirst]) q.eq q.fn ?_
  refine own_run d G (hr.mono (by omega)) I I.env0 hx hs fun v u H' s' I' r z => ?_
  obtain ⟨c, rfl, z⟩ := z
  cases r
  exact ⟨.bl c, H', I', rfl, z⟩
theorem op_ownNe (d : MT X.K C m qual st ps) (q : EQ X.K C d.f) (G : FnOk X.prog X.w X.K X.mg X.base (L2.CX X.prog X.w) k d.f d.fd ps sp) (hr : Room (k + 1) X.A) (hx : Passes (L2.CX X.prog X.w) X E) : OpR X (compareOp .NotEq) (rOwn C sp E not) := by
  intro pins s σ H x y v u Q I rx ry h
  obtain ⟨a, b, dx, dy, fs, gs, rfl, rfl, ha, hb, hs⟩ := h
  cases rx
  cases ry
  obtain ⟨mA, J, _⟩ := ins_get I.hok ha
  obtain ⟨mB, J', _⟩ := ins_get I.hok hb
  obtain ⟨od, J, _⟩ := J.look
  obtain ⟨od', J', _⟩ := J'.look
  obtain ⟨m0, hF⟩ := I.fr
  show wpAny (model X.prog X.w) X.A (richCompare .NotEq (.ref a) (.ref b)) (EP X pins σ Q) X.xe s
  refine PySem.W.ne_K (by have := hr.units; omega) hF I.ok.mod.kin J J' q.ne q.eq q.fn q.pl ?_
  refine own_run d G hr.in1 I (env0_in1 I.env0) hx hs fun v u H' s' I' r z => ?_
  obtain ⟨c, rfl, z⟩ := z
  cases r
  exact ⟨c, rfl, .bl (!c), H', I', rfl, z⟩
end
end R

/-! the text by places -/
namespace R
open PySem PySem.Spec PyProof.Rows L2
def top (i : Nat) : Stmt := PySem.Challenge.pw_rowring_k15_inverse_machines.main.body.getD i (.Pass ⟨0, 0, 0, 0⟩)
abbrev s__wall : Stmt := top 0
abbrev N__wall : List Str := ["k"]
abbrev P__wall : List Str := ["k"]
abbrev s_check_modulus : Stmt := top 9
abbrev N_check_modulus : List Str := ["modulus"]
abbrev P_check_modulus : List Str := ["modulus"]
abbrev s_all_digits : Stmt := top 10
abbrev N_all_digits : List Str := ["row", "modulus", "digit"]
abbrev P_all_digits : List Str := ["row", "modulus"]
abbrev s_check_row : Stmt := top 11
abbrev N_check_row : List Str := ["row", "modulus"]
abbrev P_check_row : List Str := ["row", "modulus"]
abbrev s_check_tables : Stmt := top 14
abbrev N_check_tables : List Str := ["modulus", "constants", "transitions", "start", "state", "constant", "targets", "target"]
abbrev P_check_tables : List Str := ["modulus", "constants", "transitions", "start"]
abbrev s_odometer : Stmt := top 16
abbrev N_odometer : List Str := ["modulus"]
abbrev P_odometer : List Str := ["modulus"]
abbrev s_invert : Stmt := top 18
abbrev N_invert : List Str := ["machine", "modulus", "added", "rows", "state", "targets", "digit", "constant"]
abbrev P_invert : List Str := ["machine"]
abbrev s_source : Stmt := top 20
abbrev N_source : List Str := ["_law_script", "_law_seed", "_law_cell"]
abbrev P_source : List Str := ["_law_script"]
abbrev s_draw : Stmt := top 21
abbrev N_draw : List Str := ["_law_rng", "_law_many", "_law_cell", "_law_got", "_law_seed"]
abbrev P_draw : List Str := ["_law_rng", "_law_many"]
abbrev s_pick : Stmt := top 22
abbrev N_pick : List Str := ["_law_rng", "_law_items"]
abbrev P_pick : List Str := ["_law_rng", "_law_items"]
abbrev s_same : Stmt := top 23
abbrev N_same : List Str := ["_law_found", "_law_due", "_law_one", "_law_other"]
abbrev P_same : List Str := ["_law_found", "_law_due"]
abbrev s_modulus : Stmt := top 24
abbrev N_modulus : List Str := ["_law_rng"]
abbrev P_modulus : List Str := ["_law_rng"]
abbrev s_row : Stmt := top 25
abbrev N_row : List Str := ["_law_rng", "_law_p", "_law_most", "_law_k"]
abbrev P_row : List Str := ["_law_rng", "_law_p", "_law_most"]
abbrev s_random_tables : Stmt := top 26
abbrev N_random_tables : List Str := ["_law_rng", "_law_p", "_law_most", "_law_many", "_law_adds", "_law_k", "_law_targets", "_law_digit"]
abbrev P_random_tables : List Str := ["_law_rng", "_law_p", "_law_most"]
abbrev s_lively_tables : Stmt := top 27
abbrev N_lively_tables : List Str := ["_law_rng", "_law_p", "_law_most", "_law_many", "_law_home", "_law_adds", "_law_k", "_law_targets", "_law_away", "_law_spot", "_law_onward", "_law_digit", "_law_turn"]
abbrev P_lively_tables : List Str := ["_law_rng", "_law_p", "_law_most"]
abbrev s_tables : Stmt := top 28
abbrev N_tables : List Str := ["_law_rng", "_law_p", "_law_most"]
abbrev P_tables : List Str := ["_law_rng", "_law_p", "_law_most"]
abbrev s_machine : Stmt := top 29
abbrev N_machine : List Str := ["_law_m"]
abbrev P_machine : List Str := ["_law_m"]
abbrev s_tables_of : Stmt := top 30
abbrev N_tables_of : List Str := ["_law_machine_here"]
abbrev P_tables_of : List Str := ["_law_machine_here"]
abbrev s_small_row : Stmt := top 31
abbrev N_small_row : List Str := ["_law_rng", "_law_p"]
abbrev P_small_row : List Str := ["_law_rng", "_law_p"]
abbrev s_inverse_tables : Stmt := top 32
abbrev N_inverse_tables : List Str := ["_law_m", "_law_targets", "_law_k", "_law_digit", "_law_add"]
abbrev P_inverse_tables : List Str := ["_law_m"]
abbrev s_law : Stmt := top 33
abbrev N_law : List Str := ["_law_script", "_law_rng", "_law_turn", "_law_m", "_law_machine_here", "_law_row_here", "_law_back", "_law_state"]
abbrev P_law : List Str := ["_law_script"]
abbrev s_Machine_init : Stmt := inClass (top 15) 0
abbrev N_Machine_init : List Str := ["self", "modulus", "constants", "transitions", "start", "row"]
abbrev P_Machine_init : List Str := ["self", "modulus", "constants", "transitions", "start"]
abbrev s_Machine_len : Stmt := inClass (top 15) 1
abbrev N_Machine_len : List Str := ["self"]
abbrev P_Machine_len : List Str := ["self"]
abbrev s_Machine_eq : Stmt := inClass (top 15) 2
abbrev N_Machine_eq : List Str := ["self", "other"]
abbrev P_Machine_eq : List Str := ["self", "other"]
abbrev s_Machine_repr : Stmt := inClass (top 15) 3
abbrev N_Machine_repr : List Str := ["self"]
abbrev P_Machine_repr : List Str := ["self"]
abbrev s_Machine_constants : Stmt := inClass (top 15) 4
abbrev N_Machine_constants : List Str := ["self"]
abbrev P_Machine_constants : List Str := ["self"]
abbrev s_Machine_transitions : Stmt := inClass (top 15) 5
abbrev N_Machine_transitions : List Str := ["self"]
abbrev P_Machine_transitions : List Str := ["self"]
abbrev s_Machine_write : Stmt := inClass (top 15) 6
abbrev N_Machine_write : List Str := ["self", "row", "state", "result", "digit"]
abbrev P_Machine_write : List Str := ["self", "row"]
abbrev s_Machine_check_state : Stmt := inClass (top 15) 8
abbrev N_Machine_check_state : List Str := ["self", "state"]
abbrev P_Machine_check_state : List Str := ["self", "state"]
abbrev s_Machine_from_state : Stmt := inClass (top 15) 9
abbrev N_Machine_from_state : List Str := ["self", "state"]
abbrev P_Machine_from_state : List Str := ["self", "state"]
theorem sc__wall : FnScope N__wall P__wall (defScope s__wall) := ⟨rfl, rfl, rfl, by decide +kernel, rfl, by decide +kernel, by decide +kernel⟩
theorem sc_check_modulus : FnScope N_check_modulus P_check_modulus (defScope s_check_modulus) := ⟨rfl, rfl, rfl, by decide +kernel, rfl, by decide +kernel, by decide +kernel⟩
theorem sc_all_digits : FnScope N_all_digits P_all_digits (defScope s_all_digits) := ⟨rfl, rfl, rfl, by decide +kernel, rfl, by decide +kernel, by decide +kernel⟩
theorem sc_check_row : FnScope N_check_row P_check_row (defScope s_check_row) := ⟨rfl, rfl, rfl, by decide +kernel, rfl, by decide +kernel, by decide +kernel⟩
theorem sc_check_tables : FnScope N_check_tables P_check_tables (defScope s_check_tables) := ⟨rfl, rfl, rfl, by decide +kernel, rfl, by decide +kernel, by decide +kernel⟩
theorem sc_odometer : FnScope N_odometer P_odometer (defScope s_odometer) := ⟨rfl, rfl, rfl, by decide +kernel, rfl, by decide +kernel, by decide +kernel⟩
theorem sc_invert : FnScope N_invert P_invert (defScope s_invert) := ⟨rfl, rfl, rfl, by decide +kernel, rfl, by decide +kernel, by decide +kernel⟩
theorem sc_source : FnScope N_source P_source (defScope s_source) := ⟨rfl, rfl, rfl, by decide +kernel, rfl, by decide +kernel, by decide +kernel⟩
theorem sc_draw : FnScope N_draw P_draw (defScope s_draw) := ⟨rfl, rfl, rfl, by decide +kernel, rfl, by decide +kernel, by decide +kernel⟩
theorem sc_pick : FnScope N_pick P_pick (defScope s_pick) := ⟨rfl, rfl, rfl, by decide +kernel, rfl, by decide +kernel, by decide +kernel⟩
theorem sc_same : FnScope N_same P_same (defScope s_same) := ⟨rfl, rfl, rfl, by decide +kernel, rfl, by decide +kernel, by decide +kernel⟩
theorem sc_modulus : FnScope N_modulus P_modulus (defScope s_modulus) := ⟨rfl, rfl, rfl, by decide +kernel, rfl, by decide +kernel, by decide +kernel⟩
theorem sc_row : FnScope N_row P_row (defScope s_row) := ⟨rfl, rfl, rfl, by decide +kernel, rfl, by decide +kernel, by decide +kernel⟩
theorem sc_random_tables : FnScope N_random_tables P_random_tables (defScope s_random_tables) := ⟨rfl, rfl, rfl, by decide +kernel, rfl, by decide +kernel, by decide +kernel⟩
theorem sc_lively_tables : FnScope N_lively_tables P_lively_tables (defScope s_lively_tables) := ⟨rfl, rfl, rfl, by decide +kernel, rfl, by decide +kernel, by decide +kernel⟩
theorem sc_tables : FnScope N_tables P_tables (defScope s_tables) := ⟨rfl, rfl, rfl, by decide +kernel, rfl, by decide +kernel, by decide +kernel⟩
theorem sc_machine : FnScope N_machine P_machine (defScope s_machine) := ⟨rfl, rfl, rfl, by decide +kernel, rfl, by decide +kernel, by decide +kernel⟩
theorem sc_tables_of : FnScope N_tables_of P_tables_of (defScope s_tables_of) := ⟨rfl, rfl, rfl, by decide +kernel, rfl, by decide +kernel, by decide +kernel⟩
theorem sc_small_row : FnScope N_small_row P_small_row (defScope s_small_row) := ⟨rfl, rfl, rfl, by decide +kernel, rfl, by decide +kernel, by decide +kernel⟩
theorem sc_inverse_tables : FnScope N_inverse_tables P_inverse_tables (defScope s_inverse_tables) := ⟨rfl, rfl, rfl, by decide +kernel, rfl, by decide +kernel, by decide +kernel⟩
theorem sc_law : FnScope N_law P_law (defScope s_law) := ⟨rfl, rfl, rfl, by decide +kernel, rfl, by decide +kernel, by decide +kernel⟩
theorem sc_Machine_init : FnScope N_Machine_init P_Machine_init (defScope s_Machine_init) := ⟨rfl, rfl, rfl, by decide +kernel, rfl, by decide +kernel, by decide +kernel⟩
theorem sc_Machine_len : FnScope N_Machine_len P_Machine_len (defScope s_Machine_len) := ⟨rfl, rfl, rfl, by decide +kernel, rfl, by decide +kernel, by decide +kernel⟩
theorem sc_Machine_eq : FnScope N_Machine_eq P_Machine_eq (defScope s_Machine_eq) := ⟨rfl, rfl, rfl, by decide +kernel, rfl, by decide +kernel, by decide +kernel⟩
theorem sc_Machine_repr : FnScope N_Machine_repr P_Machine_repr (defScope s_Machine_repr) := ⟨rfl, rfl, rfl, by decide +kernel, rfl, by decide +kernel, by decide +kernel⟩
theorem sc_Machine_constants : FnScope N_Machine_constants P_Machine_constants (defScope s_Machine_constants) := ⟨rfl, rfl, rfl, by decide +kernel, rfl, by decide +kernel, by decide +kernel⟩
theorem sc_Machine_transitions : FnScope N_Machine_transitions P_Machine_transitions (defScope s_Machine_transitions) := ⟨rfl, rfl, rfl, by decide +kernel, rfl, by decide +kernel, by decide +kernel⟩
theorem sc_Machine_write : FnScope N_Machine_write P_Machine_write (defScope s_Machine_write) := ⟨rfl, rfl, rfl, by decide +kernel, rfl, by decide +kernel, by decide +kernel⟩
theorem sc_Machine_check_state : FnScope N_Machine_check_state P_Machine_check_state (defScope s_Machine_check_state) := ⟨rfl, rfl, rfl, by decide +kernel, rfl, by decide +kernel, by decide +kernel⟩
theorem sc_Machine_from_state : FnScope N_Machine_from_state P_Machine_from_state (defScope s_Machine_from_state) := ⟨rfl, rfl, rfl, by decide +kernel, rfl, by decide +kernel, by decide +kernel⟩
structure Txt (K : PySem.W.Frag) (mg : Str → Option Value) where
  b_all : mg "all" = none
  b_bool : mg "bool" = none
  b_enumerate : mg "enumerate" = none
  b_int : mg "int" = none
  b_isinstance : mg "isinstance" = none
  b_len : mg "len" = none
  b_list : mg "list" = none
  b_range : mg "range" = none
  b_str : mg "str" = none
  b_tuple : mg "tuple" = none
  b_zip : mg "zip" = none
  a_MODULI : Addr
  c_MODULI : GV mg "MODULI" (.ref a_MODULI)
  t_MODULI : ∀ H, SqT K H a_MODULI [.int 2, .int 3, .int 5]
  c_MAX_DIGITS : GV mg "MAX_DIGITS" (.int 80)
  c_MAX_STATES : GV mg "MAX_STATES" (.int 40)
  e_InvalidModulus : EX K mg "InvalidModulus" "InvalidModulus.__init__" (top 3) ["self"]
  e_InvalidRow : EX K mg "InvalidRow" "InvalidRow.__init__" (top 4) ["self"]
  e_InvalidMachine : EX K mg "InvalidMachine" "InvalidMachine.__init__" (top 5) ["self", "state"]
  _wall : DF K mg "_wall" s__wall P__wall
  check_modulus : DF K mg "check_modulus" s_check_modulus P_check_modulus
  all_digits : DF K mg "all_digits" s_all_digits P_all_digits
  check_row : DF K mg "check_row" s_check_row P_check_row
  check_tables : DF K mg "check_tables" s_check_tables P_check_tables
  odometer : DK K mg "odometer" s_odometer P_odometer 0 [("modulus", .int 2)]
  invert : DF K mg "invert" s_invert P_invert
  source : DF K mg "_law_source" s_source P_source
  draw : DF K mg "_law_draw" s_draw P_draw
  pick : DF K mg "_law_pick" s_pick P_pick
  same : DF K mg "_law_same" s_same P_same
  modulus : DF K mg "_law_modulus" s_modulus P_modulus
  row : DF K mg "_law_row" s_row P_row
  random_tables : DF K mg "_law_random_tables" s_random_tables P_random_tables
  lively_tables : DF K mg "_law_lively_tables" s_lively_tables P_lively_tables
  tables : DF K mg "_law_tables" s_tables P_tables
  machine : DF K mg "_law_machine" s_machine P_machine
  tables_of : DF K mg "_law_tables_of" s_tables_of P_tables_of
  small_row : DF K mg "_law_small_row" s_small_row P_small_row
  inverse_tables : DF K mg "_law_inverse_tables" s_inverse_tables P_inverse_tables
  law : DF K mg "law" s_law P_law
  k_Machine : CK K mg "Machine" ["modulus", "start", "added", "targets"]
  i_Machine : IK K k_Machine.C "Machine.__init__" s_Machine_init P_Machine_init 4 [("start", .int 0)]
  m_Machine_len : MT K k_Machine.C "__len__" "Machine.__len__" s_Machine_len P_Machine_len
  m_Machine_eq : MT K k_Machine.C "__eq__" "Machine.__eq__" s_Machine_eq P_Machine_eq
  m_Machine_repr : MT K k_Machine.C "__repr__" "Machine.__repr__" s_Machine_repr P_Machine_repr
  m_Machine_constants : MT K k_Machine.C "constants" "Machine.constants" s_Machine_constants P_Machine_constants
  m_Machine_transitions : MT K k_Machine.C "transitions" "Machine.transitions" s_Machine_transitions P_Machine_transitions
  m_Machine_write : MT K k_Machine.C "write" "Machine.write" s_Machine_write P_Machine_write
  m_Machine_check_state : MT K k_Machine.C "check_state" "Machine.check_state" s_Machine_check_state P_Machine_check_state
  m_Machine_from_state : MT K k_Machine.C "from_state" "Machine.from_state" s_Machine_from_state P_Machine_from_state
  q_Machine : EQ K k_Machine.C m_Machine_eq.f
end R

/-! the errors of the text -/
namespace R
open PySem PySem.Spec PyProof.Rows L2
section
variable {P : Program} {w : World} {K : PySem.W.Frag} {mg : Str → Option Value} {base : Heap}
theorem sci_InvalidModulus : FnScope ["self"] ["self"] (defScope (inClass (top 3) 0)) := ⟨rfl, rfl, rfl, by decide +kernel, rfl, by decide +kernel, by decide +kernel⟩
def sp_InvalidModulus (T : Txt K mg) : Sp := spErr T.e_InvalidModulus.C (fun ws => [("tag", .str "InvalidModulus")]) 0
theorem ei_InvalidModulus (T : Txt K mg) : FnOk P w K mg base (L2.CX P w) 1 T.e_InvalidModulus.fI T.e_InvalidModulus.fd ["self"] (sp_InvalidModulus T) := by
  refine T.e_InvalidModulus.F.okX sci_InvalidModulus (fun vs H Q E h => ?_) (fun cdv A outer s H vs Q E hr h => ?_)
  · obtain ⟨a, ws, rfl, hn, _⟩ := h
    show ws.length + 1 = 1
    omega
  · obtain ⟨a, ws, rfl, hn, ha, k⟩ := h
    obtain rfl : ws = [] := List.length_eq_zero_iff.mp hn
    refine ⟨_, pss_one (ps_ost (pv 0) pe_str), ?_⟩
    refine ⟨_, rfl, ei_end (C := T.e_InvalidModulus.C) (Q := Q) T.e_InvalidModulus.cls (T.e_InvalidModulus.no _ (by decide +kernel)) ha fun dx nd ne => ?_⟩
    exact k dx _ nd upd_same ((upd_ne ne).trans upd_same) fun b o e nb => (upd_ne nb).trans ((upd_ne (ne_of_none e nd)).trans e)
theorem sci_InvalidRow : FnScope ["self"] ["self"] (defScope (inClass (top 4) 0)) := ⟨rfl, rfl, rfl, by decide +kernel, rfl, by decide +kernel, by decide +kernel⟩
def sp_InvalidRow (T : Txt K mg) : Sp := spErr T.e_InvalidRow.C (fun ws => [("tag", .str "InvalidRow")]) 0
theorem ei_InvalidRow (T : Txt K mg) : FnOk P w K mg base (L2.CX P w) 1 T.e_InvalidRow.fI T.e_InvalidRow.fd ["self"] (sp_InvalidRow T) := by
  refine T.e_InvalidRow.F.okX sci_InvalidRow (fun vs H Q E h => ?_) (fun cdv A outer s H vs Q E hr h => ?_)
  · obtain ⟨a, ws, rfl, hn, _⟩ := h
    show ws.length + 1 = 1
    omega
  · obtain ⟨a, ws, rfl, hn, ha, k⟩ := h
    obtain rfl : ws = [] := List.length_eq_zero_iff.mp hn
    refine ⟨_, pss_one (ps_ost (pv 0) pe_str), ?_⟩
    refine ⟨_, rfl, ei_end (C := T.e_InvalidRow.C) (Q := Q) T.e_InvalidRow.cls (T.e_InvalidRow.no _ (by decide +kernel)) ha fun dx nd ne => ?_⟩
    exact k dx _ nd upd_same ((upd_ne ne).trans upd_same) fun b o e nb => (upd_ne nb).trans ((upd_ne (ne_of_none e nd)).trans e)
theorem sci_InvalidMachine : FnScope ["self", "state"] ["self", "state"] (defScope (inClass (top 5) 0)) := ⟨rfl, rfl, rfl, by decide +kernel, rfl, by decide +kernel, by decide +kernel⟩
def sp_InvalidMachine (T : Txt K mg) : Sp := spErr T.e_InvalidMachine.C (fun ws => (match ws with | [v] => [("state", v), ("tag", .str "InvalidMachine")] | _ => [])) 1
theorem ei_InvalidMachine (T : Txt K mg) : FnOk P w K mg base (L2.CX P w) 1 T.e_InvalidMachine.fI T.e_InvalidMachine.fd ["self", "state"] (sp_InvalidMachine T) := by
  refine T.e_InvalidMachine.F.okX sci_InvalidMachine (fun vs H Q E h => ?_) (fun cdv A outer s H vs Q E hr h => ?_)
  · obtain ⟨a, ws, rfl, hn, _⟩ := h
    show ws.length + 1 = 2
    omega
  · obtain ⟨a, ws, rfl, hn, ha, k⟩ := h
    obtain ⟨v, rfl⟩ := List.length_eq_one_iff.mp hn
    refine ⟨_, pss_cons (ps_ost (pv 0) pe_str) (pss_one (ps_ost (pv 0) (pv 1))), ?_⟩
    refine ⟨_, rfl, ei_end (C := T.e_InvalidMachine.C) (Q := Q) T.e_InvalidMachine.cls (T.e_InvalidMachine.no _ (by decide +kernel)) ha fun dx nd ne => ?_⟩
    refine ⟨_, rfl, _, rfl, a, T.e_InvalidMachine.C, rfl, T.e_InvalidMachine.cls, T.e_InvalidMachine.no _ (by decide +kernel), .inr ⟨dx, _, upd_same, (upd_ne ne).trans upd_same, by decide, ?_⟩⟩
    exact k dx _ nd ((upd_ne (Ne.symm ne)).trans upd_same) upd_same fun b o e nb => (upd_ne (ne_of_none e nd)).trans ((upd_ne nb).trans ((upd_ne (ne_of_none e nd)).trans e))
end
end R

/-! # S: the reading's steps as one word, "sx"; facts of the heap, "hp"; addresses apart, "ne" -/
local macro_rules | `(tactic| walk_at "ne") => `(tactic| with_reducible first
  | assumption
  | (apply Ne.symm; assumption)
  | (apply R.ne_none; assumption; walk_at "hp")
  | (apply Ne.symm; apply R.ne_none; assumption; walk_at "hp"))
local macro_rules | `(tactic| walk_at "hp") => `(tactic| with_reducible first
  | assumption
  | exact L2.upd_same
  | (apply R.ne_at; (walk_at "ne"); walk_at "hp")
  | (apply R.ex_at; assumption; walk_at "hp")
  | (apply R.kp_at; assumption; (walk_at "hp"); walk_at "ne"))
local macro_rules | `(tactic| walk_at "sl") => `(tactic| with_reducible first
  | assumption
  | (apply R.sq_of; walk_at "hp")
  | (apply R.sq_ex; assumption; walk_at "sl")
  | (apply R.sq_ex; (apply R.Ex.new; assumption); walk_at "sl")
  | (apply R.sq_kp; assumption; (walk_at "sl"); walk_at "ne"))
local macro_rules | `(tactic| walk_at "st") => `(tactic| with_reducible first
  | assumption
  | (apply R.st_of; walk_at "hp")
  | (apply R.st_ex; assumption; walk_at "st")
  | (apply R.st_ex; (apply R.Ex.new; assumption); walk_at "st")
  | (apply R.st_kp; assumption; (walk_at "st"); walk_at "ne"))
local macro_rules | `(tactic| walk_at "sq") => `(tactic| with_reducible first
  | assumption
  | (apply R.sq_l; walk_at "sl")
  | (apply R.sq_t; walk_at "st")
  | (apply R.Sq.ex; assumption; walk_at "sq")
  | (apply R.Sq.ex; (apply R.Ex.new; assumption); walk_at "sq"))
local macro_rules | `(tactic| walk_at "sx") => `(tactic| repeat (first
  | with_reducible refine R.x_seq ?_
  | with_reducible refine L2.iteT ?_
  | with_reducible refine L2.iteF ?_
  | with_reducible refine R.x_cut ?_
  | with_reducible refine R.x_asg ?_
  | with_reducible refine R.x_ifS ?_
  | with_reducible refine R.x_ret ?_
  | with_reducible refine R.x_drop ?_
  | with_reducible refine R.x_for ?_
  | with_reducible refine R.x_par ?_
  | with_reducible refine R.x_two ?_
  | with_reducible refine R.x_next ?_
  | with_reducible refine R.x_c ?_
  | ((with_reducible apply R.x_var); rfl)
  | with_reducible refine R.x_op ?_
  | with_reducible refine R.x_un ?_
  | with_reducible refine R.x_cons ?_
  | with_reducible refine R.x_nil ?_
  | with_reducible refine R.x_call ?_
  | with_reducible refine R.x_callD ?_
  | with_reducible refine R.x_cb ?_
  | with_reducible refine R.x_tup ?_
  | with_reducible refine R.x_lst ?_
  | with_reducible refine R.x_if ?_
  | with_reducible refine R.x_test ?_
  | with_reducible refine R.x_tB ?_
  | with_reducible refine R.x_bl ?_
  | with_reducible refine R.x_and ?_
  | with_reducible refine R.x_or ?_
  | with_reducible refine R.x_not ?_
  | with_reducible refine R.x_andV ?_
  | with_reducible refine R.x_orV ?_
  | with_reducible refine R.x_notV ?_
  | with_reducible refine R.x_sl ?_
  | with_reducible refine R.x_nopart ?_
  | with_reducible refine R.x_part ?_
  | with_reducible refine R.x_int ?_
  | with_reducible refine R.x_s ?_
  | with_reducible refine R.x_r1 ?_
  | with_reducible refine R.x_r2 ?_
  | with_reducible refine R.x_bm ?_
  | with_reducible refine R.x_bm0 ?_
  | with_reducible refine R.x_sub ?_
  | with_reducible refine R.x_gcons ?_
  | with_reducible refine R.x_gnil ?_
  | ((with_reducible apply R.x_name); (first | (simp only [List.set_cons_succ, List.set_cons_zero]; done) | (simp only [List.set_cons_succ, List.set_cons_zero]; exact rfl) | exact rfl))
  | with_reducible refine R.z_addI ?_
  | with_reducible refine R.z_sub ?_
  | with_reducible refine R.z_neg ?_
  | with_reducible refine R.z_intI ?_
  | with_reducible refine R.z_intB ?_
  | with_reducible refine R.z_strS ?_
  | with_reducible refine R.z_abs ?_
  | ((with_reducible refine R.z_mod ?_ ?_); omega)
  | ((with_reducible refine R.z_div ?_ ?_ ?_); omega; omega)
  | ((with_reducible refine R.z_mulR ?_ ?_); omega)
  | ((with_reducible refine R.z_mulL ?_ ?_); omega)
  | with_reducible refine R.z_lt ?_
  | with_reducible refine R.z_le ?_
  | with_reducible refine R.z_gt ?_
  | with_reducible refine R.z_ge ?_
  | with_reducible refine R.z_eqI ?_
  | with_reducible refine R.z_eqS ?_
  | with_reducible refine R.z_eqB ?_
  | with_reducible refine R.z_neI ?_
  | with_reducible refine R.z_neS ?_
  | with_reducible refine R.z_neB ?_
  | with_reducible refine R.x_lc ?_
  | with_reducible refine R.x_m1 ?_
  | with_reducible refine R.x_isstr ?_
  | with_reducible refine R.x_chain ?_
  | with_reducible refine R.x_meth ?_
  | with_reducible refine R.x_make ?_
  | with_reducible refine R.x_makeK' ?_
  | with_reducible refine R.x_fld ?_
  | with_reducible refine R.x_sfld ?_
  | with_reducible refine R.x_callN ?_
  | with_reducible refine R.x_rs ?_
  | with_reducible refine R.x_enum ?_
  | with_reducible refine R.x_yes ?_
  | with_reducible refine R.x_zip ?_
  | with_reducible refine R.y_yesV ?_
  | with_reducible refine R.y_ff ?_
  | with_reducible refine R.y_tx ?_
  | with_reducible refine R.y_ft ?_
  | with_reducible refine R.y_nt ?_
  | with_reducible refine R.y_nf ?_
  | with_reducible refine R.y_dyes ?_
  | with_reducible refine R.y_dno ?_
  | ((with_reducible refine R.y_noV ?_ ?_); focus (intro q; cases q; done))
  | with_reducible refine R.z_is ?_
  | with_reducible refine R.z_isnot ?_))
local macro_rules | `(tactic| walk_at "ki") => `(tactic| first
  | exact R.ki_bool_list
  | exact R.ki_bool_tuple
  | exact R.ki_bool_bool
  | exact R.ki_bool_int
  | exact R.ki_bool_str
  | exact R.ki_int_list
  | exact R.ki_int_tuple
  | exact R.ki_int_bool
  | exact R.ki_int_int
  | exact R.ki_int_str
  | exact R.ki_str_list
  | exact R.ki_str_tuple
  | exact R.ki_str_bool
  | exact R.ki_str_int
  | exact R.ki_str_str
  | exact R.ki_list_list
  | exact R.ki_list_tuple
  | exact R.ki_list_bool
  | exact R.ki_list_int
  | exact R.ki_list_str
  | exact R.ki_tuple_list
  | exact R.ki_tuple_tuple
  | exact R.ki_tuple_bool
  | exact R.ki_tuple_int
  | exact R.ki_tuple_str
  | exact R.ki_NoneType_list
  | exact R.ki_NoneType_tuple
  | exact R.ki_NoneType_bool
  | exact R.ki_NoneType_int
  | exact R.ki_NoneType_str)
local macro_rules | `(tactic| walk_at "isi") => `(tactic| ((with_reducible apply R.z_isi); (walk_at "ty"); (walk_at "ki")))
local macro_rules | `(tactic| walk_at "ty") => `(tactic| first
  | exact L2.TyX.base (L2.TyOf.bl _)
  | exact L2.TyX.base (L2.TyOf.int _)
  | exact L2.TyX.base (L2.TyOf.str _)
  | exact L2.TyX.base L2.TyOf.non
  | (apply R.tyx_l; walk_at "sl")
  | (apply R.tyx_t; walk_at "st"))

/-! # D1: the law's draws -/
namespace R
open PySem PySem.Spec PyProof.Rows L2
/-- the law's source of numbers stands at r, the script's part at l -/
def Rng (H : Hp) (r l : Addr) : Prop := ∃ (ns : List Int) (i c s : Int), H r = some (.lst [.ref l, .int i, .int c, .int s]) ∧ H l = some (.lst (ns.map V.int)) ∧ l ≠ r ∧ ns.length ≤ 63 ∧ 0 ≤ i ∧ 0 ≤ c ∧ 0 ≤ s ∧ s < 2147483563
theorem Rng.ex {H H' : Hp} {r l : Addr} (h : Rng H r l) (e : Ex H H') : Rng H' r l := by
  obtain ⟨ns, i, c, s, h1, h2, h3⟩ := h
  exact ⟨ns, i, c, s, e _ _ h1, e _ _ h2, h3⟩
theorem Rng.kp {H H' : Hp} {r l q : Addr} (h : Rng H r l) (e : Kp q H H') (n : q ≠ r) (m : q ≠ l) : Rng H' r l := by
  obtain ⟨ns, i, c, s, h1, h2, h3⟩ := h
  exact ⟨ns, i, c, s, e _ _ h1 (Ne.symm n), e _ _ h2 (Ne.symm m), h3⟩
theorem Rng.upd {H : Hp} {r l q : Addr} {o : HO} (h : Rng H r l) (n : q ≠ r) (m : q ≠ l) : Rng (upd H q o) r l := h.kp Kp.set n m
theorem Rng.ne {H : Hp} {r l p : Addr} (h : Rng H r l) (n : H p = none) : p ≠ r := by
  obtain ⟨ns, i, c, s, h1, h2, h3⟩ := h
  exact Ne.symm (ne_of_none h1 n)
theorem Rng.nel {H : Hp} {r l p : Addr} (h : Rng H r l) (n : H p = none) : p ≠ l := by
  obtain ⟨ns, i, c, s, h1, h2, h3⟩ := h
  exact Ne.symm (ne_of_none h2 n)
def spSource (K : PySem.W.Frag) : Sp := fun vs H Q _ => ∃ (a : Addr) (ns : List Int), vs = [.ref a] ∧ SqL K H a (ns.map V.int) ∧ ∀ (H' : Hp) (r l : Addr), Ex H H' → H r = none → H l = none → Rng H' r l → Q (.ref r) H'
def spDraw : Sp := fun vs H Q _ => ∃ (r l : Addr) (m : Int), vs = [.ref r, .int m] ∧ Rng H r l ∧ 0 < m ∧ m < 2 ^ 200 ∧ ∀ (n : Int) (H' : Hp), 0 ≤ n → n < m → Kp r H H' → Rng H' r l → Q (.int n) H'
theorem cut63 (ns : List Int) : ∃ ms : List Int, cutV (ns.map V.int) none (some 63) = ms.map V.int ∧ ms.length ≤ 63 := by
  refine ⟨(ns.drop (HT.sIx (ns.map V.int).length 0 none)).take (HT.sIx (ns.map V.int).length (ns.map V.int).length (some 63) - HT.sIx (ns.map V.int).length 0 none), ?_, ?_⟩
  · unfold cutV
    rw [List.map_take, List.map_drop]
  · rw [List.length_take]
    have : HT.sIx (ns.map V.int).length (ns.map V.int).length (some 63) ≤ 63 := by
      unfold HT.sIx
      simp only [Option.getD_some]
      try split
      all_goals omega
    omega
theorem atN {α : Type} {xs : List α} {i : Int} (h0 : 0 ≤ i) (h1 : i < (xs.length : Int)) : ∃ v, xs[i.toNat]? = some v ∧ atI xs i = some v := by
  have h2 : i.toNat < xs.length := by omega
  refine ⟨xs[i.toNat], List.getElem?_eq_getElem h2, ?_⟩
  have e : ((i.toNat : Nat) : Int) = i := by omega
  have q := atI_nat (List.getElem?_eq_getElem h2)
  rw [e] at q
  exact q
theorem atM {xs : List V} {i : Int} (h0 : 0 ≤ i) (h1 : i < (xs.length : Int)) : ∃ v, v ∈ xs ∧ atI xs i = some v := by
  obtain ⟨v, h2, h3⟩ := atN h0 h1
  exact ⟨v, List.mem_of_getElem? h2, h3⟩
section
variable {P : Program} {w : World} {K : PySem.W.Frag} {mg : Str → Option Value} {base : Heap}
theorem ok_source (T : Txt K mg) : Ok P w K mg base 2 T.source (spSource K) := by
  refine ok_of T.source sc_source (fun vs H Q E h => ?_) (fun cdv A outer s H vs Q E hr h => ?_)
  · obtain ⟨a, ns, rfl, _⟩ := h
    rfl
  · obtain ⟨a, ns, rfl, hS, k⟩ := h
    refine ⟨_, ((pss_cons (ps_set (i := 1) sc_source.nd rfl (by first | exact Or.inl rfl | exact Or.inr rfl) (pe_op op_sAdd pe_int (pe_callB call_sLen (by rfl) T.b_len (by decide +kernel) (pa_cons (pe_slice sl_s (pv 0) po_none (po_some pe_int)) pa_nil))))
  (pss_cons (ps_for ownE rfl (pi_s (pe_slice sl_s (pv 0) po_none (po_some pe_int))) (pg_name (i := 2) sc_source.nd rfl (by first | exact Or.inl rfl | exact Or.inr rfl))
  (pss_one (ps_set (i := 1) sc_source.nd rfl (by first | exact Or.inl rfl | exact Or.inr rfl) (pe_op op_sMod (pe_op op_sAdd (pe_op op_sAdd (pe_op op_sMul (pv 1) pe_int) (pe_op op_sMod (pv 2) pe_int)) pe_int) pe_int))))
  (pss_one (ps_ret (pe_lst (pa_cons (pe_callTy call_sList (by rfl) T.b_list (by decide +kernel) (pa_cons (pe_slice sl_s (pv 0) po_none (po_some pe_int)) pa_nil)) (pa_cons pe_int (pa_cons pe_int (pa_cons (pv 1) pa_nil)))))))))), ?_⟩
    refine go [some (.ref a), none, none] rfl ?_
    try dsimp only [L2.cxOf]
    walk_at "sx"
    refine z_slL (by walk_at "sl") fun p1 n1 => ?_
    obtain ⟨ms, e1, hms⟩ := cut63 ns
    rw [e1]
    have E1 := Ex.new (o := .lst (ms.map V.int)) n1
    walk_at "sx"
    refine z_len (by walk_at "sq") ?_
    walk_at "sx"
    refine z_slL (by walk_at "sl") fun p2 n2 => ?_
    rw [e1]
    walk_at "sx"
    have E2 := Ex.new (o := .lst (ms.map V.int)) n2
    refine z_sL (sq_of upd_same) ?_
    refine for_list (K := K) (a := p2) (xs := ms.map V.int) (fun i σ H' => ∃ (s : Int) (v : Option V), σ = [some (.ref a), some (.int s), v] ∧ Ex (upd (upd H p1 (.lst (ms.map V.int))) p2 (.lst (ms.map V.int))) H' ∧ 0 ≤ s ∧ s < 2147483563)
      ⟨_, none, rfl, Same.refl _, by omega, by rw [List.length_map]; omega⟩ (fun i σ H' _ ⟨_, _, _, e2, _⟩ => sq_of (e2 _ _ upd_same)) ?_ ?_
    · rintro i y σ H' hi ⟨s, v, rfl, e2, h0, h1⟩
      obtain ⟨z, rfl⟩ : ∃ z, y = V.int z := by
        rw [List.getElem?_map] at hi
        cases q : ms[i]? with
        | none => rw [q] at hi; cases hi
        | some z => rw [q] at hi; exact ⟨z, (Option.some.inj hi).symm⟩
      walk_at "sx"
      exact ⟨_, _, rfl, e2, Int.emod_nonneg _ (by decide), Int.emod_lt_of_pos _ (by decide)⟩
    · rintro σ H' ⟨s, v, rfl, e2, h0, h1⟩
      walk_at "sx"
      refine z_slL (by walk_at "sl") fun p3 n3 => ?_
      rw [e1]
      walk_at "sx"
      refine z_list (sq_l (sq_of upd_same)) fun p4 n4 => ?_
      walk_at "sx"
      refine z_lst fun p5 n5 => ?_
      have a1 := upd_none n4
      have a2 := upd_none n5
      have a3 := upd_none a2.2
      refine k _ p5 p4 ?_ ?_ ?_ ⟨ms, 0, 0, s, upd_same, ?_, Ne.symm a2.1, hms, by decide, by decide, h0, h1⟩
      · exact ((((E1.trans E2).trans e2).trans (Ex.new n3)).trans (Ex.new n4)).trans (Ex.new n5)
      · exact E1.none (E2.none (e2.none a3.2))
      · exact E1.none (E2.none (e2.none a1.2))
      · rw [upd_ne (Ne.symm a2.1)]
        exact upd_same
theorem ok_draw (T : Txt K mg) : Ok P w K mg base 1 T.draw spDraw := by
  refine ok_of T.draw sc_draw (fun vs H Q E h => ?_) (fun cdv A outer s H vs Q E hr h => ?_)
  · obtain ⟨r, l, m, rfl, _⟩ := h
    rfl
  · obtain ⟨r, l, m, rfl, ⟨ns, i, c, sd, h1, h2, nlr, hl, hi, hc, hs0, hs1⟩, hm, hm2, k⟩ := h
    refine ⟨_, ((C8.pss_cut (ps_if (PW.pt (pw_and (pt_cmpR (op_sEq hr.units) (pe_ix ix_s (pv 0) pe_int (fun _ _ => rfl)) pe_int (nomark _)) (pw_and1 (pt_cmpR op_sLt (pe_ix ix_s (pv 0) pe_int (fun _ _ => rfl)) (pe_callB call_sLen (by rfl) T.b_len (by decide +kernel) (pa_cons (pe_ix ix_s (pv 0) pe_int (fun _ _ => rfl)) pa_nil)) (nomark _)))))
  (pss_cons (ps_set (i := 2) sc_draw.nd rfl (by first | exact Or.inl rfl | exact Or.inr rfl) (pe_ix ix_s (pe_ix ix_s (pv 0) pe_int (fun _ _ => rfl)) (pe_ix ix_s (pv 0) pe_int (fun _ _ => rfl)) (fun _ _ => rfl)))
  (pss_cons (ps_asg (pe_op op_sAdd (pe_ix ix_s (pv 0) pe_int (fun _ _ => rfl)) pe_int) (pg_sub (pv 0) pe_int set_list))
  (pss_one (ps_if (pt_cmpR op_sGe (pv 2) (pe_op op_sPow pe_int pe_int) (nomark _))
  (pss_one (ps_asg (pv 2) (pg_sub (pv 0) pe_int set_list)))
  (pss_one (ps_asg (pe_op op_sMod (pe_op op_sAdd (pe_op op_sAdd (pe_op op_sMul (pe_ix ix_s (pv 0) pe_int (fun _ _ => rfl)) pe_int) (pe_op op_sMul (pe_op op_sMod (pv 2) pe_int) pe_int)) pe_int) pe_int) (pg_sub (pv 0) pe_int set_list)))))))
  pss_nil)
  (pss_cons (ps_if (pt_cmpR op_sGt (pe_ix ix_s (pv 0) pe_int (fun _ _ => rfl)) pe_int (nomark _))
  (pss_cons (ps_set (i := 3) sc_draw.nd rfl (by first | exact Or.inl rfl | exact Or.inr rfl) (pe_op op_sMod (pe_ix ix_s (pv 0) pe_int (fun _ _ => rfl)) (pv 1)))
  (pss_cons (ps_asg (pe_op op_sDiv (pe_ix ix_s (pv 0) pe_int (fun _ _ => rfl)) (pv 1)) (pg_sub (pv 0) pe_int set_list))
  (pss_one (ps_ret (pv 3)))))
  pss_nil)
  (pss_cons (ps_set (i := 4) sc_draw.nd rfl (by first | exact Or.inl rfl | exact Or.inr rfl) (pe_ix ix_s (pv 0) pe_int (fun _ _ => rfl)))
  (pss_cons (ps_asg (pe_op op_sMod (pe_op op_sAdd (pe_op op_sAdd (pe_op op_sMul (pv 4) (pe_op op_sAdd (pe_op op_sMod (pv 4) pe_int) pe_int)) (pe_op op_sMul (pv 4) pe_int)) pe_int) pe_int) (pg_sub (pv 0) pe_int set_list))
  (pss_one (ps_ret (pe_op op_sMod (pe_op op_sAdd (pe_op op_sDiv (pe_ix ix_s (pv 0) pe_int (fun _ _ => rfl)) pe_int) (pe_op op_sMul (pe_op op_sMod (pe_ix ix_s (pv 0) pe_int (fun _ _ => rfl)) pe_int) pe_int)) (pv 1))))))))), ?_⟩
    refine go [some (.ref r), some (.int m), none, none, none] rfl ?_
    try dsimp only [L2.cxOf]
    walk_at "sx"
    refine ⟨fun σ' H' => ∃ (i c sd : Int) (v : Option V), σ' = [some (.ref r), some (.int m), v, none, none] ∧ Kp r H H' ∧ H' r = some (.lst [.ref l, .int i, .int c, .int sd]) ∧ 0 ≤ i ∧ 0 ≤ c ∧ 0 ≤ sd ∧ sd < 2147483563, ?_, ?_⟩
    · walk_at "sx"
      refine z_ix (by walk_at "sq") (v := .int c) rfl ?_
      walk_at "sx"
      refine y_ite (fun c0 => ?_) (fun c0 => ?_)
      · walk_at "sx"
        refine z_ix (by walk_at "sq") (v := .int i) rfl ?_
        walk_at "sx"
        refine z_ix (by walk_at "sq") (v := .ref l) rfl ?_
        walk_at "sx"
        refine z_len (by walk_at "sq") ?_
        walk_at "sx"
        refine y_ite (fun c1 => ?_) (fun c1 => ?_)
        · walk_at "sx"
          refine z_ix (by walk_at "sq") (v := .ref l) rfl ?_
          walk_at "sx"
          refine z_ix (by walk_at "sq") (v := .int i) rfl ?_
          walk_at "sx"
          obtain ⟨y, hy, hat⟩ := atM hi c1
          obtain ⟨z, -, rfl⟩ := List.mem_map.mp hy
          refine z_ix (by walk_at "sq") hat ?_
          walk_at "sx"
          refine z_ix (by walk_at "sq") (v := .int i) rfl ?_
          walk_at "sx"
          refine z_setL (j := 1) (by walk_at "hp") rfl ?_
          walk_at "sx"
          refine z_pow ⟨by decide, by decide, by decide⟩ ?_
          walk_at "sx"
          refine y_ite (fun c2 => ?_) (fun c2 => ?_)
          · walk_at "sx"
            refine z_setL (j := 2) (by walk_at "hp") rfl ?_
            refine ⟨i + 1, z, sd, _, rfl, Kp.set.trans Kp.set, upd_same, by omega, ?_, hs0, hs1⟩
            have : (0 : Int) ≤ 10 ^ (18 : Int).toNat := by decide
            omega
          · walk_at "sx"
            refine z_ix (by walk_at "sq") (v := .int sd) rfl ?_
            walk_at "sx"
            refine z_setL (j := 3) (by walk_at "hp") rfl ?_
            exact ⟨i + 1, c, _, _, rfl, Kp.set.trans Kp.set, upd_same, by omega, hc, Int.emod_nonneg _ (by decide), Int.emod_lt_of_pos _ (by decide)⟩
        · walk_at "sx"
          exact ⟨i, c, sd, none, rfl, Kp.refl _ _, h1, hi, hc, hs0, hs1⟩
      · walk_at "sx"
        exact ⟨i, c, sd, none, rfl, Kp.refl _ _, h1, hi, hc, hs0, hs1⟩
    · clear h1 hi hc hs0 hs1
      rintro σ' H' ⟨i, c, sd, v, rfl, kp, h1, hi, hc, hs0, hs1⟩
      have h2' := kp _ _ h2 nlr
      walk_at "sx"
      refine z_ix (by walk_at "sq") (v := .int c) rfl ?_
      walk_at "sx"
      refine y_ite (fun c0 => ?_) (fun c0 => ?_)
      · walk_at "sx"
        refine z_ix (by walk_at "sq") (v := .int c) rfl ?_
        walk_at "sx"
        refine z_ix (by walk_at "sq") (v := .int c) rfl ?_
        walk_at "sx"
        refine z_setL (j := 2) (by walk_at "hp") rfl ?_
        walk_at "sx"
        refine k _ _ (Int.emod_nonneg _ (by omega)) (Int.emod_lt_of_pos _ hm) (kp.trans Kp.set) ⟨ns, i, c / m, sd, upd_same, ?_, nlr, hl, hi, Int.ediv_nonneg hc (by omega), hs0, hs1⟩
        rw [upd_ne nlr]
        exact h2'
      · walk_at "sx"
        refine z_ix (by walk_at "sq") (v := .int sd) rfl ?_
        walk_at "sx"
        refine z_setL (j := 3) (by walk_at "hp") rfl ?_
        walk_at "sx"
        refine z_ix (sq_l (sq_of upd_same)) (v := .int ((sd * (sd % 65521 + 7) + sd * 39373 + 80021) % 2147483563)) rfl ?_
        walk_at "sx"
        refine z_ix (sq_l (sq_of upd_same)) (v := .int ((sd * (sd % 65521 + 7) + sd * 39373 + 80021) % 2147483563)) rfl ?_
        walk_at "sx"
        refine k _ _ (Int.emod_nonneg _ (by omega)) (Int.emod_lt_of_pos _ hm) (kp.trans Kp.set) ⟨ns, i, c, _, upd_same, ?_, nlr, hl, hi, hc, Int.emod_nonneg _ (by decide), Int.emod_lt_of_pos _ (by decide)⟩
        rw [upd_ne nlr]
        exact h2'
end
end R

/-! # D2: the law's pick and its sameness -/
namespace R
open PySem PySem.Spec PyProof.Rows L2
section
variable {H : Hp} {Q : VK} {E : XK} {r l : Addr} {m : Int} {K : PySem.W.Frag}
theorem use_draw (h : Rng H r l) (k : ∀ (n : Int) (H' : Hp), 0 ≤ n → n < m → Kp r H H' → Rng H' r l → Q (.int n) H') (h0 : 0 < m := by omega) (h1 : m < 2 ^ 200 := by omega) : spDraw [.ref r, .int m] H Q E := ⟨r, l, m, rfl, h, h0, h1, k⟩
/-- pick(rng, items): one of the items -/
def spPick (K : PySem.W.Frag) : Sp := fun vs H Q _ => ∃ (r l : Addr) (x : V), vs = [.ref r, x] ∧ Rng H r l ∧
  ((∃ p xs, x = .ref p ∧ Sq K H p xs ∧ p ≠ r ∧ 0 < xs.length ∧ xs.length ≤ 1000000 ∧ ∀ (v : V) (H' : Hp), v ∈ xs → Kp r H H' → Rng H' r l → Q v H') ∨
   (∃ z : Str, x = .str z ∧ 0 < z.length ∧ z.length ≤ 1000000 ∧ ∀ (c : Nat) (H' : Hp), c ∈ z.cps.toList → Kp r H H' → Rng H' r l → Q (.str ⟨#[c]⟩) H'))
theorem use_pick {p : Addr} {xs : List V} (h : Rng H r l) (hs : Sq K H p xs) (n : p ≠ r) (k : ∀ (v : V) (H' : Hp), v ∈ xs → Kp r H H' → Rng H' r l → Q v H') (h0 : 0 < xs.length := by exact Nat.le_of_ble_eq_true rfl) (h1 : xs.length ≤ 1000000 := by exact Nat.le_of_ble_eq_true rfl) : spPick K [.ref r, .ref p] H Q E :=
  ⟨r, l, .ref p, rfl, h, .inl ⟨p, xs, rfl, hs, n, h0, h1, k⟩⟩
theorem use_pickS {z : Str} (h : Rng H r l) (k : ∀ (c : Nat) (H' : Hp), c ∈ z.cps.toList → Kp r H H' → Rng H' r l → Q (.str ⟨#[c]⟩) H') (h0 : 0 < z.length := by decide +kernel) (h1 : z.length ≤ 1000000 := by decide +kernel) : spPick K [.ref r, .str z] H Q E :=
  ⟨r, l, .str z, rfl, h, .inr ⟨z, rfl, h0, h1, k⟩⟩
end
/-- x and y are the same data, of a depth of at most n -/
inductive Sc : V → Prop
  | non : Sc .non
  | bl (b : Bool) : Sc (.bl b)
  | int (i : Int) : Sc (.int i)
  | str (s : Str) : Sc (.str s)
def Tre (K : PySem.W.Frag) (H : Hp) : Nat → V → V → Prop
  | 0, x, y => x = y ∧ Sc x
  | n + 1, x, y => (x = y ∧ Sc x) ∨ ∃ p q xs ys, x = .ref p ∧ y = .ref q ∧ ((SqL K H p xs ∧ SqL K H q ys) ∨ (SqT K H p xs ∧ SqT K H q ys)) ∧ (xs.length = ys.length ∧ xs.length ≤ 900000) ∧ ∀ (i : Nat) (a b : V), xs[i]? = some a → ys[i]? = some b → Tre K H n a b
theorem Tre.sc {K : PySem.W.Frag} {H : Hp} {x : V} (h : Sc x) : ∀ {n : Nat}, Tre K H n x x
  | 0 => ⟨rfl, h⟩
  | _ + 1 => .inl ⟨rfl, h⟩
theorem Tre.int {K : PySem.W.Frag} {H : Hp} {i j : Int} {n : Nat} (h : i = j) : Tre K H n (.int i) (.int j) := by
  subst h
  exact .sc (.int i)
theorem Tre.bl {K : PySem.W.Frag} {H : Hp} {i j : Bool} {n : Nat} (h : i = j) : Tre K H n (.bl i) (.bl j) := by
  subst h
  exact .sc (.bl i)
theorem Tre.ex {K : PySem.W.Frag} {H H' : Hp} (e : Ex H H') : ∀ {n : Nat} {x y : V}, Tre K H n x y → Tre K H' n x y
  | 0, _, _, h => h
  | n + 1, _, _, h => by
    rcases h with h | ⟨p, q, xs, ys, h1, h2, h3, h4, h5⟩
    · exact .inl h
    · exact .inr ⟨p, q, xs, ys, h1, h2, h3.imp (fun h => ⟨sq_ex e h.1, sq_ex e h.2⟩) (fun h => ⟨st_ex e h.1, st_ex e h.2⟩), h4, fun i a b ha hb => Tre.ex e (h5 i a b ha hb)⟩
theorem Tre.mono {K : PySem.W.Frag} {H : Hp} : ∀ {n m : Nat} {x y : V}, n ≤ m → Tre K H n x y → Tre K H m x y
  | 0, 0, _, _, _, h => h
  | 0, _ + 1, _, _, _, h => .inl h
  | _ + 1, 0, _, _, h, _ => absurd h (by omega)
  | n + 1, m + 1, _, _, l, h => by
    rcases h with h | ⟨p, q, xs, ys, h1, h2, h3, h4, h5⟩
    · exact .inl h
    · exact .inr ⟨p, q, xs, ys, h1, h2, h3, h4, fun i a b ha hb => Tre.mono (by omega) (h5 i a b ha hb)⟩
theorem Tre.lst {K : PySem.W.Frag} {H : Hp} {n : Nat} {p q : Addr} {xs ys : List V} (h1 : SqL K H p xs) (h2 : SqL K H q ys) (h3 : xs.length = ys.length) (h4 : xs.length ≤ 900000) (h : ∀ (i : Nat) (a b : V), xs[i]? = some a → ys[i]? = some b → Tre K H n a b) : Tre K H (n + 1) (.ref p) (.ref q) :=
  .inr ⟨p, q, xs, ys, rfl, rfl, .inl ⟨h1, h2⟩, ⟨h3, h4⟩, h⟩
theorem Tre.tup {K : PySem.W.Frag} {H : Hp} {n : Nat} {p q : Addr} {xs ys : List V} (h1 : SqT K H p xs) (h2 : SqT K H q ys) (h3 : xs.length = ys.length) (h4 : xs.length ≤ 900000) (h : ∀ (i : Nat) (a b : V), xs[i]? = some a → ys[i]? = some b → Tre K H n a b) : Tre K H (n + 1) (.ref p) (.ref q) :=
  .inr ⟨p, q, xs, ys, rfl, rfl, .inr ⟨h1, h2⟩, ⟨h3, h4⟩, h⟩
theorem tre_all {K : PySem.W.Frag} {H : Hp} {n : Nat} {xs : List V} (h : ∀ x ∈ xs, Sc x) : ∀ (i : Nat) (a b : V), xs[i]? = some a → xs[i]? = some b → Tre K H n a b := fun i a b ha hb => by
  rw [ha] at hb
  cases hb
  exact .sc (h _ (List.mem_of_getElem? ha))
def spSame (K : PySem.W.Frag) (n : Nat) : Sp := fun vs H Q _ => ∃ x y, vs = [x, y] ∧ Tre K H n x y ∧ ∀ H', Ex H H' → Q (.bl true) H'
theorem use_same {K : PySem.W.Frag} {n : Nat} {H : Hp} {Q : VK} {E : XK} {x y : V} (h : Tre K H n x y) (k : ∀ H', Ex H H' → Q (.bl true) H') : spSame K n [x, y] H Q E := ⟨x, y, rfl, h, k⟩
section
variable {P : Program} {w : World} {K : PySem.W.Frag} {mg : Str → Option Value} {base : Heap}
theorem ok_pick (T : Txt K mg) : Ok P w K mg base 2 T.pick (spPick K) := by
  refine ok_of T.pick sc_pick (fun vs H Q E h => ?_) (fun cdv A outer s H vs Q E hr h => ?_)
  · obtain ⟨r, l, x, rfl, _⟩ := h
    rfl
  · obtain ⟨r, l, x, rfl, hR, h⟩ := h
    refine ⟨_, ((pss_one (ps_ret (pe_ix ix_s (pv 1) (pcall T.draw (ok_draw T) (hr.mono (by omega)) passE (pa_cons (pv 0) (pa_cons (pe_callB call_sLen (by rfl) T.b_len (by decide +kernel) (pa_cons (pv 1) pa_nil)) pa_nil))) (fun _ _ => rfl))))), ?_⟩
    refine go [some (.ref r), some x] rfl ?_
    try dsimp only [L2.cxOf]
    rcases h with ⟨p, xs, rfl, hS, n, h0, h1, k⟩ | ⟨z, rfl, h0, h1, k⟩
    · walk_at "sx"
      refine z_len (by walk_at "sq") ?_
      walk_at "sx"
      refine use_draw hR fun m H' m0 m1 kp hR' => ?_
      obtain ⟨v, hv, hat⟩ := atM m0 m1
      refine z_ix (hS.imp (fun h => sq_kp kp h n) (fun h => st_kp kp h n)) hat ?_
      exact k v H' hv kp hR'
    · walk_at "sx"
      refine z_lenS (sz_of h1) ?_
      walk_at "sx"
      refine use_draw hR fun m H' m0 m1 kp hR' => ?_
      have e : z.length = z.cps.toList.length := by simp [Str.length]
      obtain ⟨c, hc, hat⟩ := atN (xs := z.cps.toList) m0 (by omega)
      refine z_ixS (sz_of h1) hat ?_
      exact k c H' (List.mem_of_getElem? hc) kp hR'
def spS (K : PySem.W.Frag) : Nat → Sp
  | 0 => fun _ _ _ _ => False
  | n + 1 => spSame K n
theorem spS_succ (n : Nat) : spS K (n + 1) = spSame K n := rfl
theorem step_same (T : Txt K mg) (n : Nat) (ih : Ok P w K mg base (n + 1) T.same (spS K n)) : Ok P w K mg base (n + 2) T.same (spSame K n) := by
  refine ok_of T.same sc_same (fun vs H Q E h => ?_) (fun cdv A outer s H vs Q E hr h => ?_)
  · obtain ⟨x, y, rfl, _⟩ := h
    rfl
  · obtain ⟨x, y, rfl, h, k⟩ := h
    have ok_same := fun (_ : Txt K mg) => ih
    refine ⟨_, ((pss_cons (ps_if (PW.pt (pw_or (pt_cmpR op_sIs (pv 1) pe_non (nomark _)) (pw_or1 (pt_cmpR op_sIs (pv 0) pe_non (nomark _)))))
  (pss_one (ps_ret (pe_and (pe_cmpR op_sIs (pv 0) pe_non (nomark _)) (pe_one (pe_cmpR op_sIs (pv 1) pe_non (nomark _))))))
  pss_nil)
  (pss_cons (ps_if (pt_val (pe_callB call_isiT (by rfl) T.b_isinstance (by decide +kernel) (pa_cons (pv 1) (pa_cons (pe_tup (pa_cons (pe_bltn (v := .ty "list") (by rfl) T.b_list (by decide +kernel) rfl) (pa_cons (pe_bltn (v := .ty "tuple") (by rfl) T.b_tuple (by decide +kernel) rfl) pa_nil))) pa_nil))))
  (pss_cons (ps_if (PW.pt (pw_or (pt_cmpR (op_sNe hr.units) (pe_callB call_isi (by rfl) T.b_isinstance (by decide +kernel) (pa_cons (pv 0) (pa_cons (pe_bltn (v := .ty "list") (by rfl) T.b_list (by decide +kernel) rfl) pa_nil))) (pe_callB call_isi (by rfl) T.b_isinstance (by decide +kernel) (pa_cons (pv 1) (pa_cons (pe_bltn (v := .ty "list") (by rfl) T.b_list (by decide +kernel) rfl) pa_nil))) (nomark _)) (pw_or1 (pt_cmpR (op_sNe hr.units) (pe_callB call_isi (by rfl) T.b_isinstance (by decide +kernel) (pa_cons (pv 0) (pa_cons (pe_bltn (v := .ty "tuple") (by rfl) T.b_tuple (by decide +kernel) rfl) pa_nil))) (pe_callB call_isi (by rfl) T.b_isinstance (by decide +kernel) (pa_cons (pv 1) (pa_cons (pe_bltn (v := .ty "tuple") (by rfl) T.b_tuple (by decide +kernel) rfl) pa_nil))) (nomark _)))))
  (pss_one (ps_ret pe_bl))
  pss_nil)
  (pss_one (ps_ret (pe_and (pe_cmpR (op_sEq hr.units) (pe_callB call_sLen (by rfl) T.b_len (by decide +kernel) (pa_cons (pv 0) pa_nil)) (pe_callB call_sLen (by rfl) T.b_len (by decide +kernel) (pa_cons (pv 1) pa_nil)) (nomark _)) (pe_one (pe_callB (call_sAll (by rfl)) (by rfl) T.b_all (by decide +kernel) (pa_cons (pe_lc (own := [("_law_one", 2), ("_law_other", 3)]) (g := (gTup K 2 (gCons (gName 2) (gCons (gName 3) gNil)))) (tt := tYes) (te := (tCall _ [] E0 (tCons (tVar 2) (tCons (tVar 3) tNil)))) (by rfl) sc_same.nd (RZ.pi_zipA (by rfl) T.b_zip (pa_cons (pv 0) (pa_cons (pv 1) pa_nil))) (blkOk_by (own := [("_law_one", 2), ("_law_other", 3)]) (N := N_same) (sc := defScope s_same) (by decide +kernel)) (fun _ _ _ _ _ => by exact (pg_tup rfl (pgs_cons (pg_name (i := 2) sc_same.nd rfl (by first | exact Or.inl rfl | exact Or.inr rfl)) (pgs_cons (pg_name (i := 3) sc_same.nd rfl (by first | exact Or.inl rfl | exact Or.inr rfl)) pgs_nil)))) (fun _ _ _ _ _ => by exact pts_nil) (fun _ _ _ _ _ => by exact (pcall T.same (ok_same T) (hr.mono (by omega)) passL (pa_cons (pv 2) (pa_cons (pv 3) pa_nil))))) pa_nil)))))))
  pss_nil)
  (pss_cons (ps_if (PW.pt (pw_or (pt_cmpR (op_sNe hr.units) (pe_callB call_isi (by rfl) T.b_isinstance (by decide +kernel) (pa_cons (pv 0) (pa_cons (pe_bltn (v := .ty "bool") (by rfl) T.b_bool (by decide +kernel) rfl) pa_nil))) (pe_callB call_isi (by rfl) T.b_isinstance (by decide +kernel) (pa_cons (pv 1) (pa_cons (pe_bltn (v := .ty "bool") (by rfl) T.b_bool (by decide +kernel) rfl) pa_nil))) (nomark _)) (pw_or1 (pt_cmpR (op_sNe hr.units) (pe_callB call_isi (by rfl) T.b_isinstance (by decide +kernel) (pa_cons (pv 0) (pa_cons (pe_bltn (v := .ty "int") (by rfl) T.b_int (by decide +kernel) rfl) pa_nil))) (pe_callB call_isi (by rfl) T.b_isinstance (by decide +kernel) (pa_cons (pv 1) (pa_cons (pe_bltn (v := .ty "int") (by rfl) T.b_int (by decide +kernel) rfl) pa_nil))) (nomark _)))))
  (pss_one (ps_ret pe_bl))
  pss_nil)
  (pss_one (ps_ret (pe_and (pe_cmpR (op_sEq hr.units) (pe_callB call_isi (by rfl) T.b_isinstance (by decide +kernel) (pa_cons (pv 0) (pa_cons (pe_bltn (v := .ty "str") (by rfl) T.b_str (by decide +kernel) rfl) pa_nil))) (pe_callB call_isi (by rfl) T.b_isinstance (by decide +kernel) (pa_cons (pv 1) (pa_cons (pe_bltn (v := .ty "str") (by rfl) T.b_str (by decide +kernel) rfl) pa_nil))) (nomark _)) (pe_one (pe_cmpR (op_sEq hr.units) (pv 0) (pv 1) (nomark _)))))))))), ?_⟩
    refine go [some x, some y, none, none] rfl ?_
    try dsimp only [L2.cxOf]
    have hc : (x = y ∧ Sc x) ∨ ∃ m, n = m + 1 ∧ ∃ p q xs ys, x = .ref p ∧ y = .ref q ∧ ((SqL K H p xs ∧ SqL K H q ys) ∨ (SqT K H p xs ∧ SqT K H q ys)) ∧ (xs.length = ys.length ∧ xs.length ≤ 900000) ∧ ∀ (i : Nat) (a b : V), xs[i]? = some a → ys[i]? = some b → Tre K H m a b := by
      cases n with
      | zero => exact .inl h
      | succ m => exact h.imp id fun h => ⟨m, rfl, h⟩
    rcases hc with ⟨rfl, hs⟩ | ⟨m, rfl, p, q, xs, ys, rfl, rfl, hq, hl, hrec⟩
    · cases hs with
      | non =>
        walk_at "sx"
        exact k _ (Same.refl _)
      | bl b =>
        walk_at "sx"
        refine z_tup fun p1 n1 => ?_
        walk_at "sx"
        refine z_isiT upd_same (.base (.bl b)) (by walk_at "ki") (by walk_at "ki") ?_
        walk_at "sx"
        walk_at "isi"
        walk_at "sx"
        walk_at "isi"
        walk_at "sx"
        walk_at "isi"
        walk_at "sx"
        walk_at "isi"
        walk_at "sx"
        walk_at "isi"
        walk_at "sx"
        walk_at "isi"
        walk_at "sx"
        rw [decide_eq_true rfl]
        exact k _ (Ex.new n1)
      | int i =>
        walk_at "sx"
        refine z_tup fun p1 n1 => ?_
        walk_at "sx"
        refine z_isiT upd_same (.base (.int i)) (by walk_at "ki") (by walk_at "ki") ?_
        walk_at "sx"
        walk_at "isi"
        walk_at "sx"
        walk_at "isi"
        walk_at "sx"
        walk_at "isi"
        walk_at "sx"
        walk_at "isi"
        walk_at "sx"
        walk_at "isi"
        walk_at "sx"
        walk_at "isi"
        walk_at "sx"
        rw [decide_eq_true rfl]
        exact k _ (Ex.new n1)
      | str z =>
        walk_at "sx"
        refine z_tup fun p1 n1 => ?_
        walk_at "sx"
        refine z_isiT upd_same (.base (.str z)) (by walk_at "ki") (by walk_at "ki") ?_
        walk_at "sx"
        walk_at "isi"
        walk_at "sx"
        walk_at "isi"
        walk_at "sx"
        walk_at "isi"
        walk_at "sx"
        walk_at "isi"
        walk_at "sx"
        walk_at "isi"
        walk_at "sx"
        walk_at "isi"
        walk_at "sx"
        rw [decide_eq_true rfl]
        exact k _ (Ex.new n1)
    · rcases hq with ⟨h1, h2⟩ | ⟨h1, h2⟩
      · walk_at "sx"
        refine z_tup fun p1 n1 => ?_
        walk_at "sx"
        have E1 := Ex.new (o := .tup [.ty "list", .ty "tuple"]) n1
        refine z_isiT upd_same (tyx_l (sq_ex E1 h2)) (by walk_at "ki") (by walk_at "ki") ?_
        walk_at "sx"
        walk_at "isi"
        walk_at "sx"
        walk_at "isi"
        walk_at "sx"
        walk_at "isi"
        walk_at "sx"
        walk_at "isi"
        walk_at "sx"
        refine z_len (by walk_at "sq") ?_
        walk_at "sx"
        refine z_len (by walk_at "sq") ?_
        walk_at "sx"
        refine y_yes (by omega) ?_
        walk_at "sx"
        refine z_zipL (sq_ex E1 h1) (sq_ex E1 h2) ?_
        intro D hD
        refine lc_it (n := xs.length) (walk_zip (xs := xs) (ys := ys) (by omega)) (LcP D fun i zs H' => Ex H H' ∧ zs = (List.replicate i true).map V.bl) (lc0 ⟨E1.trans (Ex.new hD), rfl⟩) (fun i H' hi ⟨zs, _, _, e, _⟩ => ⟨sq_ex e h1, sq_ex e h2⟩) ?_ ?_
        · rintro i x H1 H2 hi ⟨zs, hz, hzl, e, ez⟩ ⟨T1, a, b, rfl, hT, rfl, ha, hb⟩
          refine x_gtup (st_of upd_same) rfl ?_
          walk_at "sx"
          refine ⟨rfl, ?_⟩
          walk_at "sx"
          rw [spS_succ]
          refine use_same ((hrec i a b ha hb).ex (e.trans (Ex.new hT))) fun H3 e3 => ?_
          refine lc_put (e3 _ _ (Ex.new hT _ _ hz)) hzl hi hl.2 ⟨Ex.mut ((e.trans (Ex.new hT)).trans e3) (E1.none hD), ?_⟩
          rw [ez, ← List.map_singleton, ← List.map_append, ← List.replicate_succ']
        · rintro H1 ⟨zs, hz, _, e, ez⟩
          rw [ez] at hz
          walk_at "sx"
          refine z_all (sq_of hz) ?_
          have : (List.replicate xs.length true).all id = true := by simp
          rw [this]
          exact k _ e
      · walk_at "sx"
        refine z_tup fun p1 n1 => ?_
        walk_at "sx"
        have E1 := Ex.new (o := .tup [.ty "list", .ty "tuple"]) n1
        refine z_isiT upd_same (tyx_t (st_ex E1 h2)) (by walk_at "ki") (by walk_at "ki") ?_
        walk_at "sx"
        walk_at "isi"
        walk_at "sx"
        walk_at "isi"
        walk_at "sx"
        walk_at "isi"
        walk_at "sx"
        walk_at "isi"
        walk_at "sx"
        refine z_len (by walk_at "sq") ?_
        walk_at "sx"
        refine z_len (by walk_at "sq") ?_
        walk_at "sx"
        refine y_yes (by omega) ?_
        walk_at "sx"
        refine z_zipT (st_ex E1 h1) (st_ex E1 h2) ?_
        intro D hD
        refine lc_it (n := xs.length) (walk_zipT (xs := xs) (ys := ys) (by omega)) (LcP D fun i zs H' => Ex H H' ∧ zs = (List.replicate i true).map V.bl) (lc0 ⟨E1.trans (Ex.new hD), rfl⟩) (fun i H' hi ⟨zs, _, _, e, _⟩ => ⟨st_ex e h1, st_ex e h2⟩) ?_ ?_
        · rintro i x H1 H2 hi ⟨zs, hz, hzl, e, ez⟩ ⟨T1, a, b, rfl, hT, rfl, ha, hb⟩
          refine x_gtup (st_of upd_same) rfl ?_
          walk_at "sx"
          refine ⟨rfl, ?_⟩
          walk_at "sx"
          rw [spS_succ]
          refine use_same ((hrec i a b ha hb).ex (e.trans (Ex.new hT))) fun H3 e3 => ?_
          refine lc_put (e3 _ _ (Ex.new hT _ _ hz)) hzl hi hl.2 ⟨Ex.mut ((e.trans (Ex.new hT)).trans e3) (E1.none hD), ?_⟩
          rw [ez, ← List.map_singleton, ← List.map_append, ← List.replicate_succ']
        · rintro H1 ⟨zs, hz, _, e, ez⟩
          rw [ez] at hz
          walk_at "sx"
          refine z_all (sq_of hz) ?_
          have : (List.replicate xs.length true).all id = true := by simp
          rw [this]
          exact k _ e
theorem ok_same (T : Txt K mg) : ∀ n, Ok P w K mg base (n + 2) T.same (spSame K n)
  | 0 => step_same T 0 ⟨fun _ _ _ _ h => h.elim, fun _ _ _ _ _ _ _ _ _ _ _ _ _ h => h.elim⟩
  | n + 1 => step_same T (n + 1) (ok_same T n)
end
end R

/-! # DQ: data in the heap, away from the law's source r -/
namespace R
open PySem PySem.Spec PyProof.Rows L2
/-- a list, a tuple in the heap itself -/
abbrev RL (H : Hp) (a : Addr) (xs : List V) : Prop := Rd H a (.lst xs)
abbrev RT (H : Hp) (a : Addr) (xs : List V) : Prop := Rd H a (.tup xs)
abbrev RQ (H : Hp) (a : Addr) (xs : List V) : Prop := RL H a xs ∨ RT H a xs
theorem rl_of {H : Hp} {a : Addr} {xs : List V} (h : H a = some (.lst xs)) : RL H a xs := .inl h
theorem rt_of {H : Hp} {a : Addr} {xs : List V} (h : H a = some (.tup xs)) : RT H a xs := .inl h
theorem RQ.sq {K : PySem.W.Frag} {H : Hp} {a : Addr} {xs : List V} (h : RQ H a xs) : Sq K H a xs := h.imp .inl .inl
theorem RQ.kp {r : Addr} {H H' : Hp} {a : Addr} {xs : List V} (h : RQ H a xs) (e : Kp r H H') (n : a ≠ r) : RQ H' a xs := h.imp (fun h => rd_kp e h n) (fun h => rd_kp e h n)
theorem RQ.ex {H H' : Hp} {a : Addr} {xs : List V} (h : RQ H a xs) (e : Ex H H') : RQ H' a xs := h.imp (rd_ex e) (rd_ex e)
theorem Rd.ne {H : Hp} {a p : Addr} {u : HO} (h : Rd H a u) (n : H p = none) : a ≠ p := by
  rintro rfl
  rcases h with h | ⟨o, h⟩
  all_goals
    rw [n] at h
    cases h
theorem RQ.ne {H : Hp} {a p : Addr} {xs : List V} (h : RQ H a xs) (n : H p = none) : a ≠ p := h.elim (fun h => Rd.ne h n) (fun h => Rd.ne h n)
theorem rt_ne_l {H : Hp} {a r : Addr} {xs zs : List V} (h : RT H a xs) (h2 : H r = some (.lst zs)) : a ≠ r := by
  rintro rfl
  rcases h with h | ⟨o, h⟩
  all_goals
    rw [h2] at h
    cases h
theorem rq_ne_ins {H : Hp} {a x : Addr} {xs : List V} {C dx : Addr} {fs : List (Str × V)} (h : RQ H a xs) (hx : H x = some (.ins C dx fs)) : a ≠ x := by
  rintro rfl
  rcases h with (h | ⟨o, h⟩) | (h | ⟨o, h⟩)
  all_goals
    rw [hx] at h
    cases h
mutual
inductive Dq (r : Addr) (H : Hp) : V → PyData → Prop
  | non : Dq r H .non .none
  | bl (b : Bool) : Dq r H (.bl b) (.bool b)
  | int (i : Int) : Dq r H (.int i) (.int i)
  | str (x : Str) : Dq r H (.str x) (.str x)
  | lst {a : Addr} {xs : List V} {ds : List PyData} : RL H a xs → a ≠ r → xs.length ≤ 900000 → DqAll r H xs ds → Dq r H (.ref a) (.list ds)
  | tup {a : Addr} {xs : List V} {ds : List PyData} : RT H a xs → a ≠ r → xs.length ≤ 900000 → DqAll r H xs ds → Dq r H (.ref a) (.tuple ds)
inductive DqAll (r : Addr) (H : Hp) : List V → List PyData → Prop
  | nil : DqAll r H [] []
  | cons {v : V} {vs : List V} {d : PyData} {ds : List PyData} : Dq r H v d → DqAll r H vs ds → DqAll r H (v :: vs) (d :: ds)
end
section
variable {K : PySem.W.Frag} {r : Addr} {H H' : Hp}
mutual
theorem Dq.kp (e : Kp r H H') : ∀ (d : PyData) (v : V), Dq r H v d → Dq r H' v d
  | .none, _, h => by cases h; exact .non
  | .bool _, _, h => by cases h; exact .bl _
  | .int _, _, h => by cases h; exact .int _
  | .str _, _, h => by cases h; exact .str _
  | .list ds, _, h => by
    cases h with
    | lst h1 h2 h3 h4 => exact .lst (rd_kp e h1 h2) h2 h3 (DqAll.kp e ds _ h4)
  | .tuple ds, _, h => by
    cases h with
    | tup h1 h2 h3 h4 => exact .tup (rd_kp e h1 h2) h2 h3 (DqAll.kp e ds _ h4)
  | .dict _, _, h => by cases h
theorem DqAll.kp (e : Kp r H H') : ∀ (ds : List PyData) (vs : List V), DqAll r H vs ds → DqAll r H' vs ds
  | [], _, h => by cases h; exact .nil
  | d :: ds, _, h => by
    cases h with
    | cons h1 h2 => exact .cons (Dq.kp e d _ h1) (DqAll.kp e ds _ h2)
end
theorem Dq.ex {d : PyData} {v : V} (e : Ex H H') (h : Dq r H v d) : Dq r H' v d := Dq.kp e.kp d v h
theorem DqAll.ex {ds : List PyData} {vs : List V} (e : Ex H H') (h : DqAll r H vs ds) : DqAll r H' vs ds := DqAll.kp e.kp ds vs h
mutual
theorem Dq.dp : ∀ (d : PyData) (v : V), Dq r H v d → Dp K H v d
  | .none, _, h => by cases h; exact .non
  | .bool _, _, h => by cases h; exact .bl _
  | .int _, _, h => by cases h; exact .int _
  | .str _, _, h => by cases h; exact .str _
  | .list ds, _, h => by
    cases h with
    | lst h1 h2 h3 h4 => exact .lst (.inl h1) (DqAll.dp ds _ h4)
  | .tuple ds, _, h => by
    cases h with
    | tup h1 h2 h3 h4 => exact .tup (.inl h1) (DqAll.dp ds _ h4)
  | .dict _, _, h => by cases h
theorem DqAll.dp : ∀ (ds : List PyData) (vs : List V), DqAll r H vs ds → DpAll K H vs ds
  | [], _, h => by cases h; exact .nil
  | d :: ds, _, h => by
    cases h with
    | cons h1 h2 => exact .cons (Dq.dp d _ h1) (DqAll.dp ds _ h2)
end
theorem DqAll.len : ∀ {ds : List PyData} {vs : List V}, DqAll r H vs ds → vs.length = ds.length
  | [], _, h => by cases h; rfl
  | d :: ds, _, h => by
    cases h with
    | cons h1 h2 => exact congrArg Nat.succ (DqAll.len h2)
theorem DqAll.get : ∀ {ds : List PyData} {vs : List V} {i : Nat} {v : V} {d : PyData}, DqAll r H vs ds → vs[i]? = some v → ds[i]? = some d → Dq r H v d
  | [], _, i, v, d, h, h1, h2 => by cases h; simp at h1
  | e :: ds, _, 0, v, d, h, h1, h2 => by
    cases h with
    | cons a b =>
      simp at h1 h2
      subst h1 h2
      exact a
  | e :: ds, _, i + 1, v, d, h, h1, h2 => by
    cases h with
    | cons a b => exact DqAll.get b (by simpa using h1) (by simpa using h2)
theorem DqAll.app : ∀ {ds es : List PyData} {vs ws : List V}, DqAll r H vs ds → DqAll r H ws es → DqAll r H (vs ++ ws) (ds ++ es)
  | [], _, _, _, h, g => by cases h; exact g
  | d :: ds, _, _, _, h, g => by
    cases h with
    | cons a b => exact .cons a (DqAll.app b g)
theorem DqAll.snoc {ds : List PyData} {vs : List V} {v : V} {d : PyData} (h : DqAll r H vs ds) (g : Dq r H v d) : DqAll r H (vs ++ [v]) (ds ++ [d]) := h.app (.cons g .nil)
theorem DqAll.ints (f : Int → PyData) : ∀ {xs : List Int}, DqAll r H (xs.map V.int) (xs.map PyData.int)
  | [] => .nil
  | x :: xs => .cons (.int x) (DqAll.ints f)
/-- an item of a list, of a tuple -/
theorem DqAll.at {ds : List PyData} {vs : List V} {i : Nat} {d : PyData} (h : DqAll r H vs ds) (hd : ds[i]? = some d) : ∃ v, vs[i]? = some v ∧ Dq r H v d := by
  have hi : i < ds.length := (List.getElem?_eq_some_iff.mp hd).1
  have hv : i < vs.length := by rw [h.len]; exact hi
  exact ⟨vs[i], List.getElem?_eq_getElem hv, h.get (List.getElem?_eq_getElem hv) hd⟩
end
/-! the same data twice -/
mutual
theorem Dq.tre {K : PySem.W.Frag} {r q : Addr} {H : Hp} : ∀ (d : PyData) (v w : V), Dq r H v d → Dq q H w d → Tre K H d.depth v w
  | .none, _, _, h, g => by cases h; cases g; exact .sc .non
  | .bool _, _, _, h, g => by cases h; cases g; exact .sc (.bl _)
  | .int _, _, _, h, g => by cases h; cases g; exact .sc (.int _)
  | .str _, _, _, h, g => by cases h; cases g; exact .sc (.str _)
  | .list ds, _, _, h, g => by
    cases h with
    | lst h1 h2 h3 h4 =>
      cases g with
      | lst g1 g2 g3 g4 =>
        rw [PyData.depth]
        exact .lst (.inl h1) (.inl g1) (h4.len.trans g4.len.symm) h3 (DqAll.tre ds _ _ h4 g4)
  | .tuple ds, _, _, h, g => by
    cases h with
    | tup h1 h2 h3 h4 =>
      cases g with
      | tup g1 g2 g3 g4 =>
        rw [PyData.depth]
        exact .tup (.inl h1) (.inl g1) (h4.len.trans g4.len.symm) h3 (DqAll.tre ds _ _ h4 g4)
  | .dict _, _, _, h, _ => by cases h
theorem DqAll.tre {K : PySem.W.Frag} {r q : Addr} {H : Hp} : ∀ (ds : List PyData) (vs ws : List V), DqAll r H vs ds → DqAll q H ws ds → ∀ (i : Nat) (a b : V), vs[i]? = some a → ws[i]? = some b → Tre K H (PyData.depthAll ds) a b
  | [], _, _, h, g, i, a, b, ha, hb => by cases h; simp at ha
  | d :: ds, _, _, h, g, i, a, b, ha, hb => by
    cases h with
    | cons h1 h2 =>
      cases g with
      | cons g1 g2 =>
        rw [PyData.depthAll]
        cases i with
        | zero =>
          simp at ha hb
          subst ha hb
          exact (Dq.tre d _ _ h1 g1).mono (Nat.le_max_left _ _)
        | succ i => exact (DqAll.tre ds _ _ h2 g2 i a b (by simpa using ha) (by simpa using hb)).mono (Nat.le_max_right _ _)
end
/-! ### numbers, rows, lists of them as data -/
abbrev vN (n : Nat) : V := .int (n : Int)
abbrev dN (n : Nat) : PyData := .int (n : Int)
abbrev dL (xs : List Nat) : PyData := .list (xs.map dN)
abbrev dT (xs : List Nat) : PyData := .tuple (xs.map dN)
section
variable {K : PySem.W.Frag} {r : Addr} {H : Hp}
theorem dq_nats : ∀ (xs : List Nat), DqAll r H (xs.map vN) (xs.map dN)
  | [] => .nil
  | x :: xs => .cons (.int _) (dq_nats xs)
theorem DqAll.nats : ∀ {xs : List Nat} {vs : List V}, DqAll r H vs (xs.map dN) → vs = xs.map vN
  | [], _, h => by cases h; rfl
  | x :: xs, _, h => by
    cases h with
    | cons a b =>
      cases a
      rw [DqAll.nats b]
      rfl
theorem Dq.nat {n : Nat} {v : V} (h : Dq r H v (dN n)) : v = vN n := by cases h; rfl
theorem Dq.row {xs : List Nat} {v : V} (h : Dq r H v (dT xs)) : ∃ a, v = .ref a ∧ RT H a (xs.map vN) ∧ a ≠ r ∧ xs.length ≤ 900000 := by
  cases h with
  | tup h1 h2 h3 h4 =>
    have e := h4.nats
    subst e
    exact ⟨_, rfl, h1, h2, by simpa using h3⟩
theorem Dq.lis {xs : List Nat} {v : V} (h : Dq r H v (dL xs)) : ∃ a, v = .ref a ∧ RL H a (xs.map vN) ∧ a ≠ r ∧ xs.length ≤ 900000 := by
  cases h with
  | lst h1 h2 h3 h4 =>
    have e := h4.nats
    subst e
    exact ⟨_, rfl, h1, h2, by simpa using h3⟩
theorem Dq.rowI {xs : List Nat} {a : Addr} (h1 : RT H a (xs.map vN)) (h2 : a ≠ r) (h3 : xs.length ≤ 900000) : Dq r H (.ref a) (dT xs) := .tup h1 h2 (by simpa using h3) (dq_nats xs)
theorem Dq.lisI {xs : List Nat} {a : Addr} (h1 : RL H a (xs.map vN)) (h2 : a ≠ r) (h3 : xs.length ≤ 900000) : Dq r H (.ref a) (dL xs) := .lst h1 h2 (by simpa using h3) (dq_nats xs)
end
/-! ### == of such data is = -/
def Fai {α : Type} (f : α → PyData) [DecidableEq α] : Prop := ∀ x y, PyData.eqv (f x) (f y) = decide (x = y)
theorem fai_nat : Fai dN := fun x y => by
  unfold dN
  rw [PyData.eqv]
  by_cases h : x = y
  · subst h; simp
  · have : ¬ ((x : Int) = (y : Int)) := by omega
    rw [decide_eq_false h]
    simpa using this
theorem fai_int : Fai PyData.int := fun x y => by
  rw [PyData.eqv]
  by_cases h : x = y
  · subst h; simp
  · rw [decide_eq_false h]
    simpa using h
theorem fai_all {α : Type} [DecidableEq α] {f : α → PyData} (h : Fai f) : ∀ xs ys : List α, PyData.eqvAll (xs.map f) (ys.map f) = decide (xs = ys)
  | [], [] => by simp [PyData.eqvAll]
  | [], y :: ys => by simp [PyData.eqvAll]
  | x :: xs, [] => by simp [PyData.eqvAll]
  | x :: xs, y :: ys => by
    rw [List.map_cons, List.map_cons, PyData.eqvAll, h x y, fai_all h xs ys]
    by_cases h1 : x = y <;> by_cases h2 : xs = ys <;> simp [h1, h2]
theorem fai_list {α : Type} [DecidableEq α] {f : α → PyData} (h : Fai f) : Fai fun xs : List α => .list (xs.map f) := fun xs ys => by
  rw [PyData.eqv]
  exact fai_all h xs ys
theorem fai_tup {α : Type} [DecidableEq α] {f : α → PyData} (h : Fai f) : Fai fun xs : List α => .tuple (xs.map f) := fun xs ys => by
  rw [PyData.eqv]
  exact fai_all h xs ys
end R
namespace R
open PySem PySem.Spec PyProof.Rows L2
theorem map_at {α β : Type} {f : α → β} {xs : List α} {i : Nat} {x : β} (h : (xs.map f)[i]? = some x) : i < xs.length ∧ ∃ y, xs[i]? = some y ∧ x = f y := by
  rw [List.getElem?_map] at h
  cases q : xs[i]? with
  | none => rw [q] at h; cases h
  | some z =>
    rw [q] at h
    exact ⟨(List.getElem?_eq_some_iff.mp q).1, z, rfl, (Option.some.inj h).symm⟩
theorem getD_at {α : Type} {xs : List α} {i : Nat} {d : α} (h : i < xs.length) : xs[i]? = some (xs.getD i d) := by
  rw [List.getD_eq_getElem?_getD, List.getElem?_eq_getElem h]
  rfl
theorem DqAll.by {r : Addr} {H : Hp} : ∀ {ds : List PyData} {vs : List V}, vs.length = ds.length → (∀ (i : Nat) (d : PyData), ds[i]? = some d → ∃ v, vs[i]? = some v ∧ Dq r H v d) → DqAll r H vs ds
  | [], [], _, _ => .nil
  | d :: ds, v :: vs, hl, h => by
    refine .cons ?_ (DqAll.by (by simpa using hl) fun i d hd => ?_)
    · obtain ⟨v', h1, h2⟩ := h 0 d rfl
      simp at h1
      rw [h1]
      exact h2
    · have := h (i + 1) d (by simpa using hd)
      simpa using this
  | [], v :: vs, hl, _ => by simp at hl
  | d :: ds, [], hl, _ => by simp at hl
end R
/-! ### tuples made: one continuation for the same object and a new one -/
namespace R
open PySem PySem.Spec PyProof.Rows L2
section
variable {K : PySem.W.Frag} {H : Hp} {Q : VK} {p q : Addr} {xs zs : List V} {i : Int}
theorem z_mulTu (h1 : RT H p xs) (h0 : xs ≠ []) (h2 : 0 ≤ i ∧ i ≤ 1000) (h3 : xs.length ≤ 1000) (k : ∀ a H', Ex H H' → RT H' a (List.replicate i.toNat xs).flatten → (a = p ∨ H a = none) → Q (.ref a) H') : sMul K (.ref p) (.int i) H Q :=
  z_mulTup (.inl h1) h0 h2 h3 (fun e => k p H (Same.refl _) (by subst e; show RT H p (List.replicate 1 xs).flatten; simpa using h1) (.inl rfl)) fun _ a na => k a _ (Ex.new na) (rt_of upd_same) (.inr na)
theorem z_addTu (h1 : RT H p xs) (h2 : RT H q zs) (h3 : xs.length + zs.length ≤ 1000000) (k : ∀ a H', Ex H H' → RT H' a (xs ++ zs) → (a = p ∨ a = q ∨ H a = none) → Q (.ref a) H') : sAdd K (.ref p) (.ref q) H Q :=
  z_addT (.inl h1) (.inl h2) h3 (fun e => k q H (Same.refl _) (by rw [e]; exact h2) (.inr (.inl rfl))) (fun _ e => k p H (Same.refl _) (by rw [e, List.append_nil]; exact h1) (.inl rfl)) fun _ _ a na => k a _ (Ex.new na) (rt_of upd_same) (.inr (.inr na))
end
end R

/-! # H0: comprehensions that draw -/
namespace R
open PySem PySem.Spec PyProof.Rows L2
/-- such data stands when a list is changed -/
def StB {α : Type} (r : Addr) (g : α → PyData) : Prop := ∀ (L : Addr) (H : Hp) (vs zs : List V) (xs : List α) (o : HO), DqAll r H vs (xs.map g) → H L = some (.lst zs) → DqAll r (upd H L o) vs (xs.map g)
theorem rows_upd {r L : Addr} {H : Hp} {vs zs : List V} {ts : List (List Nat)} {o : HO} (h : DqAll r H vs (ts.map dT)) (hL : H L = some (.lst zs)) : DqAll r (upd H L o) vs (ts.map dT) := by
  refine DqAll.by h.len fun i d hd => ?_
  obtain ⟨hi, t, ht, rfl⟩ := map_at hd
  obtain ⟨v, hv, h1⟩ := h.at hd
  obtain ⟨a, rfl, h2, h3, h4⟩ := h1.row
  exact ⟨_, hv, Dq.rowI (rd_kp Kp.set h2 (rt_ne_l h2 hL)) h3 h4⟩
theorem stT {r : Addr} : StB r dT := fun _ _ _ _ _ _ h hL => rows_upd h hL
theorem stN {r : Addr} : StB r dN := fun _ _ vs _ xs _ h _ => by
  have := h.nats
  subst this
  exact dq_nats xs
/-- the list made so far at D, by a source at r -/
def RndP {α : Type} (r l D : Addr) (H0 : Hp) (g : α → PyData) (ok : α → Prop) : Nat → Hp → Prop := LcP D fun i zs H' => Kp r H0 H' ∧ Rng H' r l ∧ ∃ xs : List α, xs.length = i ∧ (∀ x ∈ xs, ok x) ∧ DqAll r H' zs (xs.map g)
section
variable {α : Type} {r l D : Addr} {H0 H1 : Hp} {g : α → PyData} {ok : α → Prop} {i n : Nat}
theorem rnd0 (R : Rng H0 r l) (hD : H0 D = none) : RndP r l D H0 g ok 0 (upd H0 D (.lst [])) := lc0 ⟨Kp.new hD, R.ex (Ex.new hD), [], rfl, fun _ h => absurd h List.not_mem_nil, .nil⟩
theorem RndP.rng (h : RndP r l D H0 g ok i H1) : Rng H1 r l := by
  obtain ⟨_, _, _, _, h, _⟩ := h
  exact h
theorem RndP.kp (h : RndP r l D H0 g ok i H1) : Kp r H0 H1 := by
  obtain ⟨_, _, _, h, _⟩ := h
  exact h
theorem RndP.put (h : RndP r l D H0 g ok i H1) (R0 : Rng H0 r l) (hD : H0 D = none) (st : StB r g) (hi : i < 900000) {H4 : Hp} {y : V} {x : α} (K : Kp r H1 H4) (R4 : Rng H4 r l) (d : Dq r H4 y (g x)) (o : ok x) :
    ∃ acc, H4 D = some (.lst acc) ∧ acc.length < sizeLine ∧ RndP r l D H0 g ok (i + 1) (upd H4 D (.lst (acc ++ [y]))) := by
  obtain ⟨zs, h1, h2, K1, R1, xs, h3, h4, h5⟩ := h
  have nD := R0.ne hD
  have hz := K _ _ h1 nD
  refine ⟨zs, hz, sz_lt (by omega), zs ++ [y], upd_same, by rw [List.length_append, List.length_singleton]; omega, (K1.trans K).mut hD, R4.upd nD (R0.nel hD), xs ++ [x], by rw [List.length_append, h3]; rfl, ?_, ?_⟩
  · intro z hzz
    rcases List.mem_append.mp hzz with hzz | hzz
    · exact h4 z hzz
    · rw [List.mem_singleton.mp hzz]
      exact o
  · have h6 : DqAll r H4 (zs ++ [y]) ((xs ++ [x]).map g) := by
      rw [List.map_append]
      exact (DqAll.kp K _ _ h5).snoc d
    exact st D H4 _ zs _ _ h6 hz
theorem RndP.fin (h : RndP r l D H0 g ok n H1) : ∃ (xs : List α) (zs : List V), H1 D = some (.lst zs) ∧ xs.length = n ∧ (∀ x ∈ xs, ok x) ∧ DqAll r H1 zs (xs.map g) ∧ Kp r H0 H1 ∧ Rng H1 r l := by
  obtain ⟨zs, h1, h2, K1, R1, xs, h3, h4, h5⟩ := h
  exact ⟨xs, zs, h1, h3, h4, h5, K1, R1⟩
end
section
variable {H : Hp} {Q : VK} {E : XK} {r l : Addr} {m : Int} {K : PySem.W.Frag}
theorem use_drawN {k : Nat} (h : Rng H r l) (c : ∀ (n : Nat) (H' : Hp), n < k → Kp r H H' → Rng H' r l → Q (vN n) H') (hm : m = k := by omega) (h0 : 0 < k := by omega) (h1 : k ≤ 1000000 := by omega) : spDraw [.ref r, .int m] H Q E := by
  subst hm
  refine use_draw h (fun n H' n0 n1 kp R => ?_) (by omega) (by omega)
  obtain ⟨j, rfl⟩ : ∃ j : Nat, n = j := ⟨n.toNat, by omega⟩
  exact c j H' (by omega) kp R
end
def isP (p : Nat) : Prop := p = 2 ∨ p = 3 ∨ p = 5
section
variable {P : Program} {w : World} {K : PySem.W.Frag} {mg : Str → Option Value} {base : Heap}
def spModulus : Sp := fun vs H Q _ => ∃ (r l : Addr), vs = [.ref r] ∧ Rng H r l ∧ ∀ (p : Nat) (H' : Hp), isP p → Kp r H H' → Rng H' r l → Q (vN p) H'
theorem ok_modulus (T : Txt K mg) : Ok P w K mg base 3 T.modulus spModulus := by
  refine ok_of T.modulus sc_modulus (fun vs H Q E h => ?_) (fun cdv A outer s H vs Q E hr h => ?_)
  · obtain ⟨r, l, rfl, _⟩ := h
    rfl
  · obtain ⟨r, l, rfl, R0, k⟩ := h
    refine ⟨_, ((pss_one (ps_ret (pcall T.pick (ok_pick T) (hr.mono (by omega)) passE (pa_cons (pv 0) (pa_cons (pe_lst (pa_cons pe_int (pa_cons pe_int (pa_cons pe_int (pa_cons pe_int (pa_cons pe_int (pa_cons pe_int pa_nil))))))) pa_nil)))))), ?_⟩
    refine go [some (.ref r)] rfl ?_
    try dsimp only [L2.cxOf]
    walk_at "sx"
    refine z_lst fun p n => ?_
    walk_at "sx"
    refine use_pick (R0.ex (Ex.new n)) (sq_l (sq_of upd_same)) (R0.ne n) fun v H' hv kp R => ?_
    simp only [List.mem_cons, List.not_mem_nil, or_false] at hv
    have k2 : ∀ q : Nat, isP q → Q (vN q) H' := fun q hq => k q H' hq ((Kp.new n).trans kp) R
    rcases hv with rfl | rfl | rfl | rfl | rfl | rfl
    · exact k2 2 (.inl rfl)
    · exact k2 2 (.inl rfl)
    · exact k2 2 (.inl rfl)
    · exact k2 3 (.inr (.inl rfl))
    · exact k2 3 (.inr (.inl rfl))
    · exact k2 5 (.inr (.inr rfl))
theorem use_modulus {H : Hp} {Q : VK} {E : XK} {r l : Addr} (h : Rng H r l) (k : ∀ (p : Nat) (H' : Hp), isP p → Kp r H H' → Rng H' r l → Q (vN p) H') : spModulus [.ref r] H Q E := ⟨r, l, rfl, h, k⟩
/-- a row of digits below p, at most m of them -/
def spRow : Sp := fun vs H Q _ => ∃ (r l : Addr) (p m : Nat), vs = [.ref r, vN p, vN m] ∧ Rng H r l ∧ 0 < p ∧ p ≤ 1000000 ∧ m < 900000 ∧ ∀ (ds : List Nat) (a : Addr) (H' : Hp), (∀ d ∈ ds, d < p) → ds.length ≤ m → Kp r H H' → Rng H' r l → a ≠ r → H a = none → H' a = some (.tup (ds.map vN)) → Q (.ref a) H'
theorem ok_row (T : Txt K mg) : Ok P w K mg base 2 T.row spRow := by
  refine ok_of T.row sc_row (fun vs H Q E h => ?_) (fun cdv A outer s H vs Q E hr h => ?_)
  · obtain ⟨r, l, p, m, rfl, _⟩ := h
    rfl
  · obtain ⟨r, l, p, m, rfl, R0, p0, p1, hm, k⟩ := h
    refine ⟨_, ((pss_one (ps_ret (pe_callTy call_sTuple (by rfl) T.b_tuple (by decide +kernel) (pa_cons (pe_lc (own := [("_law_k", 3)]) (g := (gName 3)) (tt := tYes) (te := (tCall _ [] E0 (tCons (tVar 0) (tCons (tVar 1) tNil)))) (by rfl) sc_row.nd (pi_range1 (by rfl) T.b_range (pa_cons (pcall T.draw (ok_draw T) (hr.mono (by omega)) passE (pa_cons (pv 0) (pa_cons (pe_op op_sAdd (pv 2) pe_int) pa_nil))) pa_nil)) (blkOk_by (own := [("_law_k", 3)]) (N := N_row) (sc := defScope s_row) (by decide +kernel)) (fun _ _ _ _ _ => by exact (pg_name (i := 3) sc_row.nd rfl (by first | exact Or.inl rfl | exact Or.inr rfl))) (fun _ _ _ _ _ => by exact pts_nil) (fun _ _ _ _ _ => by exact (pcall T.draw (ok_draw T) (hr.mono (by omega)) passL (pa_cons (pv 0) (pa_cons (pv 1) pa_nil))))) pa_nil))))), ?_⟩
    refine go [some (.ref r), some (vN p), some (vN m), none] rfl ?_
    try dsimp only [L2.cxOf]
    walk_at "sx"
    refine use_drawN (k := m + 1) R0 fun n H1 hn k1 R1 => ?_
    walk_at "sx"
    refine z_r1 (by omega) (by omega) ?_
    intro D hD
    refine lc_it (n := n) (by exact walk_range) (RndP r l D H1 dN (· < p)) (rnd0 R1 hD) (fun _ _ _ _ => trivial) ?_ ?_
    · rintro i x H2 H3 hi hP ⟨rfl, rfl⟩
      walk_at "sx"
      refine ⟨rfl, ?_⟩
      walk_at "sx"
      refine use_drawN (k := p) hP.rng fun d H4 hd k4 R4 => ?_
      exact hP.put R1 hD stN (by omega) k4 R4 (.int _) hd
    · intro H2 hP
      obtain ⟨ds, zs, hz, hl, hds, hq, k2, R2⟩ := hP.fin
      have := hq.nats
      subst this
      walk_at "sx"
      refine z_tupL (sq_of hz) fun a na => ?_
      exact k ds a _ hds (by omega) ((k1.trans k2).trans (Kp.new na)) (R2.ex (Ex.new na)) (R2.ne na) ((k1.trans k2).none na (R2.ne na)) upd_same
theorem use_row {H : Hp} {Q : VK} {E : XK} {r l : Addr} {p m : Nat} (h : Rng H r l) (k : ∀ (ds : List Nat) (a : Addr) (H' : Hp), (∀ d ∈ ds, d < p) → ds.length ≤ m → Kp r H H' → Rng H' r l → a ≠ r → H a = none → H' a = some (.tup (ds.map vN)) → Q (.ref a) H') (p0 : 0 < p := by omega) (p1 : p ≤ 1000000 := by omega) (hm : m < 900000 := by omega) : spRow [.ref r, vN p, vN m] H Q E := ⟨r, l, p, m, rfl, h, p0, p1, hm, k⟩
def spSmallRow : Sp := fun vs H Q _ => ∃ (r l : Addr) (p : Nat), vs = [.ref r, vN p] ∧ Rng H r l ∧ 0 < p ∧ p ≤ 1000000 ∧ ∀ (ds : List Nat) (a : Addr) (H' : Hp), (∀ d ∈ ds, d < p) → ds.length ≤ 80 → Kp r H H' → Rng H' r l → a ≠ r → H a = none → H' a = some (.tup (ds.map vN)) → Q (.ref a) H'
theorem ok_small_row (T : Txt K mg) : Ok P w K mg base 3 T.small_row spSmallRow := by
  refine ok_of T.small_row sc_small_row (fun vs H Q E h => ?_) (fun cdv A outer s H vs Q E hr h => ?_)
  · obtain ⟨r, l, p, rfl, _⟩ := h
    rfl
  · obtain ⟨r, l, p, rfl, R0, p0, p1, k⟩ := h
    refine ⟨_, ((pss_one (ps_ret (pcall T.row (ok_row T) (hr.mono (by omega)) passE (pa_cons (pv 0) (pa_cons (pv 1) (pa_cons (pcall T.pick (ok_pick T) (hr.mono (by omega)) passE (pa_cons (pv 0) (pa_cons (pe_lst (pa_cons pe_int (pa_cons pe_int (pa_cons pe_int pa_nil)))) pa_nil))) pa_nil))))))), ?_⟩
    refine go [some (.ref r), some (vN p)] rfl ?_
    try dsimp only [L2.cxOf]
    walk_at "sx"
    refine z_lst fun q n => ?_
    walk_at "sx"
    refine use_pick (R0.ex (Ex.new n)) (sq_l (sq_of upd_same)) (R0.ne n) fun v H' hv kp R => ?_
    simp only [List.mem_cons, List.not_mem_nil, or_false] at hv
    have k1 := (Kp.new (r := r) n).trans kp
    obtain ⟨m, rfl, hm⟩ : ∃ m : Nat, v = vN m ∧ m ≤ 80 := by
      rcases hv with rfl | rfl | rfl
      · exact ⟨3, rfl, by decide⟩
      · exact ⟨8, rfl, by decide⟩
      · exact ⟨80, rfl, by decide⟩
    walk_at "sx"
    exact use_row R fun ds a H2 h1 h2 k2 R2 na nb ha => k ds a H2 h1 (by omega) (k1.trans k2) R2 na (k1.none nb na) ha
theorem use_small_row {H : Hp} {Q : VK} {E : XK} {r l : Addr} {p : Nat} (h : Rng H r l) (k : ∀ (ds : List Nat) (a : Addr) (H' : Hp), (∀ d ∈ ds, d < p) → ds.length ≤ 80 → Kp r H H' → Rng H' r l → a ≠ r → H a = none → H' a = some (.tup (ds.map vN)) → Q (.ref a) H') (p0 : 0 < p := by omega) (p1 : p ≤ 1000000 := by omega) : spSmallRow [.ref r, vN p] H Q E := ⟨r, l, p, rfl, h, p0, p1, k⟩
end
end R

/-! # M1: moduli, rows -/
namespace R
open PySem PySem.Spec PyProof.Rows L2
/-- r stands somewhere (the law's source) -/
def Liv (H : Hp) (r : Addr) : Prop := ∃ o, H r = some o
theorem Liv.ne {H : Hp} {r p : Addr} (h : Liv H r) (n : H p = none) : p ≠ r := by
  obtain ⟨o, h⟩ := h
  exact Ne.symm (ne_of_none h n)
theorem Liv.ex {H H' : Hp} {r : Addr} (h : Liv H r) (e : Ex H H') : Liv H' r := by
  obtain ⟨o, h⟩ := h
  exact ⟨o, e _ _ h⟩
theorem Rng.liv {H : Hp} {r l : Addr} (h : Rng H r l) : Liv H r := by
  obtain ⟨ns, i, c, s, h1, _⟩ := h
  exact ⟨_, h1⟩
def okMod (p : Int) : Bool := inV (.int p) [.int 2, .int 3, .int 5]
theorem okMod_iff {p : Int} : okMod p = true ↔ p = 2 ∨ p = 3 ∨ p = 5 := by
  unfold okMod inV eqV
  simp only [List.any_cons, List.any_nil, Bool.or_false, Bool.or_eq_true, beq_iff_eq]
  constructor
  · rintro (h | h | h) <;> omega
  · rintro (h | h | h) <;> omega
section
variable {P : Program} {w : World} {K : PySem.W.Frag} {mg : Str → Option Value} {base : Heap}
def spCheckModulus (T : Txt K mg) : Sp := fun vs H Q E => ∃ p : Int, vs = [.int p] ∧ (okMod p = true → Q .non H) ∧ (okMod p = false → Er E T.e_InvalidModulus.C [("tag", .str "InvalidModulus")] H)
theorem ok_check_modulus (T : Txt K mg) : Ok P w K mg base 3 T.check_modulus (spCheckModulus T) := by
  refine ok_of T.check_modulus sc_check_modulus (fun vs H Q E h => ?_) (fun cdv A outer s H vs Q E hr h => ?_)
  · obtain ⟨p, rfl, _⟩ := h
    rfl
  · obtain ⟨p, rfl, k1, k2⟩ := h
    refine ⟨_, ((pss_one (ps_if (pt_cmpR op_sNotIn (pv 0) (pglob T.c_MODULI (by rfl)) (by rfl))
  (pss_one (praise0 T.e_InvalidModulus (ei_InvalidModulus T) (hr.mono (by omega)) rfl (takes_of rfl rfl rfl rfl)))
  pss_nil))), ?_⟩
    refine go [some (.int p)] rfl ?_
    try dsimp only [L2.cxOf]
    walk_at "sx"
    refine z_ninI (sq_t (T.t_MODULI H)) rfl ?_
    walk_at "sx"
    show if (!okMod p) = true then _ else _
    cases e : okMod p with
    | true =>
      walk_at "sx"
      exact k1 e
    | false =>
      walk_at "sx"
      exact z_rs rfl (by decide) (k2 e)
/-- a row: a tuple (or list) of ints -/
def okRow (ns : List Int) (p : Int) : Bool := decide ((ns.length : Int) ≤ 80) && ns.all fun d => decide (0 ≤ d) && decide (d < p)
def spAllDigits (K : PySem.W.Frag) : Sp := fun vs H Q _ => ∃ (a : Addr) (ns : List Int) (p : Int), vs = [.ref a, .int p] ∧ SqT K H a (ns.map V.int) ∧ ns.length ≤ 900000 ∧ ∀ H', Ex H H' → Q (.bl (okRow ns p)) H'
theorem ok_all_digits (T : Txt K mg) : Ok P w K mg base 1 T.all_digits (spAllDigits K) := by
  refine ok_of T.all_digits sc_all_digits (fun vs H Q E h => ?_) (fun cdv A outer s H vs Q E hr h => ?_)
  · obtain ⟨a, ns, p, rfl, _⟩ := h
    rfl
  · obtain ⟨a, ns, p, rfl, hS, hn, k⟩ := h
    refine ⟨_, ((pss_one (ps_ret (pe_and (pe_cmpR op_sLe (pe_callB call_sLen (by rfl) T.b_len (by decide +kernel) (pa_cons (pv 0) pa_nil)) (pglob T.c_MAX_DIGITS (by rfl)) (nomark _)) (pe_one (pe_callB (call_sAll (by rfl)) (by rfl) T.b_all (by decide +kernel) (pa_cons (pe_lc (own := [("digit", 2)]) (g := (gName 2)) (tt := tYes) (te := (tChain sLe sLt (tC _) (tVar 2) (tVar 1))) (by rfl) sc_all_digits.nd (pi_s (pv 0)) (blkOk_by (own := [("digit", 2)]) (N := N_all_digits) (sc := defScope s_all_digits) (by decide +kernel)) (fun _ _ _ _ _ => by exact (pg_name (i := 2) sc_all_digits.nd rfl (by first | exact Or.inl rfl | exact Or.inr rfl))) (fun _ _ _ _ _ => by exact pts_nil) (fun _ _ _ _ _ => by exact (pe_chain op_sLe op_sLt pe_int (pv 2) (pv 1)))) pa_nil))))))), ?_⟩
    refine go [some (.ref a), some (.int p), none] rfl ?_
    try dsimp only [L2.cxOf]
    walk_at "sx"
    refine z_len (sq_t hS) ?_
    walk_at "sx"
    rw [List.length_map]
    refine y_ite (fun c1 => ?_) (fun c1 => ?_)
    · walk_at "sx"
      refine z_sT hS ?_
      intro D hD
      refine lc_it walk_tup (LcP D fun i zs H' => Ex H H' ∧ zs = ((ns.take i).map fun d => decide (0 ≤ d) && decide (d < p)).map V.bl) (lc0 ⟨Ex.new hD, rfl⟩) (fun i H' hi ⟨zs, _, _, e, _⟩ => st_ex e hS) ?_ ?_
      · rintro i x H1 H2 hi ⟨zs, hz1, hzl, e, ez⟩ ⟨rfl, hx⟩
        obtain ⟨d, hd, rfl⟩ : ∃ d, ns[i]? = some d ∧ x = V.int d := by
          rw [List.getElem?_map] at hx
          cases q : ns[i]? with
          | none => rw [q] at hx; cases hx
          | some z => rw [q] at hx; exact ⟨z, rfl, (Option.some.inj hx).symm⟩
        have fin : ∀ b, (decide (0 ≤ d) && decide (d < p)) = b → LcP D (fun i zs H' => Ex H H' ∧ zs = ((ns.take i).map fun d => decide (0 ≤ d) && decide (d < p)).map V.bl) (i + 1) (upd H2 D (.lst (zs ++ [.bl b]))) := fun b hb => by
          refine ⟨_, upd_same, by rw [List.length_append, List.length_singleton]; omega, Ex.mut e hD, ?_⟩
          rw [ez, List.take_add_one, hd, List.map_append, List.map_append, ← hb]
          rfl
        walk_at "sx"
        refine ⟨rfl, ?_⟩
        walk_at "sx"
        refine y_ite (fun c2 => ?_) (fun c2 => ?_)
        · walk_at "sx"
          exact ⟨zs, hz1, sz_lt (by rw [List.length_map] at hi; omega), fin _ (by rw [decide_eq_true c2, Bool.true_and])⟩
        · exact ⟨zs, hz1, sz_lt (by rw [List.length_map] at hi; omega), fin _ (by rw [decide_eq_false c2, Bool.false_and])⟩
      · rintro H1 ⟨zs, hz1, hzl, e, ez⟩
        rw [List.length_map, List.take_length] at ez
        rw [ez] at hz1
        walk_at "sx"
        refine z_all (sq_of hz1) ?_
        have := k H1 e
        unfold okRow at this
        rw [decide_eq_true c1, Bool.true_and] at this
        rw [List.all_map]
        exact this
    · walk_at "sx"
      have := k H (Same.refl _)
      unfold okRow at this
      rw [decide_eq_false c1, Bool.false_and] at this
      exact this
def spCheckRow (T : Txt K mg) : Sp := fun vs H Q E => ∃ (a : Addr) (ns : List Int) (p : Int), vs = [.ref a, .int p] ∧ SqT K H a (ns.map V.int) ∧ ns.length ≤ 900000 ∧ (okRow ns p = true → ∀ H', Ex H H' → Q .non H') ∧ (okRow ns p = false → Er E T.e_InvalidRow.C [("tag", .str "InvalidRow")] H)
theorem Er.back {E : XK} {C : Addr} {fs : List (Str × V)} {H H' : Hp} (h : Er E C fs H) (e : Ex H H') : Er E C fs H' := fun d H2 nd h2 e2 => h d H2 (e.none nd) h2 (e.trans e2)
theorem ok_check_row (T : Txt K mg) : Ok P w K mg base 3 T.check_row (spCheckRow T) := by
  refine ok_of T.check_row sc_check_row (fun vs H Q E h => ?_) (fun cdv A outer s H vs Q E hr h => ?_)
  · obtain ⟨a, ns, p, rfl, _⟩ := h
    rfl
  · obtain ⟨a, ns, p, rfl, hS, hn, k1, k2⟩ := h
    refine ⟨_, ((pss_one (ps_if (pt_not (pt_val (pcall T.all_digits (ok_all_digits T) (hr.mono (by omega)) passE (pa_cons (pv 0) (pa_cons (pv 1) pa_nil)))))
  (pss_one (praise0 T.e_InvalidRow (ei_InvalidRow T) (hr.mono (by omega)) rfl (takes_of rfl rfl rfl rfl)))
  pss_nil))), ?_⟩
    refine go [some (.ref a), some (.int p)] rfl ?_
    try dsimp only [L2.cxOf]
    walk_at "sx"
    refine ⟨a, ns, p, rfl, hS, hn, fun H1 e1 => ?_⟩
    walk_at "sx"
    cases e : okRow ns p with
    | true =>
      walk_at "sx"
      exact k1 e H1 e1
    | false =>
      walk_at "sx"
      exact z_rs rfl (by decide) ((k2 e).back e1)
end
end R

/-! # M2: the machine's tables -/
namespace R
open PySem PySem.Spec PyProof.Rows L2
/-- tables as given: lists of whole numbers -/
def rowBad (p : Int) (n : Nat) (c : Int) (ts : List Int) : Bool := !(decide (0 ≤ c) && decide (c < p)) || !(decide ((ts.length : Int) = p)) || !(ts.all fun t => decide (0 ≤ t) && decide (t < (n : Int)))
def rowBadAt (p : Int) (ad : List Int) (tg : List (List Int)) (i : Nat) : Bool := rowBad p ad.length (ad.getD i 0) (tg.getD i [])
def headOk (ad : List Int) (tg : List (List Int)) (st : Int) : Bool := decide (1 ≤ ad.length ∧ ad.length ≤ 40 ∧ tg.length = ad.length) && decide (0 ≤ st ∧ st < (ad.length : Int))
/-- what InvalidMachine names -/
def tabErr (p : Int) (ad : List Int) (tg : List (List Int)) (st : Int) : Option Int :=
  if headOk ad tg st = true then ((List.range ad.length).find? (rowBadAt p ad tg)).map Int.ofNat else some (-1)
theorem headOk_no {ad : List Int} {tg : List (List Int)} {st p : Int} (h : headOk ad tg st = false) : tabErr p ad tg st = some (-1) := by
  unfold tabErr
  rw [h]
  rfl
theorem headOk_iff {ad : List Int} {tg : List (List Int)} {st : Int} : headOk ad tg st = true ↔ (1 ≤ ad.length ∧ ad.length ≤ 40 ∧ tg.length = ad.length) ∧ 0 ≤ st ∧ st < (ad.length : Int) := by
  unfold headOk
  simp
theorem headOk_nof {ad : List Int} {tg : List (List Int)} {st : Int} (h : ¬((1 ≤ ad.length ∧ ad.length ≤ 40 ∧ tg.length = ad.length) ∧ 0 ≤ st ∧ st < (ad.length : Int))) : headOk ad tg st = false := by
  cases e : headOk ad tg st with
  | false => rfl
  | true => exact absurd (headOk_iff.mp e) h
theorem tabErr_at {p : Int} {ad : List Int} {tg : List (List Int)} {st : Int} {i : Nat} (h : headOk ad tg st = true) (hi : i < ad.length) (hb : rowBadAt p ad tg i = true) (hl : ∀ j, j < i → rowBadAt p ad tg j = false) : tabErr p ad tg st = some (i : Int) := by
  unfold tabErr
  rw [if_pos h]
  have : (List.range ad.length).find? (rowBadAt p ad tg) = some i := by
    rw [List.find?_range_eq_some]
    exact ⟨hb, by simpa using hi, fun j hj => by simpa using hl j hj⟩
  rw [this]
  rfl
theorem tabErr_none {p : Int} {ad : List Int} {tg : List (List Int)} {st : Int} (h : headOk ad tg st = true) (hl : ∀ j, j < ad.length → rowBadAt p ad tg j = false) : tabErr p ad tg st = none := by
  unfold tabErr
  rw [if_pos h]
  have : (List.range ad.length).find? (rowBadAt p ad tg) = none := by
    rw [List.find?_range_eq_none]
    intro j hj
    simpa using hl j hj
  rw [this]
  rfl
/-- rows of whole numbers: each a list or a tuple, away from r -/
def RowsI (r : Addr) (H : Hp) (rs : List V) (tg : List (List Int)) : Prop := rs.length = tg.length ∧ ∀ (i : Nat) (ts : List Int), tg[i]? = some ts → ∃ a, rs[i]? = some (.ref a) ∧ RQ H a (ts.map V.int) ∧ ts.length ≤ 900000 ∧ a ≠ r
theorem RowsI.ex {r : Addr} {H H' : Hp} {rs : List V} {tg : List (List Int)} (h : RowsI r H rs tg) (e : Ex H H') : RowsI r H' rs tg := ⟨h.1, fun i ts ht => by
  obtain ⟨a, h1, h2, h3⟩ := h.2 i ts ht
  exact ⟨a, h1, h2.ex e, h3⟩⟩
theorem RowsI.kp {r x : Addr} {H H' : Hp} {rs : List V} {tg : List (List Int)} (h : RowsI r H rs tg) (e : Kp x H H') (n : ∀ a xs, RQ H a xs → a ≠ x) : RowsI r H' rs tg := ⟨h.1, fun i ts ht => by
  obtain ⟨a, h1, h2, h3⟩ := h.2 i ts ht
  exact ⟨a, h1, h2.kp e (n a _ h2), h3⟩⟩
section
variable {P : Program} {w : World} {K : PySem.W.Frag} {mg : Str → Option Value} {base : Heap}
/-- a list or a tuple walked -/
theorem z_sQ {K : PySem.W.Frag} {H : Hp} {a : Addr} {xs : List V} {R : It → Hp → Prop} (h : Sq K H a xs) (q : ∀ J G, Walk J xs.length G (YAt xs) → (∀ H', Ex H H' → G H') → R J H) : rS K (.ref a) H R := by
  rcases h with h | h
  · exact z_sL h (q _ _ walk_list fun H' e => sq_ex e h)
  · exact z_sT h (q _ _ walk_tup fun H' e => st_ex e h)
/-- check_tables: the first fault, or nothing -/
def spCheckTables (T : Txt K mg) : Sp := fun vs H Q E => ∃ (r : Addr) (p st : Int) (c t : Addr) (ad : List Int) (rs : List V) (tg : List (List Int)), vs = [.int p, .ref c, .ref t, .int st] ∧ RL H c (ad.map V.int) ∧ RQ H t rs ∧ RowsI r H rs tg ∧ ad.length ≤ 900000 ∧ tg.length ≤ 900000 ∧
  (tabErr p ad tg st = none → ∀ H', Ex H H' → Q .non H') ∧ (∀ s, tabErr p ad tg st = some s → ∀ H', Ex H H' → Er E T.e_InvalidMachine.C [("state", .int s), ("tag", .str "InvalidMachine")] H')
theorem ok_check_tables (T : Txt K mg) : Ok P w K mg base 3 T.check_tables (spCheckTables T) := by
  refine ok_of T.check_tables sc_check_tables (fun vs H Q E h => ?_) (fun cdv A outer s H vs Q E hr h => ?_)
  · obtain ⟨r, p, st, c, t, ad, rs, tg, rfl, _⟩ := h
    rfl
  · obtain ⟨r, p, st, c, t, ad, rs, tg, rfl, hc, ht, hrs, hn1, hn2, k1, k2⟩ := h
    refine ⟨_, ((pss_cons (ps_if (PW.pt (pw_or (pt_not (pt_chain op_sLe op_sLe pe_int (pe_callB call_sLen (by rfl) T.b_len (by decide +kernel) (pa_cons (pv 1) pa_nil)) (pglob T.c_MAX_STATES (by rfl)))) (pw_or1 (pt_cmpR (op_sNe hr.units) (pe_callB call_sLen (by rfl) T.b_len (by decide +kernel) (pa_cons (pv 2) pa_nil)) (pe_callB call_sLen (by rfl) T.b_len (by decide +kernel) (pa_cons (pv 1) pa_nil)) (nomark _)))))
  (pss_one (praise T.e_InvalidMachine (ei_InvalidMachine T) (hr.mono (by omega)) rfl (takes_of rfl rfl rfl rfl) (by exact (pa_cons (pe_un un_neg pe_int) pa_nil))))
  pss_nil)
  (pss_cons (ps_if (pt_not (pt_chain op_sLe op_sLt pe_int (pv 3) (pe_callB call_sLen (by rfl) T.b_len (by decide +kernel) (pa_cons (pv 1) pa_nil))))
  (pss_one (praise T.e_InvalidMachine (ei_InvalidMachine T) (hr.mono (by omega)) rfl (takes_of rfl rfl rfl rfl) (by exact (pa_cons (pe_un un_neg pe_int) pa_nil))))
  pss_nil)
  (pss_one (ps_for ownE rfl (pi_enum (by rfl) T.b_enumerate (pa_cons (pv 1) pa_nil)) (pg_tup rfl (pgs_cons (pg_name (i := 4) sc_check_tables.nd rfl (by first | exact Or.inl rfl | exact Or.inr rfl)) (pgs_cons (pg_name (i := 5) sc_check_tables.nd rfl (by first | exact Or.inl rfl | exact Or.inr rfl)) pgs_nil)))
  (pss_cons (ps_set (i := 6) sc_check_tables.nd rfl (by first | exact Or.inl rfl | exact Or.inr rfl) (pe_ix ix_s (pv 2) (pv 4) (fun _ _ => rfl)))
  (pss_cons (ps_if (PW.pt (pw_or (pt_not (pt_chain op_sLe op_sLt pe_int (pv 5) (pv 0))) (pw_or1 (pt_cmpR (op_sNe hr.units) (pe_callB call_sLen (by rfl) T.b_len (by decide +kernel) (pa_cons (pv 6) pa_nil)) (pv 0) (nomark _)))))
  (pss_one (praise T.e_InvalidMachine (ei_InvalidMachine T) (hr.mono (by omega)) rfl (takes_of rfl rfl rfl rfl) (by exact (pa_cons (pv 4) pa_nil))))
  pss_nil)
  (pss_one (ps_if (pt_not (pt_val (pe_callB (call_sAll (by rfl)) (by rfl) T.b_all (by decide +kernel) (pa_cons (pe_lc (own := [("target", 7)]) (g := (gName 7)) (tt := tYes) (te := (tChain sLe sLt (tC _) (tVar 7) (tCB (sLen K) (tCons (tVar 1) tNil)))) (by rfl) sc_check_tables.nd (pi_s (pv 6)) (blkOk_by (own := [("target", 7)]) (N := N_check_tables) (sc := defScope s_check_tables) (by decide +kernel)) (fun _ _ _ _ _ => by exact (pg_name (i := 7) sc_check_tables.nd rfl (by first | exact Or.inl rfl | exact Or.inr rfl))) (fun _ _ _ _ _ => by exact pts_nil) (fun _ _ _ _ _ => by exact (pe_chain op_sLe op_sLt pe_int (pv 7) (pe_callB call_sLen (by rfl) T.b_len (by decide +kernel) (pa_cons (pv 1) pa_nil))))) pa_nil))))
  (pss_one (praise T.e_InvalidMachine (ei_InvalidMachine T) (hr.mono (by omega)) rfl (takes_of rfl rfl rfl rfl) (by exact (pa_cons (pv 4) pa_nil))))
  pss_nil))))))))), ?_⟩
    refine go [some (.int p), some (.ref c), some (.ref t), some (.int st), none, none, none, none] rfl ?_
    try dsimp only [L2.cxOf]
    walk_at "sx"
    refine z_len (sq_l (.inl hc)) ?_
    walk_at "sx"
    rw [List.length_map]
    have bad0 : ¬((1 ≤ ad.length ∧ ad.length ≤ 40 ∧ tg.length = ad.length) ∧ 0 ≤ st ∧ st < (ad.length : Int)) → ∀ H', Ex H H' → Er E T.e_InvalidMachine.C [("state", .int (-1)), ("tag", .str "InvalidMachine")] H' := fun h => k2 (-1) (headOk_no (headOk_nof h))
    refine y_ite (fun c1 => ?_) (fun c1 => ?_)
    · walk_at "sx"
      refine y_iteN (fun c2 => ?_) (fun c2 => ?_)
      · walk_at "sx"
        exact z_rs rfl (by decide) (bad0 (by omega) H (Same.refl _))
      · walk_at "sx"
        refine z_len ht.sq ?_
        walk_at "sx"
        refine z_len (sq_l (.inl hc)) ?_
        walk_at "sx"
        rw [List.length_map, hrs.1]
        refine y_iteN (fun c3 => ?_) (fun c3 => ?_)
        · walk_at "sx"
          exact z_rs rfl (by decide) (bad0 (by omega) H (Same.refl _))
        · walk_at "sx"
          refine y_ite (fun c4 => ?_) (fun c4 => ?_)
          · walk_at "sx"
            refine z_len (sq_l (.inl hc)) ?_
            walk_at "sx"
            rw [List.length_map]
            refine y_iteN (fun c5 => ?_) (fun c5 => ?_)
            · walk_at "sx"
              exact z_rs rfl (by decide) (bad0 (by omega) H (Same.refl _))
            · have hk : headOk ad tg st = true := headOk_iff.mpr ⟨by omega, by omega⟩
              walk_at "sx"
              refine z_enum (.inl hc) ?_
              refine for_it walk_enum (fun i σ H' => Ex H H' ∧ (∀ j, j < i → rowBadAt p ad tg j = false) ∧ ∃ a b d, σ = [some (.int p), some (.ref c), some (.ref t), some (.int st), a, b, d, none]) ⟨Same.refl _, fun _ h => absurd h (Nat.not_lt_zero _), _, _, _, rfl⟩ (fun i σ H' hi ⟨e, _⟩ => sq_ex e (.inl hc)) ?_ ?_
              · rintro i y σ H2 _ hi ⟨e2, hl, a, b, d, rfl⟩ ⟨T1, a, b, rfl, hT, rfl, ha, hb⟩
                obtain ⟨hi', c0, hc0, rfl⟩ := map_at hb
                obtain rfl := Option.some.inj ha
                have hti : tg[i]? = some (tg.getD i []) := getD_at (by omega)
                have e3 := e2.trans (Ex.new (o := .tup [.int (i : Nat), .int c0]) hT)
                obtain ⟨a', hr', hs', hls, _⟩ := (hrs.ex e3).2 i _ hti
                generalize hts : tg.getD i [] = ts at hti hs' hls
                have hbad : rowBadAt p ad tg i = rowBad p ad.length c0 ts := by
                  unfold rowBadAt
                  rw [hts, List.getD_eq_getElem?_getD, hc0]
                  rfl
                have k2' : rowBad p ad.length c0 ts = true → ∀ H', Ex H H' → Er E T.e_InvalidMachine.C [("state", .int (i : Int)), ("tag", .str "InvalidMachine")] H' := fun hb => k2 i (tabErr_at hk hi' (hbad.trans hb) hl)
                have k3 : rowBad p ad.length c0 ts = false → ∀ j, j < i + 1 → rowBadAt p ad tg j = false := fun hb j hj => by
                  by_cases hji : j = i
                  · rw [hji]; exact hbad.trans hb
                  · exact hl j (by omega)
                refine x_gtup (st_of upd_same) rfl ?_
                walk_at "sx"
                refine z_ix (ht.ex e3).sq (atI_nat hr') ?_
                walk_at "sx"
                refine y_ite (fun d1 => ?_) (fun d1 => ?_)
                · walk_at "sx"
                  refine y_iteN (fun d2 => ?_) (fun d2 => ?_)
                  · walk_at "sx"
                    refine z_rs rfl (by decide) (k2' ?_ _ e3)
                    unfold rowBad
                    simp [d2]
                  · walk_at "sx"
                    refine z_len hs'.sq ?_
                    walk_at "sx"
                    rw [List.length_map]
                    refine y_iteN (fun d3 => ?_) (fun d3 => ?_)
                    · walk_at "sx"
                      refine z_rs rfl (by decide) (k2' ?_ _ e3)
                      unfold rowBad
                      simp [d3]
                    · walk_at "sx"
                      have inn : Sq K (upd H2 T1 (.tup [.int (i : Nat), .int c0])) a' (ts.map V.int) := hs'.sq
                      refine z_sQ inn fun J G hW hG => ?_
                      generalize hH3 : upd H2 T1 (.tup [.int (i : Nat), .int c0]) = H3 at *
                      intro D hD
                      refine lc_it hW (LcP D fun j zs H' => Ex H3 H' ∧ zs = ((ts.take j).map fun t => decide (0 ≤ t) && decide (t < (ad.length : Int))).map V.bl) (lc0 ⟨Ex.new hD, rfl⟩) (fun j H' hj ⟨zs, _, _, e, _⟩ => hG H' e) ?_ ?_
                      · rintro j x H4 H5 hj ⟨zs, hz1, hzl, e, ez⟩ ⟨rfl, hx⟩
                        obtain ⟨hj', t0, ht0, rfl⟩ := map_at hx
                        have fin : ∀ b, (decide (0 ≤ t0) && decide (t0 < (ad.length : Int))) = b → LcP D (fun j zs H' => Ex H3 H' ∧ zs = ((ts.take j).map fun t => decide (0 ≤ t) && decide (t < (ad.length : Int))).map V.bl) (j + 1) (upd H5 D (.lst (zs ++ [.bl b]))) := fun b hb => by
                          refine ⟨_, upd_same, by rw [List.length_append, List.length_singleton]; omega, Ex.mut e hD, ?_⟩
                          rw [ez, List.take_add_one, ht0, List.map_append, List.map_append, ← hb]
                          rfl
                        walk_at "sx"
                        refine ⟨rfl, ?_⟩
                        walk_at "sx"
                        refine y_ite (fun f1 => ?_) (fun f1 => ?_)
                        · walk_at "sx"
                          refine z_len (sq_l (sq_ex e (sq_ex e3 (.inl hc)))) ?_
                          walk_at "sx"
                          rw [List.length_map]
                          exact ⟨zs, hz1, sz_lt (by omega), fin _ (by rw [decide_eq_true f1, Bool.true_and])⟩
                        · walk_at "sx"
                          exact ⟨zs, hz1, sz_lt (by omega), fin _ (by rw [decide_eq_false f1, Bool.false_and])⟩
                      · rintro H4 ⟨zs, hz1, hzl, e, ez⟩
                        rw [List.length_map, List.take_length] at ez
                        rw [ez] at hz1
                        walk_at "sx"
                        refine z_all (sq_of hz1) ?_
                        walk_at "sx"
                        rw [List.all_map]
                        have hall : (ts.all (id ∘ fun t => decide (0 ≤ t) && decide (t < (ad.length : Int)))) = ts.all fun t => decide (0 ≤ t) && decide (t < (ad.length : Int)) := rfl
                        rw [hall]
                        have hrb : rowBad p ad.length c0 ts = !(ts.all fun t => decide (0 ≤ t) && decide (t < (ad.length : Int))) := by
                          unfold rowBad
                          rw [decide_eq_true d1, decide_eq_true d2, decide_eq_true d3]
                          rfl
                        cases hb4 : (ts.all fun t => decide (0 ≤ t) && decide (t < (ad.length : Int))) with
                        | true =>
                          walk_at "sx"
                          rw [hb4] at hrb
                          exact ⟨e3.trans e, k3 hrb, _, _, _, rfl⟩
                        | false =>
                          walk_at "sx"
                          rw [hb4] at hrb
                          exact z_rs rfl (by decide) (k2' hrb _ (e3.trans e))
                · walk_at "sx"
                  refine z_rs rfl (by decide) (k2' ?_ _ e3)
                  unfold rowBad
                  simp [d1]
              · rintro σ H2 ⟨e2, hl, a, b, d, rfl⟩
                rw [List.length_map] at hl
                walk_at "sx"
                exact k1 (tabErr_none hk hl) H2 e2
          · walk_at "sx"
            exact z_rs rfl (by decide) (bad0 (by omega) H (Same.refl _))
    · walk_at "sx"
      exact z_rs rfl (by decide) (bad0 (by omega) H (Same.refl _))
end
end R

/-! # M3: machines -/
namespace R
open PySem PySem.Spec PyProof.Rows L2
structure Mac where
  p : Nat
  ad : List Nat
  tg : List (List Nat)
  st : Nat
deriving DecidableEq
structure Mac.Ok (M : Mac) : Prop where
  p : M.p = 2 ∨ M.p = 3 ∨ M.p = 5
  n1 : 1 ≤ M.ad.length
  n40 : M.ad.length ≤ 40
  tl : M.tg.length = M.ad.length
  st : M.st < M.ad.length
  ad : ∀ a ∈ M.ad, a < M.p
  tg : ∀ ts ∈ M.tg, ts.length = M.p ∧ ∀ t ∈ ts, t < M.ad.length
abbrev nums (xs : List Nat) : List Int := xs.map Int.ofNat
theorem nums_v (xs : List Nat) : (nums xs).map V.int = xs.map vN := by
  rw [List.map_map]
  rfl
theorem Mac.Ok.noErr {M : Mac} (h : M.Ok) : tabErr M.p (nums M.ad) (M.tg.map nums) M.st = none := by
  refine tabErr_none (headOk_iff.mpr ?_) fun j hj => ?_
  · have := h.n1; have := h.n40; have := h.tl; have := h.st
    simp only [List.length_map]
    omega
  · rw [List.length_map] at hj
    have hj2 : j < M.tg.length := by rw [h.tl]; exact hj
    unfold rowBadAt rowBad
    rw [List.getD_eq_getElem?_getD, List.getD_eq_getElem?_getD, List.getElem?_map, List.getElem?_map, List.getElem?_eq_getElem hj, List.getElem?_eq_getElem hj2]
    have a1 := h.ad _ (List.getElem_mem hj)
    have a2 := h.tg _ (List.getElem_mem hj2)
    simp only [Option.map_some, Option.getD_some, List.length_map, List.all_map, Bool.or_eq_false_iff, Bool.not_eq_false', Bool.and_eq_true, decide_eq_true_eq, List.all_eq_true, Function.comp]
    refine ⟨⟨⟨by simp, by simpa using a1⟩, congrArg Int.ofNat a2.1⟩, fun t ht => ⟨by simp, by simpa using a2.2 t ht⟩⟩
theorem Mac.Ok.okp {M : Mac} (h : M.Ok) : okMod M.p = true := okMod_iff.mpr (by have := h.p; omega)
/-- rows of the law: tuples or lists of numbers -/
def RowsN (r : Addr) (H : Hp) (rs : List V) (tg : List (List Nat)) : Prop := RowsI r H rs (tg.map nums)
/-- a machine stands at v -/
def MAt (C r : Addr) (H : Hp) (v : V) (M : Mac) : Prop := ∃ a dx va vt, v = .ref a ∧ a ≠ r ∧
  H a = some (.ins C dx [("modulus", vN M.p), ("start", vN M.st), ("added", va), ("targets", vt)]) ∧ Dq r H va (dL M.ad) ∧ Dq r H vt (.list (M.tg.map dT))
theorem MAt.kp {C r : Addr} {H H' : Hp} {v : V} {M : Mac} (h : MAt C r H v M) (e : Kp r H H') : MAt C r H' v M := by
  obtain ⟨a, dx, va, vt, rfl, n, h1, h2, h3⟩ := h
  exact ⟨a, dx, va, vt, rfl, n, e _ _ h1 n, Dq.kp e _ _ h2, Dq.kp e _ _ h3⟩
theorem MAt.ex {C r : Addr} {H H' : Hp} {v : V} {M : Mac} (h : MAt C r H v M) (e : Ex H H') : MAt C r H' v M := h.kp e.kp
section
variable {P : Program} {w : World} {K : PySem.W.Frag} {mg : Str → Option Value} {base : Heap}
/-- what a new machine's fields hold -/
def spInit (T : Txt K mg) : Sp := fun vs H Q E => ∃ (r x dx : Addr) (p st : Int) (c t : Addr) (ad : List Int) (rs : List V) (tg : List (List Int)), vs = [.ref x, .int p, .ref c, .ref t, .int st] ∧ H x = some (.ins T.k_Machine.C dx []) ∧ Liv H r ∧ RL H c (ad.map V.int) ∧ RQ H t rs ∧ RowsI r H rs tg ∧ ad.length ≤ 900000 ∧ tg.length ≤ 900000 ∧
  (okMod p = false → Er E T.e_InvalidModulus.C [("tag", .str "InvalidModulus")] H) ∧
  (okMod p = true → ∀ s, tabErr p ad tg st = some s → ∀ H', Ex H H' → Er E T.e_InvalidMachine.C [("state", .int s), ("tag", .str "InvalidMachine")] H') ∧
  (okMod p = true → tabErr p ad tg st = none → ∀ (la lt : Addr) (qs : List V) (H' : Hp), H la = none → H lt = none → Kp x H H' → H' x = some (.ins T.k_Machine.C dx [("modulus", .int p), ("start", .int st), ("added", .ref la), ("targets", .ref lt)]) →
    H' la = some (.lst (ad.map V.int)) → H' lt = some (.lst qs) → qs.length = tg.length → (∀ (i : Nat) (ts : List Int), tg[i]? = some ts → ∃ q, qs[i]? = some (.ref q) ∧ RT H' q (ts.map V.int) ∧ q ≠ r ∧ ts.length ≤ 900000) → Q .non H')
theorem ok_Machine_init (T : Txt K mg) : FnOk P w K mg base (L2.CX P w) 4 T.i_Machine.f T.i_Machine.fd P_Machine_init (spInit T) := by
  refine T.i_Machine.F.ok sc_Machine_init (fun vs H Q E h => ?_) (fun cdv A outer s H vs Q E hr h => ?_)
  · obtain ⟨r, x, dx, p, st, c, t, ad, rs, tg, rfl, _⟩ := h
    rfl
  · obtain ⟨r, x, dx, p, st, c, t, ad, rs, tg, rfl, hx, hr0, hc, ht, hrs, hn1, hn2, k1, k2, k3⟩ := h
    refine ⟨_, ((pss_cons (ps_expr (pcall T.check_modulus (ok_check_modulus T) (hr.mono (by omega)) passE (pa_cons (pv 1) pa_nil)))
  (pss_cons (ps_expr (pcall T.check_tables (ok_check_tables T) (hr.mono (by omega)) passE (pa_cons (pv 1) (pa_cons (pv 2) (pa_cons (pv 3) (pa_cons (pv 4) pa_nil))))))
  (pss_cons (ps_fld (pv 0) (pv 1) rfl)
  (pss_cons (ps_fld (pv 0) (pv 4) rfl)
  (pss_cons (ps_fld (pv 0) (pe_callTy call_sList (by rfl) T.b_list (by decide +kernel) (pa_cons (pv 2) pa_nil)) rfl)
  (pss_one (ps_fld (pv 0) (pe_lc (own := [("row", 5)]) (g := (gName 5)) (tt := tYes) (te := (tCB (sTuple K) (tCons (tVar 5) tNil))) (by rfl) sc_Machine_init.nd (pi_s (pv 3)) (blkOk_by (own := [("row", 5)]) (N := N_Machine_init) (sc := defScope s_Machine_init) (by decide +kernel)) (fun _ _ _ _ _ => by exact (pg_name (i := 5) sc_Machine_init.nd rfl (by first | exact Or.inl rfl | exact Or.inr rfl))) (fun _ _ _ _ _ => by exact pts_nil) (fun _ _ _ _ _ => by exact (pe_callTy call_sTuple (by rfl) T.b_tuple (by decide +kernel) (pa_cons (pv 5) pa_nil)))) rfl)))))))), ?_⟩
    refine go [some (.ref x), some (.int p), some (.ref c), some (.ref t), some (.int st), none] rfl ?_
    try dsimp only [L2.cxOf]
    walk_at "sx"
    refine ⟨p, rfl, fun hp => ?_, k1⟩
    walk_at "sx"
    refine ⟨r, p, st, c, t, ad, rs, tg, rfl, hc, ht, hrs, hn1, hn2, fun he H1 e1 => ?_, k2 hp⟩
    walk_at "sx"
    have nc : c ≠ x := rq_ne_ins (.inl hc) hx
    have hx1 := e1 _ _ hx
    refine z_sfldC [("modulus", .int p)] hx1 T.k_Machine.cl (T.k_Machine.no _ (by decide)) rfl fun H2 k2' hx2 f2 => ?_
    walk_at "sx"
    refine z_sfldC [("modulus", .int p), ("start", .int st)] hx2 T.k_Machine.cl (T.k_Machine.no _ (by decide)) rfl fun H3 k3' hx3 f3 => ?_
    walk_at "sx"
    have hc3 : RL H3 c (ad.map V.int) := rd_kp k3' (rd_kp k2' (rd_ex e1 hc) nc) nc
    refine z_list (sq_l (.inl hc3)) fun la nla => ?_
    walk_at "sx"
    refine z_sfldC [("modulus", .int p), ("start", .int st), ("added", .ref la)] (ne_at (ne_none nla hx3) hx3) T.k_Machine.cl (T.k_Machine.no _ (by decide)) rfl fun H4 k4' hx4 f4 => ?_
    walk_at "sx"
    have nlax : la ≠ x := Ne.symm (ne_none nla hx3)
    have h4la : H4 la = some (.lst (ad.map V.int)) := k4' _ _ upd_same nlax
    have kp4 : Kp x H H4 := ((e1.kp.trans k2').trans k3').trans ((Ex.new nla).kp.trans k4')
    have fr3 : ∀ b, H3 b = none → H b = none := fun b hb => e1.none (f2 _ (f3 _ hb))
    have ht4 : RQ H4 t rs := ht.kp kp4 (rq_ne_ins ht hx)
    have hrs4 : RowsI r H4 rs tg := hrs.kp kp4 fun a xs h => rq_ne_ins h hx
    have hr4 : Liv H4 r := by
      obtain ⟨o, ho⟩ := hr0
      by_cases e : r = x
      · rw [e]; exact ⟨_, hx4⟩
      · exact ⟨o, kp4 _ _ ho e⟩
    refine z_sQ ht4.sq fun J G hW hG => ?_
    intro D hD
    have nDx : D ≠ x := Ne.symm (ne_none hD hx4)
    rw [show rs.length = tg.length from hrs4.1] at hW
    refine lc_it hW (LcP D fun j zs H' => Ex H4 H' ∧ zs.length = j ∧ ∀ (i : Nat) (ts : List Int), i < j → tg[i]? = some ts → ∃ q, zs[i]? = some (.ref q) ∧ RT H' q (ts.map V.int) ∧ q ≠ r ∧ ts.length ≤ 900000) (lc0 ⟨Ex.new hD, rfl, fun _ _ h => absurd h (Nat.not_lt_zero _)⟩) (fun j H' hj ⟨zs, _, _, e, _⟩ => hG H' e) ?_ ?_
    · rintro j v H5 H6 hj ⟨zs, hz1, hzl, e, ez, hq⟩ ⟨rfl, hv⟩
      obtain ⟨ts, hts⟩ : ∃ ts, tg[j]? = some ts := ⟨_, List.getElem?_eq_getElem hj⟩
      obtain ⟨a, ha, hRQ, hle, hne⟩ := hrs4.2 j ts hts
      obtain rfl : v = .ref a := by rw [ha] at hv; exact (Option.some.inj hv).symm
      have hRQ' := hRQ.ex e
      have fin : ∀ q H7, Ex H6 H7 → RT H7 q (ts.map V.int) → q ≠ r → ∃ acc, H7 D = some (.lst acc) ∧ acc.length < sizeLine ∧ LcP D (fun j zs H' => Ex H4 H' ∧ zs.length = j ∧ ∀ (i : Nat) (ts : List Int), i < j → tg[i]? = some ts → ∃ q, zs[i]? = some (.ref q) ∧ RT H' q (ts.map V.int) ∧ q ≠ r ∧ ts.length ≤ 900000) (j + 1) (upd H7 D (.lst (acc ++ [.ref q]))) := fun q H7 e7 hq7 hqr => by
        refine lc_put (e7 _ _ hz1) hzl hj hn2 ⟨Ex.mut (e.trans e7) hD, by rw [List.length_append, ez]; rfl, fun i ts' hi hti => ?_⟩
        have up : ∀ q' xs, RT H7 q' xs → RT (upd H7 D (.lst (zs ++ [.ref q]))) q' xs := fun q' xs h => rd_kp Kp.set h (rt_ne_l h (e7 _ _ hz1))
        by_cases hij : i < j
        · obtain ⟨q', h1, h2, h3⟩ := hq i ts' hij hti
          exact ⟨q', by rw [List.getElem?_append_left (by omega)]; exact h1, up _ _ (rd_ex e7 h2), h3⟩
        · have hij' : i = j := by omega
          subst hij'
          obtain rfl : ts' = ts := by rw [hts] at hti; exact (Option.some.inj hti).symm
          exact ⟨q, by rw [List.getElem?_append_right (by omega), ez]; simp, up _ _ hq7, hqr, hle⟩
      walk_at "sx"
      refine ⟨rfl, ?_⟩
      walk_at "sx"
      rcases hRQ' with h | h
      · refine z_tupL (.inl h) fun q nq => ?_
        exact fin q _ (Ex.new nq) (rt_of upd_same) ((hr4.ex e).ne nq)
      · refine z_tupT (.inl h) ?_
        exact fin a _ (Same.refl _) h hne
    · rintro H5 ⟨zs, hz1, hzl, e, ez, hq⟩
      walk_at "sx"
      refine z_sfldC [("modulus", .int p), ("start", .int st), ("added", .ref la), ("targets", .ref D)] (e _ _ hx4) T.k_Machine.cl (T.k_Machine.no _ (by decide)) rfl fun H6 k6 hx6 f6 => ?_
      walk_at "sx"
      have hD4 := upd_none (f4 _ hD)
      refine k3 hp he la D zs H6 (fr3 _ nla) (fr3 _ hD4.2) (kp4.trans (e.kp.trans k6)) hx6 (k6 _ _ (e _ _ h4la) nlax) (k6 _ _ hz1 nDx) ez fun i ts hti => ?_
      have hi : i < tg.length := (List.getElem?_eq_some_iff.mp hti).1
      obtain ⟨q, h1, h2, h3⟩ := hq i ts hi hti
      exact ⟨q, h1, rd_kp k6 h2 (rq_ne_ins (.inr h2) (e _ _ hx4)), h3⟩
theorem Dq.len {r : Addr} {H : Hp} {v : V} {ds : List PyData} (h : Dq r H v (.list ds)) : ∃ a rs, v = .ref a ∧ RL H a rs ∧ a ≠ r ∧ rs.length = ds.length ∧ ds.length ≤ 900000 ∧ DqAll r H rs ds := by
  cases h with
  | lst h1 h2 h3 h4 => exact ⟨_, _, rfl, h1, h2, h4.len, by rw [← h4.len]; exact h3, h4⟩
theorem rowsN_len {r : Addr} {H : Hp} {rs : List V} {tg : List (List Nat)} (h : RowsN r H rs tg) : rs.length = tg.length := by
  have := h.1
  rwa [List.length_map] at this
/-- M made from its tables -/
theorem use_make {T : Txt K mg} {M : Mac} (hM : M.Ok) {H : Hp} {r c t : Addr} {rs : List V} {Q : VK} {E : XK} (lv : Liv H r) (hc : RL H c (M.ad.map vN)) (ht : RQ H t rs) (hrs : RowsN r H rs M.tg)
    (k : ∀ x H', Ex H H' → H x = none → MAt T.k_Machine.C r H' (.ref x) M → Q (.ref x) H') : rMake T.k_Machine.C (spInit T) [vN M.st] E [vN M.p, .ref c, .ref t] H Q := by
  intro x dx hx hdx nd
  have e0 : Ex H (upd (upd H dx (.own x)) x (.ins T.k_Machine.C dx [])) := (Ex.new hdx).trans (Ex.new (by rw [upd_ne (Ne.symm nd)]; exact hx))
  have l1 := hM.n40
  have l2 := hM.tl
  refine ⟨r, x, dx, M.p, M.st, c, t, nums M.ad, rs, M.tg.map nums, rfl, upd_same, lv.ex e0, ?_, ht.ex e0, hrs.ex e0, by rw [List.length_map]; omega, by rw [List.length_map]; omega, fun h => ?_, fun _ s hs => ?_, fun _ _ la lt qs H' h1 h2 kp hx' hla hlt hql hq => ⟨rfl, ?_⟩⟩
  · rw [nums_v]
    exact rd_ex e0 hc
  · rw [hM.okp] at h
    cases h
  · rw [hM.noErr] at hs
    cases hs
  · have e1 : Ex H H' := fun b o hb => kp b o (e0 _ _ hb) (ne_of_none hb hx)
    have hl0 : H la = none := e0.none h1
    have ht0 : H lt = none := e0.none h2
    refine k x H' e1 hx ⟨x, dx, .ref la, .ref lt, rfl, lv.ne hx, hx', ?_, ?_⟩
    · rw [nums_v] at hla
      exact Dq.lisI (rl_of hla) (lv.ne hl0) (by omega)
    · rw [List.length_map] at hql
      refine .lst (rl_of hlt) (lv.ne ht0) (by omega) (DqAll.by (by rw [List.length_map]; omega) fun i d hd => ?_)
      obtain ⟨hi, ts, hts, rfl⟩ := map_at hd
      obtain ⟨q, h3, h4, h5, h6⟩ := hq i (nums ts) (by rw [List.getElem?_map, hts]; rfl)
      rw [nums_v] at h4
      exact ⟨_, h3, Dq.rowI h4 h5 (by rw [List.length_map] at h6; exact h6)⟩
end
end R

/-! # M4: the machine's methods -/
namespace R
open PySem PySem.Spec PyProof.Rows L2
def Mac.nxt (M : Mac) (s d : Nat) : Nat := (M.tg.getD s []).getD d 0
def Mac.put (M : Mac) (s d : Nat) : Nat := (d + M.ad.getD s 0) % M.p
def Mac.run (M : Mac) (s : Nat) (ds : List Nat) : Nat := ds.foldl M.nxt s
def Mac.out (M : Mac) : Nat → List Nat → List Nat
  | _, [] => []
  | s, d :: ds => M.put s d :: M.out (M.nxt s d) ds
theorem Mac.out_snoc (M : Mac) : ∀ (s : Nat) (ds : List Nat) (d : Nat), M.out s (ds ++ [d]) = M.out s ds ++ [M.put (M.run s ds) d]
  | _, [], _ => rfl
  | s, e :: ds, d => congrArg (M.put s e :: ·) (M.out_snoc (M.nxt s e) ds d)
theorem Mac.run_snoc (M : Mac) (s : Nat) (ds : List Nat) (d : Nat) : M.run s (ds ++ [d]) = M.nxt (M.run s ds) d := by
  unfold Mac.run
  rw [List.foldl_append]
  rfl
theorem Mac.out_len (M : Mac) : ∀ (s : Nat) (ds : List Nat), (M.out s ds).length = ds.length
  | _, [] => rfl
  | s, d :: ds => congrArg Nat.succ (M.out_len _ ds)
theorem Mac.Ok.nxt {M : Mac} (h : M.Ok) {s d : Nat} (hs : s < M.ad.length) (hd : d < M.p) : M.nxt s d < M.ad.length := by
  have hs' : s < M.tg.length := by rw [h.tl]; exact hs
  have := h.tg _ (List.getElem_mem hs')
  unfold Mac.nxt
  have e1 : M.tg.getD s [] = M.tg[s] := by rw [List.getD_eq_getElem?_getD, List.getElem?_eq_getElem hs', Option.getD_some]
  rw [e1, List.getD_eq_getElem?_getD, List.getElem?_eq_getElem (by rw [this.1]; exact hd), Option.getD_some]
  exact this.2 _ (List.getElem_mem _)
theorem Mac.Ok.run {M : Mac} (h : M.Ok) : ∀ {ds : List Nat} {s : Nat}, s < M.ad.length → (∀ d ∈ ds, d < M.p) → M.run s ds < M.ad.length
  | [], _, hs, _ => hs
  | d :: ds, s, hs, hd => h.run (ds := ds) (s := M.nxt s d) (h.nxt hs (hd d (.head _))) fun e he => hd e (.tail _ he)
theorem Mac.Ok.pos {M : Mac} (h : M.Ok) : 0 < M.p ∧ M.p ≤ 5 := by have := h.p; omega
theorem Mac.Ok.put {M : Mac} (h : M.Ok) (s d : Nat) : M.put s d < M.p := Nat.mod_lt _ h.pos.1
theorem Mac.Ok.out {M : Mac} (h : M.Ok) : ∀ (ds : List Nat) (s : Nat), ∀ e ∈ M.out s ds, e < M.p
  | [], _, e, he => nomatch he
  | d :: ds, s, e, he => by
    rcases List.mem_cons.mp he with rfl | he
    · exact h.put s d
    · exact h.out ds _ e he
/-- what okRow says -/
theorem okRow_nums {ns : List Int} {p : Nat} (h : okRow ns p = true) : ∃ ds : List Nat, ns = nums ds ∧ (∀ d ∈ ds, d < p) ∧ ds.length ≤ 80 := by
  unfold okRow at h
  simp only [Bool.and_eq_true, decide_eq_true_eq, List.all_eq_true] at h
  refine ⟨ns.map Int.toNat, ?_, ?_, ?_⟩
  · unfold nums
    rw [List.map_map]
    conv => lhs; rw [← List.map_id ns]
    refine List.map_congr_left fun x hx => ?_
    have := h.2 x hx
    show x = ((x.toNat : Nat) : Int)
    omega
  · intro d hd
    obtain ⟨x, hx, rfl⟩ := List.mem_map.mp hd
    have := h.2 x hx
    omega
  · rw [List.length_map]
    omega
theorem okRow_of {ds : List Nat} {p : Nat} (h : ∀ d ∈ ds, d < p) (h2 : ds.length ≤ 80) : okRow (nums ds) p = true := by
  unfold okRow
  simp only [Bool.and_eq_true, decide_eq_true_eq, List.all_eq_true, List.length_map]
  refine ⟨by omega, fun x hx => ?_⟩
  obtain ⟨d, hd, rfl⟩ := List.mem_map.mp hx
  have := h d hd
  simp only [Int.ofNat_eq_natCast]
  omega
theorem rowsN_of {r : Addr} {H : Hp} {rs : List V} {tg : List (List Nat)} (h : DqAll r H rs (tg.map dT)) : RowsN r H rs tg := by
  refine ⟨by rw [h.len, List.length_map, List.length_map], fun i ts hts => ?_⟩
  obtain ⟨hi, t0, ht0, rfl⟩ := map_at hts
  obtain ⟨v, hv, hd⟩ := h.at (i := i) (d := dT t0) (by rw [List.getElem?_map, ht0]; rfl)
  obtain ⟨a, rfl, h1, h2, h3⟩ := hd.row
  exact ⟨a, hv, .inr (by rw [nums_v]; exact h1), by rw [List.length_map]; exact h3, h2⟩
section
variable {P : Program} {w : World} {K : PySem.W.Frag} {mg : Str → Option Value} {base : Heap}
def spConsts (T : Txt K mg) : Sp := fun vs H Q _ => ∃ (r a : Addr) (M : Mac), vs = [.ref a] ∧ MAt T.k_Machine.C r H (.ref a) M ∧ ∀ l, H l = none → Q (.ref l) (upd H l (.lst (M.ad.map vN)))
theorem ok_Machine_constants (T : Txt K mg) : FnOk P w K mg base (L2.CX P w) 1 T.m_Machine_constants.f T.m_Machine_constants.fd P_Machine_constants (spConsts T) := by
  refine T.m_Machine_constants.F.okX sc_Machine_constants (fun vs H Q E h => ?_) (fun cdv A outer s H vs Q E hr h => ?_)
  · obtain ⟨r, a, M, rfl, _⟩ := h
    rfl
  · obtain ⟨r, a, M, rfl, hM, k⟩ := h
    obtain ⟨a', dx, va, vt, e, n, h1, h2, h3⟩ := hM
    cases e
    obtain ⟨a2, rfl, h4, h5, h6⟩ := h2.lis
    refine ⟨_, ((pss_one (ps_ret (pe_callTy call_sList (by rfl) T.b_list (by decide +kernel) (pa_cons (pe_fld (pv 0) rfl) pa_nil))))), ?_⟩
    refine go [some (.ref a)] rfl ?_
    try dsimp only [L2.cxOf]
    walk_at "sx"
    refine z_fld h1 T.k_Machine.cl (T.k_Machine.no _ (by decide)) rfl ?_
    walk_at "sx"
    refine z_list (sq_l (.inl h4)) fun l nl => ?_
    exact k l nl
def spTrans (T : Txt K mg) : Sp := fun vs H Q _ => ∃ (r a : Addr) (M : Mac), vs = [.ref a] ∧ MAt T.k_Machine.C r H (.ref a) M ∧ ∀ l rs, H l = none → DqAll r H rs (M.tg.map dT) → Q (.ref l) (upd H l (.lst rs))
theorem ok_Machine_transitions (T : Txt K mg) : FnOk P w K mg base (L2.CX P w) 1 T.m_Machine_transitions.f T.m_Machine_transitions.fd P_Machine_transitions (spTrans T) := by
  refine T.m_Machine_transitions.F.okX sc_Machine_transitions (fun vs H Q E h => ?_) (fun cdv A outer s H vs Q E hr h => ?_)
  · obtain ⟨r, a, M, rfl, _⟩ := h
    rfl
  · obtain ⟨r, a, M, rfl, hM, k⟩ := h
    obtain ⟨a', dx, va, vt, e, n, h1, h2, h3⟩ := hM
    cases e
    obtain ⟨a2, rs, rfl, h4, h5, h6, h7, h8⟩ := h3.len
    refine ⟨_, ((pss_one (ps_ret (pe_callTy call_sList (by rfl) T.b_list (by decide +kernel) (pa_cons (pe_fld (pv 0) rfl) pa_nil))))), ?_⟩
    refine go [some (.ref a)] rfl ?_
    try dsimp only [L2.cxOf]
    walk_at "sx"
    refine z_fld h1 T.k_Machine.cl (T.k_Machine.no _ (by decide)) rfl ?_
    walk_at "sx"
    refine z_list (sq_l (.inl h4)) fun l nl => ?_
    exact k l rs nl h8
/-- write: the row written, or InvalidRow -/
def spWrite (T : Txt K mg) : Sp := fun vs H Q E => ∃ (r a b : Addr) (M : Mac) (ns : List Int), vs = [.ref a, .ref b] ∧ M.Ok ∧ MAt T.k_Machine.C r H (.ref a) M ∧ RT H b (ns.map V.int) ∧ ns.length ≤ 900000 ∧
  (∀ ds, ns = nums ds → (∀ d ∈ ds, d < M.p) → ds.length ≤ 80 → ∀ l H', Ex H H' → H l = none → H' l = some (.tup ((M.out M.st ds).map vN)) → Q (.ref l) H') ∧
  (okRow ns M.p = false → Er E T.e_InvalidRow.C [("tag", .str "InvalidRow")] H)
theorem ok_Machine_write (T : Txt K mg) : FnOk P w K mg base (L2.CX P w) 4 T.m_Machine_write.f T.m_Machine_write.fd P_Machine_write (spWrite T) := by
  refine T.m_Machine_write.F.okX sc_Machine_write (fun vs H Q E h => ?_) (fun cdv A outer s H vs Q E hr h => ?_)
  · obtain ⟨r, a, b, M, ns, rfl, _⟩ := h
    rfl
  · obtain ⟨r, a, b, M, ns, rfl, hM, hA, hb, hn, k1, k2⟩ := h
    obtain ⟨a', dx, va, vt, e, n, h1, h2, h3⟩ := hA
    cases e
    obtain ⟨a2, rfl, h4, h5, h6⟩ := h2.lis
    obtain ⟨a3, rs, rfl, t4, t5, t6, t7, t8⟩ := h3.len
    refine ⟨_, ((pss_cons (ps_expr (pcall T.check_row (ok_check_row T) (hr.mono (by omega)) passE (pa_cons (pv 1) (pa_cons (pe_fld (pv 0) rfl) pa_nil))))
  (pss_cons (ps_par (i := 2) (j := 3) (by rfl) sc_Machine_write.nd rfl rfl (by decide) rfl rfl (pa_cons (pe_fld (pv 0) rfl) (pa_cons (pe_lst pa_nil) pa_nil)) (by rfl))
  (pss_cons (ps_for ownE rfl (pi_s (pv 1)) (pg_name (i := 4) sc_Machine_write.nd rfl (by first | exact Or.inl rfl | exact Or.inr rfl))
  (pss_cons (ps_expr (pe_bm PySem.F.plainAttrs_list PySem.F.slot_list_append PySem.F.type_list_append mt_append (pv 3) (pa_cons (pe_op op_sMod (pe_op op_sAdd (pv 4) (pe_ix ix_s (pe_fld (pv 0) rfl) (pv 2) (fun _ _ => rfl))) (pe_fld (pv 0) rfl)) pa_nil)))
  (pss_one (ps_set (i := 2) sc_Machine_write.nd rfl (by first | exact Or.inl rfl | exact Or.inr rfl) (pe_ix ix_s (pe_ix ix_s (pe_fld (pv 0) rfl) (pv 2) (fun _ _ => rfl)) (pv 4) (fun _ _ => rfl))))))
  (pss_one (ps_ret (pe_callTy call_sTuple (by rfl) T.b_tuple (by decide +kernel) (pa_cons (pv 3) pa_nil)))))))), ?_⟩
    refine go [some (.ref a), some (.ref b), none, none, none] rfl ?_
    try dsimp only [L2.cxOf]
    walk_at "sx"
    refine z_fld h1 T.k_Machine.cl (T.k_Machine.no _ (by decide)) rfl ?_
    walk_at "sx"
    refine ⟨b, ns, M.p, rfl, .inl hb, hn, fun hok H1 e1 => ?_, k2⟩
    obtain ⟨ds, rfl, hds, hdl⟩ := okRow_nums hok
    rw [nums_v] at hb
    walk_at "sx"
    refine z_fld (e1 _ _ h1) T.k_Machine.cl (T.k_Machine.no _ (by decide)) rfl ?_
    walk_at "sx"
    refine z_lst fun L nL => ?_
    walk_at "sx"
    have ld : ds.length = (ds.map vN).length := by rw [List.length_map]
    refine z_sT (.inl (rd_ex (e1.trans (Ex.new nL)) hb)) ?_
    refine for_it walk_tup (fun i σ H' => Ex H1 H' ∧ H' L = some (.lst ((M.out M.st (ds.take i)).map vN)) ∧ ∃ t, σ = [some (.ref a), some (.ref b), some (vN (M.run M.st (ds.take i))), some (.ref L), t]) ⟨Ex.new nL, upd_same, _, rfl⟩ (fun i σ H' hi ⟨e, _⟩ => st_ex (e1.trans e) (.inl hb)) ?_ ?_
    · rintro i y σ H2 H' hi ⟨e2, hL, t, rfl⟩ ⟨rfl, hy⟩
      obtain ⟨hi', d, hd, rfl⟩ := map_at hy
      have hrun : M.run M.st (ds.take i) < M.ad.length := hM.run hM.st fun x hx => hds x (List.mem_of_mem_take hx)
      have hdp : d < M.p := hds d (List.mem_of_getElem? hd)
      have htk : ds.take (i + 1) = ds.take i ++ [d] := by rw [List.take_add_one, hd]; rfl
      generalize hq : M.run M.st (ds.take i) = q at hrun ⊢
      have hq1 : q < M.tg.length := by rw [hM.tl]; exact hrun
      have e12 := e1.trans e2
      walk_at "sx"
      refine ⟨ty_list hL, ?_⟩
      walk_at "sx"
      refine z_fld (e12 _ _ h1) T.k_Machine.cl (T.k_Machine.no _ (by decide)) rfl ?_
      walk_at "sx"
      refine z_ix (v := vN (M.ad.getD q 0)) (sq_l (.inl (rd_ex e12 h4))) (atI_nat (by rw [List.getElem?_map, getD_at hrun]; rfl)) ?_
      walk_at "sx"
      refine z_fld (e12 _ _ h1) T.k_Machine.cl (T.k_Machine.no _ (by decide)) rfl ?_
      walk_at "sx"
      have hlen : ((M.out M.st (ds.take i)).map vN).length < 1000000 := by
        rw [List.length_map, M.out_len, List.length_take]
        omega
      refine z_append hL hlen ?_
      walk_at "sx"
      have e3 : Ex H1 (upd H' L (.lst ((M.out M.st (ds.take i)).map vN ++ [.int (((d : Int) + ((M.ad.getD q 0 : Nat) : Int)) % (M.p : Int))]))) := Ex.mut e2 nL
      have e13 := e1.trans e3
      refine z_fld (e13 _ _ h1) T.k_Machine.cl (T.k_Machine.no _ (by decide)) rfl ?_
      walk_at "sx"
      obtain ⟨w1, hw1, hd1⟩ := t8.at (i := q) (d := dT (M.tg.getD q [])) (by rw [List.getElem?_map, getD_at hq1]; rfl)
      obtain ⟨b1, rfl, hb1, _, _⟩ := hd1.row
      refine z_ix (v := .ref b1) (sq_l (.inl (rd_ex e13 t4))) (atI_nat hw1) ?_
      walk_at "sx"
      have hq2 : d < (M.tg.getD q []).length := by
        have := (hM.tg _ (List.mem_of_getElem? (getD_at (d := []) hq1))).1
        omega
      refine z_ix (v := vN (M.nxt q d)) (sq_t (.inl (rd_ex e13 hb1))) (atI_nat (by rw [List.getElem?_map, getD_at hq2]; rfl)) ?_
      walk_at "sx"
      refine ⟨e3, ?_, some (vN d), ?_⟩
      · rw [upd_same, htk, M.out_snoc, List.map_append, hq]
        rfl
      · rw [htk, M.run_snoc, hq]
    · rintro σ H2 ⟨e2, hL, t, rfl⟩
      rw [← ld, List.take_length] at hL
      walk_at "sx"
      refine z_tupL (.inl (rl_of hL)) fun l nl => ?_
      exact k1 ds rfl hds hdl l _ ((e1.trans e2).trans (Ex.new nl)) (Ex.none (e1.trans e2) nl) upd_same
end
end R

/-! # M5: the machine's states -/
namespace R
open PySem PySem.Spec PyProof.Rows L2
section
variable {P : Program} {w : World} {K : PySem.W.Frag} {mg : Str → Option Value} {base : Heap}
def spCheckState (T : Txt K mg) : Sp := fun vs H Q E => ∃ (r a : Addr) (M : Mac) (s : Int), vs = [.ref a, .int s] ∧ MAt T.k_Machine.C r H (.ref a) M ∧ ((0 ≤ s ∧ s < M.ad.length) → Q .non H) ∧
  (¬(0 ≤ s ∧ s < M.ad.length) → Er E T.e_InvalidMachine.C [("state", .int s), ("tag", .str "InvalidMachine")] H)
theorem ok_Machine_check_state (T : Txt K mg) : FnOk P w K mg base (L2.CX P w) 3 T.m_Machine_check_state.f T.m_Machine_check_state.fd P_Machine_check_state (spCheckState T) := by
  refine T.m_Machine_check_state.F.okX sc_Machine_check_state (fun vs H Q E h => ?_) (fun cdv A outer s H vs Q E hr h => ?_)
  · obtain ⟨r, a, M, s, rfl, _⟩ := h
    rfl
  · obtain ⟨r, a, M, s, rfl, hA, k1, k2⟩ := h
    obtain ⟨a', dx, va, vt, e, n, h1, h2, h3⟩ := hA
    cases e
    obtain ⟨a2, rfl, h4, h5, h6⟩ := h2.lis
    refine ⟨_, ((pss_one (ps_if (pt_not (pt_chain op_sLe op_sLt pe_int (pv 1) (pe_callB call_sLen (by rfl) T.b_len (by decide +kernel) (pa_cons (pe_fld (pv 0) rfl) pa_nil))))
  (pss_one (praise T.e_InvalidMachine (ei_InvalidMachine T) (hr.mono (by omega)) rfl (takes_of rfl rfl rfl rfl) (by exact (pa_cons (pv 1) pa_nil))))
  pss_nil))), ?_⟩
    refine go [some (.ref a), some (.int s)] rfl ?_
    try dsimp only [L2.cxOf]
    walk_at "sx"
    refine y_ite (fun c1 => ?_) (fun c1 => ?_)
    · walk_at "sx"
      refine z_fld h1 T.k_Machine.cl (T.k_Machine.no _ (by decide)) rfl ?_
      walk_at "sx"
      refine z_len (sq_l (.inl h4)) ?_
      walk_at "sx"
      rw [List.length_map]
      refine y_iteN (fun c2 => ?_) (fun c2 => ?_)
      · walk_at "sx"
        exact z_rs rfl (by decide) (k2 (by omega))
      · walk_at "sx"
        exact k1 (by omega)
    · walk_at "sx"
      exact z_rs rfl (by decide) (k2 (by omega))
/-- the machine from another state -/
def Mac.from (M : Mac) (s : Nat) : Mac := { M with st := s }
theorem Mac.Ok.from {M : Mac} (h : M.Ok) {s : Nat} (hs : s < M.ad.length) : (M.from s).Ok := ⟨h.p, h.n1, h.n40, h.tl, hs, h.ad, h.tg⟩
def spFrom (T : Txt K mg) : Sp := fun vs H Q E => ∃ (r a : Addr) (M : Mac) (s : Int), vs = [.ref a, .int s] ∧ MAt T.k_Machine.C r H (.ref a) M ∧ M.Ok ∧ Liv H r ∧ (∀ n : Nat, s = n → n < M.ad.length → ∀ x H', Ex H H' → H x = none → MAt T.k_Machine.C r H' (.ref x) (M.from n) → Q (.ref x) H') ∧
  (¬(0 ≤ s ∧ s < M.ad.length) → Er E T.e_InvalidMachine.C [("state", .int s), ("tag", .str "InvalidMachine")] H)
theorem ok_Machine_from_state (T : Txt K mg) : FnOk P w K mg base (L2.CX P w) 6 T.m_Machine_from_state.f T.m_Machine_from_state.fd P_Machine_from_state (spFrom T) := by
  refine T.m_Machine_from_state.F.okX sc_Machine_from_state (fun vs H Q E h => ?_) (fun cdv A outer s H vs Q E hr h => ?_)
  · obtain ⟨r, a, M, s, rfl, _⟩ := h
    rfl
  · obtain ⟨r, a, M, s, rfl, hA, hM, lv, k1, k2⟩ := h
    have hA' := hA
    obtain ⟨a', dx, va, vt, e, n, h1, h2, h3⟩ := hA
    cases e
    obtain ⟨a2, rfl, h4, h5, h6⟩ := h2.lis
    obtain ⟨a3, rs, rfl, t4, t5, t6, t7, t8⟩ := h3.len
    refine ⟨_, ((pss_cons (ps_expr (pmeth T.m_Machine_check_state T.k_Machine.cl (ok_Machine_check_state T) (hr.mono (by omega)) passE (pv 0) (pa_cons (pv 1) pa_nil)))
  (pss_one (ps_ret (pmakeK (n := 3) T.k_Machine.g T.i_Machine (ok_Machine_init T) (hr.mono (by omega)) passE (by exact (pa_cons (pe_fld (pv 0) rfl) (pa_cons (pe_fld (pv 0) rfl) (pa_cons (pe_fld (pv 0) rfl) pa_nil)))) (by exact (pk_cons (pv 1) pk_nil))))))), ?_⟩
    refine go [some (.ref a), some (.int s)] rfl ?_
    try dsimp only [L2.cxOf]
    walk_at "sx"
    refine z_meth h1 rfl ?_
    walk_at "sx"
    refine ⟨r, a, M, s, rfl, hA', fun hs => ?_, k2⟩
    walk_at "sx"
    refine z_fld h1 T.k_Machine.cl (T.k_Machine.no _ (by decide)) rfl ?_
    walk_at "sx"
    refine z_fld h1 T.k_Machine.cl (T.k_Machine.no _ (by decide)) rfl ?_
    walk_at "sx"
    refine z_fld h1 T.k_Machine.cl (T.k_Machine.no _ (by decide)) rfl ?_
    walk_at "sx"
    obtain ⟨m, rfl⟩ : ∃ m : Nat, s = m := ⟨s.toNat, by omega⟩
    have hm : m < M.ad.length := by omega
    refine z_makeK rfl rfl ?_
    exact use_make (M := M.from m) (hM.from hm) lv h4 (.inl t4) (rowsN_of t8) fun x H' e hx hA2 => k1 m rfl hm x H' e hx hA2
theorem z_methM {C r a : Addr} {m : Str} {sp : Sp} {t : TA} {σ : L2.St} {E : XK} {H : Hp} {Q : VK} {M : Mac} (h : MAt C r H (.ref a) M) (k : t σ H fun vs H2 => sp (.ref a :: vs) H2 Q E) (hl : ∀ w x y z : V, ([("modulus", w), ("start", x), ("added", y), ("targets", z)] : List (Str × V)).lookup m = none := by exact fun _ _ _ _ => rfl) : rMeth C m sp t σ E (.ref a) H Q := by
  obtain ⟨a', dx, va, vt, e, n, h1, h2, h3⟩ := h
  cases e
  exact z_meth h1 (hl _ _ _ _) k
theorem use_write {T : Txt K mg} {r a b : Addr} {M : Mac} {ds : List Nat} {H : Hp} {Q : VK} {E : XK} (hA : MAt T.k_Machine.C r H (.ref a) M) (hM : M.Ok) (hb : RT H b (ds.map vN)) (hd : ∀ d ∈ ds, d < M.p) (hl : ds.length ≤ 80)
    (k : ∀ l H', Ex H H' → H l = none → H' l = some (.tup ((M.out M.st ds).map vN)) → Q (.ref l) H') : spWrite T [.ref a, .ref b] H Q E := by
  refine ⟨r, a, b, M, nums ds, rfl, hM, hA, by rw [nums_v]; exact hb, by rw [List.length_map]; omega, fun ds' e _ _ => ?_, fun h => ?_⟩
  · obtain rfl : ds = ds' := by
      have := congrArg (List.map Int.toNat) e
      simpa [nums, List.map_map, Function.comp_def] using this
    exact k
  · rw [okRow_of hd hl] at h
    cases h
theorem use_from {T : Txt K mg} {r a : Addr} {M : Mac} {s : Nat} {H : Hp} {Q : VK} {E : XK} (hA : MAt T.k_Machine.C r H (.ref a) M) (hM : M.Ok) (lv : Liv H r) (hs : s < M.ad.length) (k : ∀ x H', Ex H H' → H x = none → MAt T.k_Machine.C r H' (.ref x) (M.from s) → Q (.ref x) H') : spFrom T [.ref a, vN s] H Q E :=
  ⟨r, a, M, s, rfl, hA, hM, lv, fun n e _ x H' e1 hx hB => by
    have : s = n := by omega
    subst this
    exact k x H' e1 hx hB, fun h => absurd (by omega) h⟩
end
end R

/-! # N2: data that == takes; the machine's == -/
namespace R
open PySem PySem.Spec PyProof.Rows L2
/-- data of depth at most n, for == -/
def Shp (n : Nat) (d : PyData) : Prop := d.canLay0 = true ∧ d.depth ≤ n
theorem Shp.shaped {n : Nat} {d : PyData} (h : Shp n d) (hn : n ≤ 64) : SeqAt.shaped d = true := by
  unfold SeqAt.shaped
  rw [h.1, decide_eq_true (by have := h.2; omega)]
  rfl
theorem Shp.int {n : Nat} (i : Int) : Shp n (.int i) := ⟨by simp [PyData.canLay0], by simp [PyData.depth]⟩
theorem Shp.str {n : Nat} {x : Str} (h : PyData.strOk x = true) : Shp n (.str x) := ⟨by simp [PyData.canLay0, h], by simp [PyData.depth]⟩
theorem Shp.bool {n : Nat} (b : Bool) : Shp n (.bool b) := ⟨by simp [PyData.canLay0], by simp [PyData.depth]⟩
theorem Shp.none {n : Nat} : Shp n .none := ⟨by simp [PyData.canLay0], by simp [PyData.depth]⟩
theorem shp_all {n : Nat} : ∀ {ds : List PyData}, (∀ d ∈ ds, Shp n d) → PyData.canLayAll0 ds = true ∧ PyData.depthAll ds ≤ n
  | [], _ => ⟨by simp [PyData.canLayAll0], by simp [PyData.depthAll]⟩
  | d :: ds, h => by
    have h1 := h d (.head _)
    have h2 := shp_all (ds := ds) fun e he => h e (.tail _ he)
    exact ⟨by rw [PyData.canLayAll0, h1.1, h2.1]; rfl, by rw [PyData.depthAll]; exact Nat.max_le.mpr ⟨h1.2, h2.2⟩⟩
theorem Shp.list {n : Nat} {ds : List PyData} (h : ∀ d ∈ ds, Shp n d) : Shp (n + 1) (.list ds) := ⟨by rw [PyData.canLay0]; exact (shp_all h).1, by rw [PyData.depth]; have := (shp_all h).2; omega⟩
theorem Shp.tuple {n : Nat} {ds : List PyData} (h : ∀ d ∈ ds, Shp n d) : Shp (n + 1) (.tuple ds) := ⟨by rw [PyData.canLay0]; exact (shp_all h).1, by rw [PyData.depth]; have := (shp_all h).2; omega⟩
theorem Shp.map {α : Type} {n : Nat} {f : α → PyData} (h : ∀ x, Shp n (f x)) (xs : List α) : ∀ d ∈ xs.map f, Shp n d := fun d hd => by
  obtain ⟨x, _, rfl⟩ := List.mem_map.mp hd
  exact h x
theorem Shp.two {n : Nat} {a b : PyData} (h1 : Shp n a) (h2 : Shp n b) : ∀ d ∈ [a, b], Shp n d := fun d hd => by
  simp only [List.mem_cons, List.not_mem_nil, or_false] at hd
  rcases hd with rfl | rfl <;> assumption
theorem shp_dL (xs : List Nat) : Shp 1 (dL xs) := .list (.map (fun x => .int _) xs)
theorem shp_dT (xs : List Nat) : Shp 1 (dT xs) := .tuple (.map (fun x => .int _) xs)
theorem shp_rows (xs : List (List Nat)) : Shp 2 (.list (xs.map dT)) := .list (.map shp_dT xs)
/-! == and != of such data -/
section
variable {K : PySem.W.Frag} {H : Hp} {Q : VK} {x y : V} {d e : PyData} {n m : Nat}
theorem z_eqD {p q : Addr} (h1 : Dp K H (.ref p) d) (h2 : Dp K H (.ref q) e) (s1 : Shp n d) (s2 : Shp m e) (h : Q (.bl (PyData.eqv d e)) H) (hn : n ≤ 64 := by decide) (hm : m ≤ 64 := by decide) : sEq K (.ref p) (.ref q) H Q := z_eqR ⟨d, e, h1, h2, s1.shaped hn, s2.shaped hm, h⟩
theorem z_neD {p q : Addr} (h1 : Dp K H (.ref p) d) (h2 : Dp K H (.ref q) e) (s1 : Shp n d) (s2 : Shp m e) (h : Q (.bl (!PyData.eqv d e)) H) (hn : n ≤ 64 := by decide) (hm : m ≤ 64 := by decide) : sNe K (.ref p) (.ref q) H Q := z_neR ⟨d, e, h1, h2, s1.shaped hn, s2.shaped hm, h⟩
theorem z_isiC {C a dx : Addr} {fs : List (Str × V)} {f : Addr} (h : H a = some (.ins C dx fs)) (c : Cls K C) (q : EQ K C f) (k : Q (.bl true) H) : rIsi K [.ref a, .ref C] H Q :=
  ⟨.ref a, .ref C, .ref C, .ref C, true, rfl, .own C, .base (.ins h c q.ca q.cn q.ct q.cm), by unfold PySem.W.kitOne; rw [if_pos (by simp)], k⟩
theorem z_isiN {C f : Addr} {t : String} (ty : TyX K H x (.type t)) (q : EQ K C f) (ht : t ∈ (["NoneType", "tuple", "str"] : List String)) (k : Q (.bl false) H) : rIsi K [x, .ref C] H Q :=
  ⟨x, .ref C, .type t, .ref C, false, rfl, .own C, ty, q.ki t ht, k⟩
end
theorem eqv_pair (a b c d : Int) : PyData.eqv (.tuple [.int a, .int b]) (.tuple [.int c, .int d]) = (decide (a = c) && decide (b = d)) := by
  have : Fai fun xs : List Int => .tuple (xs.map PyData.int) := fai_tup fai_int
  have := this [a, b] [c, d]
  simp only [List.map_cons, List.map_nil] at this
  rw [this]
  simp
section
variable {P : Program} {w : World} {K : PySem.W.Frag} {mg : Str → Option Value} {base : Heap}
def spMEq (T : Txt K mg) : Sp := fun vs H Q _ => ∃ (r a : Addr) (M : Mac) (y : V), vs = [.ref a, y] ∧ MAt T.k_Machine.C r H (.ref a) M ∧
  ((∃ r' M2, MAt T.k_Machine.C r' H y M2 ∧ ∀ H', Ex H H' → Q (.bl (decide (M = M2))) H') ∨ (∃ t, TyX K H y (.type t) ∧ t ∈ (["NoneType", "tuple", "str"] : List String) ∧ Q (.bl false) H))
theorem ok_Machine_eq (T : Txt K mg) : FnOk P w K mg base (L2.CX P w) 1 T.m_Machine_eq.f T.m_Machine_eq.fd P_Machine_eq (spMEq T) := by
  refine T.m_Machine_eq.F.okX sc_Machine_eq (fun vs H Q E h => ?_) (fun cdv A outer s H vs Q E hr h => ?_)
  · obtain ⟨r, a, M, y, rfl, _⟩ := h
    rfl
  · obtain ⟨r, a, M, y, rfl, hA, hk⟩ := h
    obtain ⟨a', dx, va, vt, e, n, h1, h2, h3⟩ := hA
    cases e
    refine ⟨_, ((pss_cons (ps_if (pt_not (pt_val (pe_callB call_isi (by rfl) T.b_isinstance (by decide +kernel) (pa_cons (pv 1) (pa_cons (pglob (gv_of T.k_Machine.g) (by rfl)) pa_nil)))))
  (pss_one (ps_ret pe_bl))
  pss_nil)
  (pss_cons (ps_if (pt_cmpR (op_sNe hr.units) (pe_tup (pa_cons (pe_fld (pv 0) rfl) (pa_cons (pe_fld (pv 0) rfl) pa_nil))) (pe_tup (pa_cons (pe_fld (pv 1) rfl) (pa_cons (pe_fld (pv 1) rfl) pa_nil))) (nomark _))
  (pss_one (ps_ret pe_bl))
  pss_nil)
  (pss_one (ps_ret (pe_and (pe_cmpR (op_sEq hr.units) (pe_fld (pv 0) rfl) (pe_fld (pv 1) rfl) (nomark _)) (pe_one (pe_cmpR (op_sEq hr.units) (pe_fld (pv 0) rfl) (pe_fld (pv 1) rfl) (nomark _))))))))), ?_⟩
    refine go [some (.ref a), some y] rfl ?_
    try dsimp only [L2.cxOf]
    rcases hk with ⟨r', M2, hB, k⟩ | ⟨t, ty, ht, k⟩
    · obtain ⟨b, dy, vb, vu, rfl, n', g1, g2, g3⟩ := hB
      obtain ⟨a2, rfl, _, _, _⟩ := h2.lis
      obtain ⟨b2, rfl, _, _, _⟩ := g2.lis
      obtain ⟨a3, rs, rfl, _⟩ := h3.len
      obtain ⟨b3, rs', rfl, _⟩ := g3.len
      walk_at "sx"
      refine z_isiC g1 T.k_Machine.cl T.q_Machine ?_
      walk_at "sx"
      refine z_fld h1 T.k_Machine.cl (T.k_Machine.no _ (by decide)) rfl ?_
      walk_at "sx"
      refine z_fld h1 T.k_Machine.cl (T.k_Machine.no _ (by decide)) rfl ?_
      walk_at "sx"
      refine z_tup fun p1 n1 => ?_
      walk_at "sx"
      refine z_fld (by walk_at "hp") T.k_Machine.cl (T.k_Machine.no _ (by decide)) rfl ?_
      walk_at "sx"
      refine z_fld (by walk_at "hp") T.k_Machine.cl (T.k_Machine.no _ (by decide)) rfl ?_
      walk_at "sx"
      refine z_tup fun p2 n2 => ?_
      have e2 := (Ex.new (o := .tup [.int M.p, .int M.st]) n1).trans (Ex.new (o := .tup [.int M2.p, .int M2.st]) n2)
      refine z_neD (d := .tuple [.int M.p, .int M.st]) (e := .tuple [.int M2.p, .int M2.st]) (.tup (by walk_at "st") (.cons (.int _) (.cons (.int _) .nil))) (.tup (by walk_at "st") (.cons (.int _) (.cons (.int _) .nil))) (.tuple (.two (n := 0) (.int _) (.int _))) (.tuple (.two (n := 0) (.int _) (.int _))) ?_
      rw [eqv_pair]
      walk_at "sx"
      by_cases hpq : M.p = M2.p ∧ M.st = M2.st
      · obtain ⟨hp1, hp2⟩ := hpq
        rw [decide_eq_true (by omega), decide_eq_true (by omega), Bool.true_and]
        walk_at "sx"
        refine z_fld (e2 _ _ h1) T.k_Machine.cl (T.k_Machine.no _ (by decide)) rfl ?_
        walk_at "sx"
        refine z_fld (e2 _ _ g1) T.k_Machine.cl (T.k_Machine.no _ (by decide)) rfl ?_
        refine z_eqD (Dq.dp _ _ (h2.ex e2)) (Dq.dp _ _ (g2.ex e2)) (shp_dL _) (shp_dL _) ?_
        rw [fai_list fai_nat]
        walk_at "sx"
        refine y_ite (fun c1 => ?_) (fun c1 => ?_)
        · walk_at "sx"
          refine z_fld (e2 _ _ h1) T.k_Machine.cl (T.k_Machine.no _ (by decide)) rfl ?_
          walk_at "sx"
          refine z_fld (e2 _ _ g1) T.k_Machine.cl (T.k_Machine.no _ (by decide)) rfl ?_
          refine z_eqD (Dq.dp _ _ (h3.ex e2)) (Dq.dp _ _ (g3.ex e2)) (shp_rows _) (shp_rows _) ?_
          rw [fai_list (fai_tup fai_nat)]
          have := k _ e2
          have hM : decide (M = M2) = decide (M.tg = M2.tg) := by
            cases M; cases M2
            simp only at hp1 hp2 c1
            subst hp1 hp2 c1
            simp
          rw [hM] at this
          exact this
        · have := k _ e2
          rw [decide_eq_false (by rintro rfl; exact c1 rfl)] at this
          exact this
      · have hne : (decide ((M.p : Int) = M2.p) && decide ((M.st : Int) = M2.st)) = false := by
          rw [Bool.and_eq_false_iff, decide_eq_false_iff_not, decide_eq_false_iff_not]
          omega
        rw [hne]
        walk_at "sx"
        have := k _ e2
        rw [decide_eq_false (by rintro rfl; exact hpq ⟨rfl, rfl⟩)] at this
        exact this
    · walk_at "sx"
      refine z_isiN ty T.q_Machine ht ?_
      walk_at "sx"
      exact k
end
end R
namespace R
open PySem PySem.Spec PyProof.Rows L2
theorem z_ownM {K : PySem.W.Frag} {mg : Str → Option Value} {T : Txt K mg} {r q a b : Addr} {M N : Mac} {H : Hp} {Q : VK} {E : XK} {g : Bool → Bool} (h1 : MAt T.k_Machine.C r H (.ref a) M) (h2 : MAt T.k_Machine.C q H (.ref b) N) (k : ∀ H', Ex H H' → Q (.bl (g (decide (M = N)))) H') : rOwn T.k_Machine.C (spMEq T) E g (.ref a) (.ref b) H Q := by
  have g1 := h1
  have g2 := h2
  obtain ⟨a', dx, va, vt, e, n, h1, _⟩ := h1
  cases e
  obtain ⟨b', dy, vb, vu, e, n', h2, _⟩ := h2
  cases e
  exact ⟨a, b, dx, dy, _, _, rfl, rfl, h1, h2, r, a, M, .ref b, rfl, g1, .inl ⟨q, N, g2, fun H' e => ⟨_, rfl, k H' e⟩⟩⟩
end R
namespace R
open PySem PySem.Spec PyProof.Rows L2
theorem use_sameD {K : PySem.W.Frag} {r q : Addr} {n : Nat} {H : Hp} {Q : VK} {E : XK} {x y : V} {d : PyData} (h1 : Dq r H x d) (h2 : Dq q H y d) (hs : Shp n d) (k : ∀ H', Ex H H' → Q (.bl true) H') : spSame K n [x, y] H Q E := use_same ((Dq.tre d x y h1 h2).mono hs.2) k
end R

/-! # P1: odometer, invert -/
namespace R
open PySem PySem.Spec PyProof.Rows L2
/-- the odometer's tables -/
def odoM (p : Nat) : Mac := ⟨p, [1, 0], [List.replicate (p - 1) 1 ++ [0], List.replicate p 1], 0⟩
theorem odoM_ok {p : Nat} (h : p = 2 ∨ p = 3 ∨ p = 5) : (odoM p).Ok := by
  rcases h with rfl | rfl | rfl
  all_goals exact ⟨by decide, by decide, by decide, by decide, by decide, by decide, by decide⟩
theorem rowsN2 {r : Addr} {H : Hp} {a b : Addr} {xs ys : List Nat} (h1 : RQ H a (xs.map vN)) (h2 : RQ H b (ys.map vN)) (n1 : a ≠ r) (n2 : b ≠ r) (l1 : xs.length ≤ 900000) (l2 : ys.length ≤ 900000) : RowsN r H [.ref a, .ref b] [xs, ys] := by
  refine ⟨rfl, fun i ts hts => ?_⟩
  match i, hts with
  | 0, hts =>
    obtain rfl : nums xs = ts := Option.some.inj hts
    exact ⟨a, rfl, by rw [nums_v]; exact h1, by rw [List.length_map]; exact l1, n1⟩
  | 1, hts =>
    obtain rfl : nums ys = ts := Option.some.inj hts
    exact ⟨b, rfl, by rw [nums_v]; exact h2, by rw [List.length_map]; exact l2, n2⟩
section
variable {P : Program} {w : World} {K : PySem.W.Frag} {mg : Str → Option Value} {base : Heap}
def spOdo (T : Txt K mg) : Sp := fun vs H Q E => ∃ (r : Addr) (p : Int), vs = [.int p] ∧ Liv H r ∧ (okMod p = true → ∀ n : Nat, p = n → ∀ x H', Ex H H' → H x = none → MAt T.k_Machine.C r H' (.ref x) (odoM n) → Q (.ref x) H') ∧ (okMod p = false → Er E T.e_InvalidModulus.C [("tag", .str "InvalidModulus")] H)
theorem ok_odometer (T : Txt K mg) : FnOk P w K mg base (L2.CX P w) 6 T.odometer.f T.odometer.fd P_odometer (spOdo T) := by
  refine T.odometer.F.ok sc_odometer (fun vs H Q E h => ?_) (fun cdv A outer s H vs Q E hr h => ?_)
  · obtain ⟨r, p, rfl, _⟩ := h
    rfl
  · obtain ⟨r, p, rfl, lv, k1, k2⟩ := h
    refine ⟨_, ((pss_cons (ps_expr (pcall T.check_modulus (ok_check_modulus T) (hr.mono (by omega)) passE (pa_cons (pv 0) pa_nil)))
  (pss_one (ps_ret (pmake T.k_Machine.g T.i_Machine (ok_Machine_init T) (hr.mono (by omega)) passE (pa_cons (pv 0) (pa_cons (pe_lst (pa_cons pe_int (pa_cons pe_int pa_nil))) (pa_cons (pe_lst (pa_cons (pe_op op_sAdd (pe_op op_sMul (pe_tup (pa_cons pe_int pa_nil)) (pe_op op_sSub (pv 0) pe_int)) (pe_tup (pa_cons pe_int pa_nil))) (pa_cons (pe_op op_sMul (pe_tup (pa_cons pe_int pa_nil)) (pv 0)) pa_nil))) pa_nil)))))))), ?_⟩
    refine go [some (.int p)] rfl ?_
    try dsimp only [L2.cxOf]
    walk_at "sx"
    refine ⟨p, rfl, fun hp => ?_, k2⟩
    obtain ⟨n, rfl⟩ : ∃ n : Nat, p = n := ⟨p.toNat, by have := okMod_iff.mp hp; omega⟩
    have hn : n = 2 ∨ n = 3 ∨ n = 5 := by have := okMod_iff.mp hp; omega
    walk_at "sx"
    refine z_lst fun p1 n1 => ?_
    walk_at "sx"
    refine z_tup fun p2 n2 => ?_
    walk_at "sx"
    refine z_mulTu (rt_of upd_same) (by simp) (by omega) (by decide) fun p3 H3 e3 h3 o3 => ?_
    walk_at "sx"
    refine z_tup fun p4 n4 => ?_
    refine z_addTu (rd_ex (Ex.new n4) h3) (rt_of upd_same) (by simp; omega) fun p5 H5 e5 h5 o5 => ?_
    walk_at "sx"
    refine z_tup fun p6 n6 => ?_
    walk_at "sx"
    refine z_mulTu (rt_of upd_same) (by simp) (by omega) (by decide) fun p7 H7 e7 h7 o7 => ?_
    walk_at "sx"
    refine z_lst fun p8 n8 => ?_
    walk_at "sx"
    have E1 : Ex H _ := Ex.new (o := .lst [.int 1, .int 0]) n1
    have E2 := E1.trans (Ex.new (o := .tup [.int 1]) n2)
    have E3 := E2.trans e3
    have E4 := E3.trans (Ex.new (o := .tup [.int 0]) n4)
    have E5 := E4.trans e5
    have E6 := E5.trans (Ex.new (o := .tup [.int 1]) n6)
    have E7 := E6.trans e7
    have E8 := E7.trans (Ex.new (o := .lst [.ref p5, .ref p7]) n8)
    have n2' : p2 ≠ r := lv.ne (Ex.none E1 n2)
    have n3' : p3 ≠ r := by rcases o3 with rfl | o3; exact n2'; exact lv.ne (Ex.none E2 o3)
    have n5' : p5 ≠ r := by
      rcases o5 with rfl | rfl | o5
      · exact n3'
      · exact lv.ne (Ex.none E3 n4)
      · exact lv.ne (Ex.none E4 o5)
    have n7' : p7 ≠ r := by
      rcases o7 with rfl | o7
      · exact lv.ne (Ex.none E5 n6)
      · exact lv.ne (Ex.none E6 o7)
    have h1 : RL (upd H7 p8 (.lst [.ref p5, .ref p7])) p1 [vN 1, vN 0] := rl_of ((Ex.new n8) _ _ (e7 _ _ ((Ex.new n6) _ _ (e5 _ _ ((Ex.new n4) _ _ (e3 _ _ ((Ex.new n2) _ _ upd_same)))))))
    have h5' : RQ (upd H7 p8 (.lst [.ref p5, .ref p7])) p5 ((List.replicate (n - 1) 1 ++ [0]).map vN) := by
      refine .inr ?_
      have e : (List.replicate ((n : Int) - 1).toNat [V.int 1]).flatten ++ [V.int 0] = (List.replicate (n - 1) 1 ++ [0]).map vN := by
        rcases hn with rfl | rfl | rfl <;> rfl
      rw [← e]
      exact rd_ex (Ex.new n8) (rd_ex e7 (rd_ex (Ex.new n6) h5))
    have h7' : RQ (upd H7 p8 (.lst [.ref p5, .ref p7])) p7 ((List.replicate n 1).map vN) := by
      refine .inr ?_
      have e : (List.replicate ((n : Int)).toNat [V.int 1]).flatten = (List.replicate n 1).map vN := by
        rcases hn with rfl | rfl | rfl <;> rfl
      rw [← e]
      exact rd_ex (Ex.new n8) h7
    refine use_make (M := odoM n) (odoM_ok hn) (lv.ex E8) h1 (.inl (rl_of upd_same)) (rowsN2 h5' h7' n5' n7' (by simp; omega) (by simp; omega)) fun x H' e hx hA => ?_
    exact k1 hp n rfl x H' (E8.trans e) (Ex.none E8 hx) hA
end
end R

/-! # P2: invert -/
namespace R
open PySem PySem.Spec PyProof.Rows L2
/-- the digit taken back -/
def Mac.back (M : Mac) (s d : Nat) : Nat := (d + (M.p - M.ad.getD s 0)) % M.p
def Mac.invRow (M : Mac) (s : Nat) : List Nat := (List.range M.p).map fun d => M.nxt s (M.back s d)
def invM (M : Mac) : Mac := ⟨M.p, M.ad.map fun a => (M.p - a) % M.p, (List.range M.ad.length).map M.invRow, M.st⟩
theorem Mac.Ok.back {M : Mac} (h : M.Ok) (s d : Nat) : M.back s d < M.p := Nat.mod_lt _ h.pos.1
theorem invM_ok {M : Mac} (h : M.Ok) : (invM M).Ok := by
  refine ⟨h.p, by simpa [invM] using h.n1, by simpa [invM] using h.n40, by simp [invM], by simpa [invM] using h.st, ?_, ?_⟩
  · intro a ha
    obtain ⟨b, _, rfl⟩ := List.mem_map.mp ha
    exact Nat.mod_lt _ h.pos.1
  · intro ts hts
    obtain ⟨s, hs, rfl⟩ := List.mem_map.mp hts
    rw [List.mem_range] at hs
    refine ⟨by simp [Mac.invRow, invM], fun t ht => ?_⟩
    obtain ⟨d, _, rfl⟩ := List.mem_map.mp ht
    have := h.nxt hs (h.back s d)
    simpa [invM] using this
theorem Dq.rows {r : Addr} {H : Hp} {a : Addr} {vs : List V} {ts : List (List Nat)} (h1 : RL H a vs) (h2 : a ≠ r) (h3 : vs.length ≤ 900000) (h : DqAll r H vs (ts.map dT)) : Dq r H (.ref a) (.list (ts.map dT)) := .lst h1 h2 h3 h
section
variable {P : Program} {w : World} {K : PySem.W.Frag} {mg : Str → Option Value} {base : Heap}
def spInvert (T : Txt K mg) : Sp := fun vs H Q _ => ∃ (r a : Addr) (M : Mac), vs = [.ref a] ∧ MAt T.k_Machine.C r H (.ref a) M ∧ M.Ok ∧ Liv H r ∧ ∀ x H', Ex H H' → H x = none → MAt T.k_Machine.C r H' (.ref x) (invM M) → Q (.ref x) H'
theorem ok_invert (T : Txt K mg) : Ok P w K mg base 6 T.invert (spInvert T) := by
  refine ok_of T.invert sc_invert (fun vs H Q E h => ?_) (fun cdv A outer s H vs Q E hr h => ?_)
  · obtain ⟨r, a, M, rfl, _⟩ := h
    rfl
  · obtain ⟨r, a, M, rfl, hA, hM, lv, k⟩ := h
    have hA0 := hA
    obtain ⟨a', dx, va, vt, e, n, h1, h2, h3⟩ := hA
    cases e
    have hp0 := hM.pos
    have hn40 := hM.n40
    refine ⟨_, ((pss_cons (ps_asg (pe_tup (pa_cons (pe_fld (pv 0) rfl) (pa_cons (pmeth0 T.m_Machine_constants T.k_Machine.cl (ok_Machine_constants T) (hr.mono (by omega)) passE (pv 0)) pa_nil))) (pg_tup rfl (pgs_cons (pg_name (i := 1) sc_invert.nd rfl (by first | exact Or.inl rfl | exact Or.inr rfl)) (pgs_cons (pg_name (i := 2) sc_invert.nd rfl (by first | exact Or.inl rfl | exact Or.inr rfl)) pgs_nil))))
  (pss_cons (ps_set (i := 3) sc_invert.nd rfl (by first | exact Or.inl rfl | exact Or.inr rfl) (pe_lst pa_nil))
  (pss_cons (ps_for ownE rfl (pi_enum (by rfl) T.b_enumerate (pa_cons (pmeth0 T.m_Machine_transitions T.k_Machine.cl (ok_Machine_transitions T) (hr.mono (by omega)) passE (pv 0)) pa_nil)) (pg_tup rfl (pgs_cons (pg_name (i := 4) sc_invert.nd rfl (by first | exact Or.inl rfl | exact Or.inr rfl)) (pgs_cons (pg_name (i := 5) sc_invert.nd rfl (by first | exact Or.inl rfl | exact Or.inr rfl)) pgs_nil)))
  (pss_one (ps_expr (pe_bm PySem.F.plainAttrs_list PySem.F.slot_list_append PySem.F.type_list_append mt_append (pv 3) (pa_cons (pe_callTy call_sTuple (by rfl) T.b_tuple (by decide +kernel) (pa_cons (pe_lc (own := [("digit", 6)]) (g := (gName 6)) (tt := tYes) (te := (tOp (sIx K) (tVar 5) (tOp sMod (tOp sSub (tVar 6) (tOp (sIx K) (tVar 2) (tVar 4))) (tVar 1)))) (by rfl) sc_invert.nd (pi_range1 (by rfl) T.b_range (pa_cons (pv 1) pa_nil)) (blkOk_by (own := [("digit", 6)]) (N := N_invert) (sc := defScope s_invert) (by decide +kernel)) (fun _ _ _ _ _ => by exact (pg_name (i := 6) sc_invert.nd rfl (by first | exact Or.inl rfl | exact Or.inr rfl))) (fun _ _ _ _ _ => by exact pts_nil) (fun _ _ _ _ _ => by exact (pe_ix ix_s (pv 5) (pe_op op_sMod (pe_op op_sSub (pv 6) (pe_ix ix_s (pv 2) (pv 4) (fun _ _ => rfl))) (pv 1)) (fun _ _ => rfl)))) pa_nil)) pa_nil)))))
  (pss_one (ps_ret (pmakeK (n := 3) T.k_Machine.g T.i_Machine (ok_Machine_init T) (hr.mono (by omega)) passE (by exact (pa_cons (pv 1) (pa_cons (pe_lc (own := [("constant", 7)]) (g := (gName 7)) (tt := tYes) (te := (tOp sMod (tOp sSub (tC _) (tVar 7)) (tVar 1))) (by rfl) sc_invert.nd (pi_s (pv 2)) (blkOk_by (own := [("constant", 7)]) (N := N_invert) (sc := defScope s_invert) (by decide +kernel)) (fun _ _ _ _ _ => by exact (pg_name (i := 7) sc_invert.nd rfl (by first | exact Or.inl rfl | exact Or.inr rfl))) (fun _ _ _ _ _ => by exact pts_nil) (fun _ _ _ _ _ => by exact (pe_op op_sMod (pe_op op_sSub pe_int (pv 7)) (pv 1)))) (pa_cons (pv 3) pa_nil)))) (by exact (pk_cons (pe_fld (pv 0) rfl) pk_nil))))))))), ?_⟩
    refine go [some (.ref a), none, none, none, none, none, none, none] rfl ?_
    try dsimp only [L2.cxOf]
    walk_at "sx"
    refine z_fld h1 T.k_Machine.cl (T.k_Machine.no _ (by decide)) rfl ?_
    walk_at "sx"
    refine z_meth h1 rfl ?_
    walk_at "sx"
    refine ⟨r, a, M, rfl, hA0, fun lc nc => ?_⟩
    walk_at "sx"
    refine z_tup fun lp np => ?_
    refine x_gtup (st_of upd_same) rfl ?_
    walk_at "sx"
    have e2 : Ex H (upd (upd H lc (.lst (M.ad.map vN))) lp (.tup [vN M.p, .ref lc])) := (Ex.new nc).trans (Ex.new np)
    have hlc : RL (upd (upd H lc (.lst (M.ad.map vN))) lp (.tup [vN M.p, .ref lc])) lc (M.ad.map vN) := rl_of ((Ex.new np) _ _ upd_same)
    generalize upd (upd H lc (.lst (M.ad.map vN))) lp (.tup [vN M.p, .ref lc]) = H2 at e2 hlc ⊢
    refine z_lst fun L nL => ?_
    walk_at "sx"
    have e3 := e2.trans (Ex.new (o := .lst []) nL)
    refine z_meth (e3 _ _ h1) rfl ?_
    walk_at "sx"
    refine ⟨r, a, M, rfl, hA0.ex e3, fun lt rs nt hrs => ?_⟩
    have e4 := (Ex.new (o := .lst []) nL).trans (Ex.new (o := .lst rs) nt)
    have nLt : L ≠ lt := fun h => (upd_none nt).1 h.symm
    have hL4 : upd (upd H2 L (.lst [])) lt (.lst rs) L = some (.lst []) := ne_at nLt upd_same
    have hrs4 := hrs.ex (Ex.new (o := .lst rs) nt)
    have hlt4 : RL (upd (upd H2 L (.lst [])) lt (.lst rs)) lt rs := rl_of upd_same
    have lv2 := lv.ex e2
    have nLr := lv2.ne nL
    have hlen : rs.length = M.ad.length := by rw [hrs.len, List.length_map, hM.tl]
    generalize upd (upd H2 L (.lst [])) lt (.lst rs) = H4 at e4 hL4 hrs4 hlt4 ⊢
    have hlcL : lc ≠ L := Rd.ne hlc nL
    have hltL : lt ≠ L := nLt.symm
    walk_at "sx"
    refine z_enum (.inl hlt4) ?_
    have kp4 : Kp L H4 H4 := Kp.refl _ _
    refine for_it walk_enum (fun i σ H' => Kp L H4 H' ∧ Ex H2 H' ∧ (∃ zs, H' L = some (.lst zs) ∧ zs.length = i ∧ DqAll r H' zs (((List.range i).map M.invRow).map dT)) ∧ ∃ t u, σ = [some (.ref a), some (vN M.p), some (.ref lc), some (.ref L), t, u, none, none]) ⟨Kp.refl _ _, e4, ⟨[], hL4, rfl, .nil⟩, _, _, rfl⟩ (fun i σ H' hi ⟨e, _⟩ => .inl (rd_kp e hlt4 hltL)) ?_ ?_
    · rintro i y σ H5 H6 hi ⟨e5, e5', ⟨zs, hz, hzl, hzd⟩, t, u, rfl⟩ ⟨T1, v1, v2, rfl, hT, rfl, hv1, hv2⟩
      obtain rfl := Option.some.inj hv1
      have hi' : i < M.ad.length := by omega
      have hit : i < M.tg.length := by rw [hM.tl]; exact hi'
      obtain ⟨v, hv, hd⟩ := (hrs4.at (i := i) (d := dT (M.tg.getD i [])) (by rw [List.getElem?_map, getD_at hit]; rfl))
      obtain rfl : v2 = v := Option.some.inj ((show rs[i]? = some v2 from hv2).symm.trans hv)
      obtain ⟨b, rfl, hb1, hb2, hb3⟩ := hd.row
      have hbL : b ≠ L := rt_ne_l hb1 hL4
      have hts := hM.tg _ (List.mem_of_getElem? (getD_at (d := []) hit))
      refine x_gtup (st_of upd_same) rfl ?_
      walk_at "sx"
      have e6 := Ex.new (o := .tup [V.int (i : Nat), .ref b]) hT
      have hz6 := e6 _ _ hz
      have hzd6 := hzd.ex e6
      have hb6 : RT (upd H5 T1 (.tup [V.int (i : Nat), .ref b])) b ((M.tg.getD i []).map vN) := rd_ex e6 (rd_kp e5 hb1 hbL)
      have hlc6 : RL (upd H5 T1 (.tup [V.int (i : Nat), .ref b])) lc (M.ad.map vN) := rd_ex e6 (rd_ex e5' hlc)
      have k6 : Kp L H4 (upd H5 T1 (.tup [V.int (i : Nat), .ref b])) := e5.trans e6.kp
      have k6' : Ex H2 (upd H5 T1 (.tup [V.int (i : Nat), .ref b])) := e5'.trans e6
      generalize upd H5 T1 (.tup [V.int (i : Nat), .ref b]) = H6 at hz6 hzd6 hb6 hlc6 k6 k6' ⊢
      refine ⟨ty_list hz6, ?_⟩
      walk_at "sx"
      refine z_r1 (by omega) (by omega) ?_
      intro D hD
      refine lc_it (n := M.p) (by exact walk_range) (LcP D fun j ys H' => Ex H6 H' ∧ ys = ((List.range j).map fun d => M.nxt i (M.back i d)).map vN) (lc0 ⟨Ex.new hD, rfl⟩) (fun _ _ _ _ => trivial) ?_ ?_
      · rintro j x H7 H8 hj ⟨ys, hy1, hyl, e7, ey⟩ ⟨rfl, rfl⟩
        walk_at "sx"
        refine ⟨rfl, ?_⟩
        walk_at "sx"
        refine z_ix (v := vN (M.ad.getD i 0)) (sq_l (.inl (rd_ex e7 hlc6))) (atI_nat (by rw [List.getElem?_map, getD_at hi']; rfl)) ?_
        walk_at "sx"
        have had : M.ad.getD i 0 < M.p := hM.ad _ (List.mem_of_getElem? (getD_at hi'))
        have hbk : (0 + (j : Int) - (M.ad.getD i 0 : Nat)) % (M.p : Int) = (M.back i j : Nat) := by
          unfold Mac.back
          rw [Int.natCast_emod, Int.natCast_add, Int.natCast_sub (Nat.le_of_lt had)]
          rw [show (0 : Int) + j - (M.ad.getD i 0 : Nat) = (j + ((M.p : Int) - (M.ad.getD i 0 : Nat))) - M.p by omega, Int.sub_emod_right]
        rw [hbk]
        have hbk1 : M.back i j < (M.tg.getD i []).length := by rw [hts.1]; exact hM.back i j
        refine z_ix (v := vN (M.nxt i (M.back i j))) (sq_t (.inl (rd_ex e7 hb6))) (atI_nat (by rw [List.getElem?_map, getD_at hbk1]; rfl)) ?_
        refine lc_put hy1 hyl hj (by omega) ⟨Ex.mut e7 hD, ?_⟩
        rw [ey, List.range_succ, List.map_append, List.map_append]
        rfl
      · rintro H7 ⟨ys, hy1, hyl, e7, ey⟩
        rw [ey] at hy1
        walk_at "sx"
        refine z_tupL (.inl (rl_of hy1)) fun q nq => ?_
        walk_at "sx"
        have e8 := e7.trans (Ex.new (o := .tup ((M.invRow i).map vN)) nq)
        refine z_append (e8 _ _ hz6) (by omega) ?_
        walk_at "sx"
        have hqL : q ≠ L := Ne.symm (ne_none nq (e7 _ _ hz6))
        have nDL : D ≠ L := Ne.symm (ne_none hD hz6)
        refine ⟨k6.trans (Kp.trans (Ex.kp e8) Kp.set), Ex.mut (k6'.trans e8) nL, ⟨_, upd_same, by rw [List.length_append, hzl]; rfl, ?_⟩, _, _, rfl⟩
        have h9 : DqAll r (upd H7 q (.tup ((M.invRow i).map vN))) (zs ++ [.ref q]) (((List.range (i + 1)).map M.invRow).map dT) := by
          rw [List.range_succ, List.map_append, List.map_append]
          refine (hzd6.ex e8).snoc (Dq.rowI (rt_of upd_same) ((lv2.ex (k6'.trans e7)).ne nq) ?_)
          simp only [Mac.invRow, List.length_map, List.length_range]
          omega
        exact rows_upd h9 (e8 _ _ hz6)
    · rintro σ H5 ⟨e5, e5', ⟨zs, hz, hzl, hzd⟩, t, u, rfl⟩
      rw [hlen] at hzl hzd
      walk_at "sx"
      have hl5 : RL H5 lc (M.ad.map vN) := rd_ex e5' hlc
      refine z_sL (.inl hl5) ?_
      intro D hD
      refine lc_it (n := M.ad.length) (by have := walk_list (K := K) (a := lc) (xs := M.ad.map vN); rwa [List.length_map] at this) (LcP D fun j ys H' => Ex H5 H' ∧ ys = ((M.ad.take j).map fun a => (M.p - a) % M.p).map vN) (lc0 ⟨Ex.new hD, rfl⟩) (fun _ _ _ ⟨_, _, _, e, _⟩ => sq_ex (K := K) e (.inl hl5)) ?_ ?_
      · rintro j x H7 H8 hj ⟨ys, hy1, hyl, e7, ey⟩ ⟨rfl, hx⟩
        obtain ⟨hj', c, hc, rfl⟩ := map_at hx
        walk_at "sx"
        refine ⟨rfl, ?_⟩
        walk_at "sx"
        have hcp : c < M.p := hM.ad _ (List.mem_of_getElem? hc)
        have hcc : (0 - (c : Int)) % (M.p : Int) = ((M.p - c) % M.p : Nat) := by
          rw [Int.natCast_emod, Int.natCast_sub (Nat.le_of_lt hcp), show (0 : Int) - c = ((M.p : Int) - c) - M.p by omega, Int.sub_emod_right]
        rw [hcc]
        refine lc_put hy1 hyl hj (by omega) ⟨Ex.mut e7 hD, ?_⟩
        rw [ey, List.take_add_one, hc, List.map_append, List.map_append]
        rfl
      · rintro H7 ⟨ys, hy1, hyl, e7, ey⟩
        rw [List.take_length] at ey
        rw [ey] at hy1
        walk_at "sx"
        have e27 := e5'.trans e7
        refine z_fld ((e2.trans e27) _ _ h1) T.k_Machine.cl (T.k_Machine.no _ (by decide)) rfl ?_
        walk_at "sx"
        refine z_makeK rfl rfl ?_
        refine use_make (M := invM M) (invM_ok hM) (lv2.ex e27) (rl_of hy1) (.inl (rl_of (e7 _ _ hz))) (rowsN_of (hzd.ex e7)) fun x H' e hx hB => ?_
        exact k x H' ((e2.trans e27).trans e) (Ex.none (e2.trans e27) hx) hB
theorem use_invert {T : Txt K mg} {r a : Addr} {M : Mac} {H : Hp} {Q : VK} {E : XK} (hA : MAt T.k_Machine.C r H (.ref a) M) (hM : M.Ok) (lv : Liv H r) (k : ∀ x H', Ex H H' → H x = none → MAt T.k_Machine.C r H' (.ref x) (invM M) → Q (.ref x) H') : spInvert T [.ref a] H Q E := ⟨r, a, M, rfl, hA, hM, lv, k⟩
end
end R

/-! # H1: the law's random tables -/
namespace R
open PySem PySem.Spec PyProof.Rows L2
/-- the law's tuple of a machine's tables -/
abbrev Mac.tab (M : Mac) : PyData := .tuple [dN M.p, dL M.ad, .list (M.tg.map dT), dN M.st]
theorem isP.pos {p : Nat} (h : isP p) : 2 ≤ p ∧ p ≤ 5 := by unfold isP at h; omega
section
variable {P : Program} {w : World} {K : PySem.W.Frag} {mg : Str → Option Value} {base : Heap}
def spTables : Sp := fun vs H Q _ => ∃ (r l : Addr) (p m : Nat), vs = [.ref r, vN p, vN m] ∧ Rng H r l ∧ isP p ∧ 1 ≤ m ∧ m ≤ 40 ∧ ∀ (M : Mac) (v : V) (H' : Hp), M.Ok → M.p = p → M.ad.length ≤ m → Kp r H H' → Rng H' r l → Dq r H' v M.tab → Q v H'
theorem use_tables {H : Hp} {Q : VK} {E : XK} {r l : Addr} {p m : Nat} (h : Rng H r l) (hp : isP p) (k : ∀ (M : Mac) (v : V) (H' : Hp), M.Ok → M.p = p → M.ad.length ≤ m → Kp r H H' → Rng H' r l → Dq r H' v M.tab → Q v H') (h1 : 1 ≤ m := by omega) (h2 : m ≤ 40 := by omega) : spTables [.ref r, vN p, vN m] H Q E := ⟨r, l, p, m, rfl, h, hp, h1, h2, k⟩
theorem ok_random_tables (T : Txt K mg) : Ok P w K mg base 2 T.random_tables spTables := by
  refine ok_of T.random_tables sc_random_tables (fun vs H Q E h => ?_) (fun cdv A outer s H vs Q E hr h => ?_)
  · obtain ⟨r, l, p, m, rfl, _⟩ := h
    rfl
  · obtain ⟨r, l, p, m, rfl, R0, hp, hm1, hm2, k⟩ := h
    have hp5 := hp.pos
    refine ⟨_, ((pss_cons (ps_set (i := 3) sc_random_tables.nd rfl (by first | exact Or.inl rfl | exact Or.inr rfl) (pe_op op_sAdd pe_int (pcall T.draw (ok_draw T) (hr.mono (by omega)) passE (pa_cons (pv 0) (pa_cons (pv 2) pa_nil)))))
  (pss_cons (ps_setLc (i := 4) (own := [("_law_k", 5)]) (g := (gName 5)) (tt := tYes) (te := (tCall _ [] E0 (tCons (tVar 0) (tCons (tVar 1) tNil)))) (by rfl) sc_random_tables.nd rfl rfl (sw_true rfl rfl rfl (by decide +kernel)) (pi_range1 (by rfl) T.b_range (pa_cons (pv 3) pa_nil)) (blkOk_by (own := [("_law_k", 5)]) (N := N_random_tables) (sc := defScope s_random_tables) (by decide +kernel)) (fun _ _ _ _ _ => by exact (pg_name (i := 5) sc_random_tables.nd rfl (by first | exact Or.inl rfl | exact Or.inr rfl))) (fun _ _ _ _ _ => by exact pts_nil) (fun _ _ _ _ _ => by exact (pcall T.draw (ok_draw T) (hr.mono (by omega)) passL (pa_cons (pv 0) (pa_cons (pv 1) pa_nil)))))
  (pss_cons (ps_setLc (i := 6) (own := [("_law_k", 5)]) (g := (gName 5)) (tt := tYes) (te := (tCB (sTuple K) (tCons (tLc (iRng1 (tCons (tVar 1) tNil)) (gName 7) tYes (tCall _ [] E0 (tCons (tVar 0) (tCons (tVar 3) tNil))) [7]) tNil))) (by rfl) sc_random_tables.nd rfl rfl (sw_true rfl rfl rfl (by decide +kernel)) (pi_range1 (by rfl) T.b_range (pa_cons (pv 3) pa_nil)) (blkOk_by (own := [("_law_k", 5)]) (N := N_random_tables) (sc := defScope s_random_tables) (by decide +kernel)) (fun _ _ _ _ _ => by exact (pg_name (i := 5) sc_random_tables.nd rfl (by first | exact Or.inl rfl | exact Or.inr rfl))) (fun _ _ _ _ _ => by exact pts_nil) (fun _ _ _ _ _ => by exact (pe_callTy call_sTuple (by rfl) T.b_tuple (by decide +kernel) (pa_cons (pe_lc (own := [("_law_digit", 7)]) (g := (gName 7)) (tt := tYes) (te := (tCall _ [] E0 (tCons (tVar 0) (tCons (tVar 3) tNil)))) (by rfl) sc_random_tables.nd (pi_range1 (by rfl) T.b_range (pa_cons (pv 1) pa_nil)) (by exact blkOk_by (own := [("_law_digit", 7)]) (N := N_random_tables) (by rfl)) (fun _ _ _ _ _ => by exact (pg_name (i := 7) sc_random_tables.nd rfl (by first | exact Or.inl rfl | exact Or.inr rfl))) (fun _ _ _ _ _ => by exact pts_nil) (fun _ _ _ _ _ => by exact (pcall T.draw (ok_draw T) (hr.mono (by omega)) passL (pa_cons (pv 0) (pa_cons (pv 3) pa_nil))))) pa_nil))))
  (pss_one (ps_ret (pe_tup (pa_cons (pv 1) (pa_cons (pv 4) (pa_cons (pv 6) (pa_cons (pcall T.draw (ok_draw T) (hr.mono (by omega)) passE (pa_cons (pv 0) (pa_cons (pv 3) pa_nil))) pa_nil))))))))))), ?_⟩
    refine go [some (.ref r), some (vN p), some (vN m), none, none, none, none, none] rfl ?_
    try dsimp only [L2.cxOf]
    walk_at "sx"
    refine use_drawN (k := m) R0 fun n H1 hn k1 R1 => ?_
    walk_at "sx"
    have hN : (1 : Int) + (n : Nat) = ((1 + n : Nat) : Int) := by omega
    rw [hN]
    have hN1 : 1 ≤ 1 + n := by omega
    have hN2 : 1 + n ≤ m := by omega
    generalize 1 + n = N at hN1 hN2 ⊢
    refine z_r1 (by omega) (by omega) ?_
    intro D hD
    refine lc_it (n := N) (by exact walk_range) (RndP r l D H1 dN (· < p)) (rnd0 R1 hD) (fun _ _ _ _ => trivial) ?_ ?_
    · rintro i x H2 H3 hi hP ⟨rfl, rfl⟩
      walk_at "sx"
      refine ⟨rfl, ?_⟩
      walk_at "sx"
      refine use_drawN (k := p) hP.rng fun d H4 hd k4 R4 => ?_
      exact hP.put R1 hD stN (by omega) k4 R4 (.int _) hd
    · intro H2 hP
      obtain ⟨ad, zs, hz, hl, hds, hq, k2, R2⟩ := hP.fin
      have := hq.nats
      subst this
      have nD := R1.ne hD
      walk_at "sx"
      refine z_r1 (by omega) (by omega) ?_
      intro D2 hD2
      refine lc_it (n := N) (by exact walk_range) (RndP r l D2 H2 dT (fun ts => ts.length = p ∧ ∀ t ∈ ts, t < N)) (rnd0 R2 hD2) (fun _ _ _ _ => trivial) ?_ ?_
      · rintro i x H3 H4 hi hP ⟨rfl, rfl⟩
        walk_at "sx"
        refine ⟨rfl, ?_⟩
        walk_at "sx"
        refine z_r1 (by omega) (by omega) ?_
        intro D3 hD3
        refine lc_it (n := p) (by exact walk_range) (RndP r l D3 H4 dN (· < N)) (rnd0 hP.rng hD3) (fun _ _ _ _ => trivial) ?_ ?_
        · rintro j x H5 H6 hj hP2 ⟨rfl, rfl⟩
          walk_at "sx"
          refine ⟨rfl, ?_⟩
          walk_at "sx"
          refine use_drawN (k := N) hP2.rng fun d H4 hd k4 R4 => ?_
          exact hP2.put hP.rng hD3 stN (by omega) k4 R4 (.int _) hd
        · intro H5 hP2
          obtain ⟨ts, zs2, hz2, hl2, hds2, hq2, k3, R3⟩ := hP2.fin
          have := hq2.nats
          subst this
          walk_at "sx"
          refine z_tupL (sq_of hz2) fun a na => ?_
          exact hP.put R2 hD2 stT (by omega) (k3.trans (Kp.new na)) (R3.ex (Ex.new na)) (Dq.rowI (rt_of upd_same) (R3.ne na) (by omega)) ⟨hl2, hds2⟩
      · intro H3 hP
        obtain ⟨tg, zs, hz3, hl3, htg, hq3, k3, R3⟩ := hP.fin
        walk_at "sx"
        refine use_drawN (k := N) R3 fun st H4 hst k4 R4 => ?_
        refine z_tup fun a na => ?_
        have k14 := ((k1.trans k2).trans k3).trans k4
        refine k ⟨p, ad, tg, st⟩ (.ref a) _ ⟨hp, by simp only [hl]; omega, by simp only [hl]; omega, by simp only [hl, hl3], by simp only [hl]; omega, hds, fun ts hts => ?_⟩ rfl (by simp only [hl]; omega) (k14.trans (Kp.new na)) (R4.ex (Ex.new na)) ?_
        · have := htg ts hts
          simp only [hl]
          exact this
        · refine .tup (rt_of upd_same) (R4.ne na) (by simp) (.cons (.int _) (.cons ?_ (.cons ?_ (.cons (.int _) .nil))))
          · exact Dq.lisI (rl_of (Ex.new na _ _ ((k3.trans k4) _ _ hz nD))) nD (by show ad.length ≤ 900000; omega)
          · exact .lst (rl_of (Ex.new na _ _ (k4 _ _ hz3 (R2.ne hD2)))) (R2.ne hD2) (by rw [hq3.len, List.length_map]; omega) (DqAll.ex (Ex.new na) (DqAll.kp k4 _ _ hq3))
theorem ok_lively_tables (T : Txt K mg) : Ok P w K mg base 3 T.lively_tables spTables := by
  refine ok_of T.lively_tables sc_lively_tables (fun vs H Q E h => ?_) (fun cdv A outer s H vs Q E hr h => ?_)
  · obtain ⟨r, l, p, m, rfl, _⟩ := h
    rfl
  · obtain ⟨r, l, p, m, rfl, R0, hp, hm1, hm2, k⟩ := h
    have hp5 := hp.pos
    refine ⟨_, ((pss_cons (ps_set (i := 3) sc_lively_tables.nd rfl (by first | exact Or.inl rfl | exact Or.inr rfl) (pe_op op_sAdd pe_int (pcall T.draw (ok_draw T) (hr.mono (by omega)) passE (pa_cons (pv 0) (pa_cons (pv 2) pa_nil)))))
  (pss_cons (ps_set (i := 4) sc_lively_tables.nd rfl (by first | exact Or.inl rfl | exact Or.inr rfl) (pcall T.draw (ok_draw T) (hr.mono (by omega)) passE (pa_cons (pv 0) (pa_cons (pv 3) pa_nil))))
  (pss_cons (ps_setLc (i := 5) (own := [("_law_k", 6)]) (g := (gName 6)) (tt := tYes) (te := (tOp (sMul K) (tCB (sInt K) (tCons (tOp (sEq K) (tVar 6) (tVar 4)) tNil)) (tOp (sAdd K) (tC _) (tCall _ [] E0 (tCons (tVar 0) (tCons (tOp sSub (tVar 1) (tC _)) tNil)))))) (by rfl) sc_lively_tables.nd rfl rfl (sw_true rfl rfl rfl (by decide +kernel)) (pi_range1 (by rfl) T.b_range (pa_cons (pv 3) pa_nil)) (blkOk_by (own := [("_law_k", 6)]) (N := N_lively_tables) (sc := defScope s_lively_tables) (by decide +kernel)) (fun _ _ _ _ _ => by exact (pg_name (i := 6) sc_lively_tables.nd rfl (by first | exact Or.inl rfl | exact Or.inr rfl))) (fun _ _ _ _ _ => by exact pts_nil) (fun _ _ _ _ _ => by exact (pe_op op_sMul (pe_callTy call_sInt (by rfl) T.b_int (by decide +kernel) (pa_cons (pe_cmpR (op_sEq hr.units) (pv 6) (pv 4) (nomark _)) pa_nil)) (pe_op op_sAdd pe_int (pcall T.draw (ok_draw T) (hr.mono (by omega)) passL (pa_cons (pv 0) (pa_cons (pe_op op_sSub (pv 1) pe_int) pa_nil)))))))
  (pss_cons (ps_set (i := 7) sc_lively_tables.nd rfl (by first | exact Or.inl rfl | exact Or.inr rfl) (pe_lst pa_nil))
  (pss_cons (ps_for ownE rfl (pi_range1 (by rfl) T.b_range (pa_cons (pv 3) pa_nil)) (pg_name (i := 6) sc_lively_tables.nd rfl (by first | exact Or.inl rfl | exact Or.inr rfl))
  (pss_cons (ps_set (i := 8) sc_lively_tables.nd rfl (by first | exact Or.inl rfl | exact Or.inr rfl) (pe_op op_sAdd (pe_lc (own := [("_law_spot", 9)]) (g := (gName 9)) (tt := (tTest (tOp (sNe K) (tVar 9) (tVar 4)))) (te := (tVar 9)) (by rfl) sc_lively_tables.nd (pi_range1 (by rfl) T.b_range (pa_cons (pv 3) pa_nil)) (blkOk_by (own := [("_law_spot", 9)]) (N := N_lively_tables) (sc := defScope s_lively_tables) (by decide +kernel)) (fun _ _ _ _ _ => by exact (pg_name (i := 9) sc_lively_tables.nd rfl (by first | exact Or.inl rfl | exact Or.inr rfl))) (fun _ _ _ _ _ => by exact (pts_one (pt_cmpR (op_sNe hr.units) (pv 9) (pv 4) (nomark _)))) (fun _ _ _ _ _ => by exact (pv 9))) (pe_op op_sMul (pe_lst (pa_cons (pv 4) pa_nil)) (pe_callTy call_sInt (by rfl) T.b_int (by decide +kernel) (pa_cons (pe_cmpR (op_sEq hr.units) (pv 3) pe_int (nomark _)) pa_nil)))))
  (pss_cons (ps_setLc (i := 10) (own := [("_law_digit", 11)]) (g := (gName 11)) (tt := tYes) (te := (tCall _ [] E0 (tCons (tVar 0) (tCons (tVar 8) tNil)))) (by rfl) sc_lively_tables.nd rfl rfl (sw_true rfl rfl rfl (by decide +kernel)) (pi_range1 (by rfl) T.b_range (pa_cons (pv 1) pa_nil)) (blkOk_by (own := [("_law_digit", 11)]) (N := N_lively_tables) (sc := defScope s_lively_tables) (by decide +kernel)) (fun _ _ _ _ _ => by exact (pg_name (i := 11) sc_lively_tables.nd rfl (by first | exact Or.inl rfl | exact Or.inr rfl))) (fun _ _ _ _ _ => by exact pts_nil) (fun _ _ _ _ _ => by exact (pcall T.pick (ok_pick T) (hr.mono (by omega)) passL (pa_cons (pv 0) (pa_cons (pv 8) pa_nil)))))
  (C8.pss_cut (ps_if (pt_cmpR (op_sEq hr.units) (pv 6) (pv 4) (nomark _))
  (pss_one (ps_for ownE rfl (pi_range1 (by rfl) T.b_range (pa_cons (pe_op op_sAdd pe_int (pcall T.draw (ok_draw T) (hr.mono (by omega)) passE (pa_cons (pv 0) (pa_cons (pe_op op_sSub (pv 1) pe_int) pa_nil)))) pa_nil)) (pg_name (i := 12) sc_lively_tables.nd rfl (by first | exact Or.inl rfl | exact Or.inr rfl))
  (pss_one (ps_asg (pv 4) (pg_sub (pv 10) (pcall T.draw (ok_draw T) (hr.mono (by omega)) passE (pa_cons (pv 0) (pa_cons (pv 1) pa_nil))) set_list)))))
  pss_nil)
  (pss_one (ps_expr (pe_bm PySem.F.plainAttrs_list PySem.F.slot_list_append PySem.F.type_list_append mt_append (pv 7) (pa_cons (pe_callTy call_sTuple (by rfl) T.b_tuple (by decide +kernel) (pa_cons (pv 10) pa_nil)) pa_nil))))))))
  (pss_one (ps_ret (pe_tup (pa_cons (pv 1) (pa_cons (pv 5) (pa_cons (pv 7) (pa_cons (pv 4) pa_nil))))))))))))), ?_⟩
    refine go [some (.ref r), some (vN p), some (vN m), none, none, none, none, none, none, none, none, none, none] rfl ?_
    try dsimp only [L2.cxOf]
    walk_at "sx"
    refine use_drawN (k := m) R0 fun n H1 hn k1 R1 => ?_
    walk_at "sx"
    have hN : (1 : Int) + (n : Nat) = ((1 + n : Nat) : Int) := by omega
    rw [hN]
    have hN1 : 1 ≤ 1 + n := by omega
    have hN2 : 1 + n ≤ m := by omega
    generalize 1 + n = N at hN1 hN2 ⊢
    refine use_drawN (k := N) R1 fun home H2 hh k2 R2 => ?_
    walk_at "sx"
    refine z_r1 (by omega) (by omega) ?_
    intro D hD
    refine lc_it (n := N) (by exact walk_range) (RndP r l D H2 dN (· < p)) (rnd0 R2 hD) (fun _ _ _ _ => trivial) ?_ ?_
    · rintro i x H3 H4 hi hP ⟨rfl, rfl⟩
      walk_at "sx"
      refine ⟨rfl, ?_⟩
      walk_at "sx"
      refine use_drawN (k := p - 1) hP.rng (fun d H4 hd k4 R4 => ?_) (by omega)
      walk_at "sx"
      have hb : ∃ c : Nat, (if decide ((0 : Int) + (i : Nat) = (home : Nat)) = true then (1 : Int) else 0) * (1 + (d : Nat)) = (c : Nat) ∧ c < p ∧ -(2 ^ 64) < (if decide ((0 : Int) + (i : Nat) = (home : Nat)) = true then (1 : Int) else 0) ∧ (if decide ((0 : Int) + (i : Nat) = (home : Nat)) = true then (1 : Int) else 0) < 2 ^ 64 := by
        by_cases hc : (0 : Int) + (i : Nat) = (home : Nat)
        · rw [decide_eq_true hc, if_pos rfl]
          exact ⟨1 + d, by omega, by omega, by decide, by decide⟩
        · rw [decide_eq_false hc, if_neg Bool.false_ne_true]
          exact ⟨0, by omega, by omega, by decide, by decide⟩
      obtain ⟨c, hc1, hc2, hc3, hc4⟩ := hb
      rw [hc1]
      exact hP.put R2 hD stN (by omega) k4 R4 (.int _) hc2
    · intro H3 hP
      obtain ⟨ad, zs, hz, hl, hds, hq, k3, R3⟩ := hP.fin
      have := hq.nats
      subst this
      have nD := R2.ne hD
      walk_at "sx"
      refine z_lst fun L nL => ?_
      walk_at "sx"
      refine z_r1 (by omega) (by omega) ?_
      have nLr := R3.ne nL
      have hD3 : upd H3 L (.lst []) D = some (.lst (ad.map vN)) := Ex.new nL _ _ hz
      have R3' := R3.ex (Ex.new (o := .lst []) nL)
      have k3' : Kp r H (upd H3 L (.lst [])) := (((k1.trans k2).trans k3).trans (Kp.new nL))
      have hL3 : upd H3 L (.lst []) L = some (.lst []) := upd_same
      have nLD : L ≠ D := Ne.symm (ne_none nL hz)
      have nL00 : H L = none := Kp.none ((k1.trans k2).trans k3) nL nLr
      have nLl : L ≠ l := R3.nel nL
      generalize upd H3 L (.lst []) = H3' at hD3 R3' k3' hL3 ⊢
      refine for_it (n := N) (by exact walk_range) (fun i σ H' => Kp r H H' ∧ Rng H' r l ∧ H' D = some (.lst (ad.map vN)) ∧ (∃ (zs : List V) (tg : List (List Nat)), H' L = some (.lst zs) ∧ tg.length = i ∧ (∀ ts ∈ tg, ts.length = p ∧ ∀ t ∈ ts, t < N) ∧ DqAll r H' zs (tg.map dT)) ∧
        ∃ a6 a8 a10 a12, σ = [some (.ref r), some (vN p), some (vN m), some (vN N), some (vN home), some (.ref D), a6, some (.ref L), a8, none, a10, none, a12]) ⟨k3', R3', hD3, ⟨[], [], hL3, rfl, fun _ h => absurd h List.not_mem_nil, .nil⟩, _, _, _, _, rfl⟩ (fun _ _ _ _ _ => trivial) ?_ ?_
      · rintro i x σ H4 H5 hi ⟨k4, R4, hD4, ⟨zs, tg, hL4, htl, htg, hq4⟩, a6, a8, a10, a12, rfl⟩ ⟨rfl, rfl⟩
        walk_at "sx"
        refine z_r1 (by omega) (by omega) ?_
        intro A hA
        refine lc_it (n := N) (by exact walk_range) (LcP A fun j ys H' => Ex H5 H' ∧ ys = ((List.range j).filter fun t => !decide (t = home)).map vN) (lc0 ⟨Ex.new hA, rfl⟩) (fun _ _ _ _ => trivial) ?_ ?_
        · rintro j x H6 H7 hj ⟨ys, hy1, hyl, e6, ey⟩ ⟨rfl, rfl⟩
          walk_at "sx"
          refine ⟨rfl, ?_⟩
          walk_at "sx"
          have hfs : (List.range (j + 1)).filter (fun t => !decide (t = home)) = (List.range j).filter (fun t => !decide (t = home)) ++ (if j = home then [] else [j]) := by
            rw [List.range_succ, List.filter_append]
            by_cases h : j = home
            · simp [h]
            · simp [h]
          refine y_iteN (fun c => ?_) (fun c => ?_)
          · walk_at "sx"
            have hv : (0 : Int) + (j : Nat) = (j : Nat) := by omega
            rw [hv]
            refine lc_put hy1 hyl hj (by omega) ⟨Ex.mut e6 hA, ?_⟩
            rw [ey, hfs, if_neg (by omega), List.map_append]
            rfl
          · refine lc_skip hy1 hyl ⟨e6, ?_⟩
            rw [ey, hfs, if_pos (by omega), List.append_nil]
        · rintro H6 ⟨ys, hy1, hyl, e6, ey⟩
          rw [ey] at hy1
          walk_at "sx"
          refine z_lst fun B nB => ?_
          walk_at "sx"
          obtain ⟨kk, hkk, hk0, hk1, hkf⟩ : ∃ kk : Int, (if decide ((N : Int) = 1) = true then (1 : Int) else 0) = kk ∧ 0 ≤ kk ∧ kk ≤ 1 ∧ (List.replicate kk.toNat [vN home]).flatten = (if N = 1 then [home] else []).map vN := by
            refine ⟨_, rfl, ?_⟩
            by_cases h : N = 1
            · subst h
              exact ⟨by decide, by decide, rfl⟩
            · rw [decide_eq_false (by omega), if_neg Bool.false_ne_true, if_neg h]
              exact ⟨by decide, by decide, rfl⟩
          rw [hkk]
          refine z_mulLst upd_same (by omega) (by rw [List.length_singleton, Nat.one_mul]; omega) fun B2 nB2 => ?_
          rw [hkf]
          have eAB : Ex H6 (upd (upd H6 B (.lst [vN home])) B2 (.lst ((if N = 1 then [home] else []).map vN))) := (Ex.new nB).trans (Ex.new nB2)
          have hfl : ((List.range N).filter fun t => !decide (t = home)).length ≤ N := by
            have := List.length_filter_le (fun t => !decide (t = home)) (List.range N)
            rwa [List.length_range] at this
          refine z_addL (eAB _ _ hy1) upd_same (sz_of ?_) fun C nC => ?_
          · rw [List.length_map, List.length_map]
            have : (if N = 1 then [home] else []).length ≤ 1 := by split <;> simp
            omega
          · obtain ⟨aw, haw, haw1, haw2, haw3⟩ : ∃ aw : List Nat, ((List.range N).filter fun t => !decide (t = home)).map vN ++ ((if N = 1 then [home] else []).map vN) = aw.map vN ∧ aw ≠ [] ∧ (∀ t ∈ aw, t < N) ∧ aw.length ≤ N + 1 := by
              refine ⟨_, List.map_append.symm, ?_, ?_, ?_⟩
              · by_cases h : N = 1
                · rw [if_pos h]
                  simp
                · intro hh
                  have h2 := (List.append_eq_nil_iff.mp hh).1
                  rw [List.filter_eq_nil_iff] at h2
                  have q0 := h2 (if home = 0 then 1 else 0) (by rw [List.mem_range]; split <;> omega)
                  by_cases hz : home = 0
                  · rw [if_pos hz] at q0
                    simp at q0
                    omega
                  · rw [if_neg hz] at q0
                    simp at q0
                    omega
              · intro t ht
                rcases List.mem_append.mp ht with ht | ht
                · exact List.mem_range.mp (List.mem_filter.mp ht).1
                · split at ht
                  · rw [List.mem_singleton.mp ht]; exact hh
                  · exact absurd ht List.not_mem_nil
              · rw [List.length_append]
                have : (if N = 1 then [home] else []).length ≤ 1 := by split <;> simp
                omega
            rw [haw]
            have e7 : Ex H5 (upd (upd (upd H6 B (.lst [vN home])) B2 (.lst ((if N = 1 then [home] else []).map vN))) C (.lst (aw.map vN))) := (e6.trans eAB).trans (Ex.new nC)
            have hC7 : upd (upd (upd H6 B (.lst [vN home])) B2 (.lst ((if N = 1 then [home] else []).map vN))) C (.lst (aw.map vN)) C = some (.lst (aw.map vN)) := upd_same
            have nCr : C ≠ r := (R4.ex (e6.trans eAB)).ne nC
            generalize upd (upd (upd H6 B (.lst [vN home])) B2 (.lst ((if N = 1 then [home] else []).map vN))) C (.lst (aw.map vN)) = H7 at e7 hC7 ⊢
            have R7 := R4.ex e7
            walk_at "sx"
            refine z_r1 (by omega) (by omega) ?_
            intro O hO
            refine lc_it (n := p) (by exact walk_range) (RndP r l O H7 dN (· < N)) (rnd0 R7 hO) (fun _ _ _ _ => trivial) ?_ ?_
            · rintro j x H8 H9 hj hP2 ⟨rfl, rfl⟩
              walk_at "sx"
              refine ⟨rfl, ?_⟩
              walk_at "sx"
              refine use_pick hP2.rng (sq_l (sq_of (hP2.kp _ _ hC7 nCr))) nCr (fun v H10 hv k10 R10 => ?_) (by rw [List.length_map]; exact List.length_pos_iff.mpr haw1) (by rw [List.length_map]; omega)
              obtain ⟨t, ht, rfl⟩ := List.mem_map.mp hv
              exact hP2.put R7 hO stN (by omega) k10 R10 (.int _) (haw2 t ht)
            · intro H8 hP2
              obtain ⟨os, zs2, hO8, hol, hos, hoq, k8, R8⟩ := hP2.fin
              have := hoq.nats
              subst this
              have nOr := R7.ne hO
              walk_at "sx"
              have kH : Kp r H5 H8 := e7.kp.trans k8
              have nO5 : H5 O = none := Ex.none e7 hO
              refine ⟨fun σ' H' => Kp r H5 H' ∧ Rng H' r l ∧ (∃ os : List Nat, H' O = some (.lst (os.map vN)) ∧ os.length = p ∧ ∀ t ∈ os, t < N) ∧ ∃ u, σ' = [some (.ref r), some (vN p), some (vN m), some (vN N), some (vN home), some (.ref D), some (.int (0 + (i : Nat))), some (.ref L), some (.ref C), none, some (.ref O), none, u], ?_, ?_⟩
              · walk_at "sx"
                refine y_ite (fun c => ?_) (fun c => ?_)
                · walk_at "sx"
                  refine use_drawN (k := p - 1) R8 (fun d H9 hd k9 R9 => ?_) (by omega)
                  walk_at "sx"
                  refine z_r1 (by omega) (by omega) ?_
                  have hT : (1 : Int) + (d : Nat) = ((1 + d : Nat) : Int) := by omega
                  rw [hT]
                  refine for_it (n := 1 + d) (by exact walk_range) (fun _ σ H' => Kp r H5 H' ∧ Rng H' r l ∧ (∃ os : List Nat, H' O = some (.lst (os.map vN)) ∧ os.length = p ∧ ∀ t ∈ os, t < N) ∧ ∃ u, σ = [some (.ref r), some (vN p), some (vN m), some (vN N), some (vN home), some (.ref D), some (.int (0 + (i : Nat))), some (.ref L), some (.ref C), none, some (.ref O), none, u]) ⟨kH.trans k9, R9, ⟨os, k9 _ _ hO8 nOr, hol, hos⟩, _, rfl⟩ (fun _ _ _ _ _ => trivial) ?_ ?_
                  · rintro j y σ2 H10 H11 hj ⟨k10, R10, ⟨os2, hO10, hol2, hos2⟩, u, rfl⟩ ⟨rfl, rfl⟩
                    walk_at "sx"
                    refine use_drawN (k := p) R10 fun e H12 he k12 R12 => ?_
                    refine z_setL (j := e) (k12 _ _ hO10 nOr) (by rw [List.length_map, hol2]; unfold ixN; rw [if_pos (by omega), if_pos (by omega)]; simp) ?_
                    refine ⟨(k10.trans k12).mut nO5, R12.upd nOr (R4.nel nO5), ⟨os2.set e home, ?_, by rw [List.length_set]; exact hol2, fun t ht => ?_⟩, _, rfl⟩
                    · rw [upd_same, List.map_set]
                    · rcases List.mem_or_eq_of_mem_set ht with h | h
                      · exact hos2 t h
                      · rw [h]; exact hh
                  · rintro σ2 H10 ⟨k10, R10, h10, u, rfl⟩
                    walk_at "sx"
                    exact ⟨k10, R10, h10, u, rfl⟩
                · walk_at "sx"
                  exact ⟨kH, R8, ⟨os, hO8, hol, hos⟩, _, rfl⟩
              · rintro σ' H9 ⟨k9, R9, ⟨os2, hO9, hol2, hos2⟩, u, rfl⟩
                walk_at "sx"
                refine ⟨ty_list (k9 _ _ hL4 nLr), ?_⟩
                walk_at "sx"
                refine z_tupL (sq_of hO9) fun q nq => ?_
                walk_at "sx"
                have hL9 : upd H9 q (.tup (os2.map vN)) L = some (.lst zs) := Ex.new nq _ _ (k9 _ _ hL4 nLr)
                have hzl : zs.length = i := by rw [hq4.len, List.length_map, htl]
                refine z_append hL9 (by omega) ?_
                walk_at "sx"
                have k49 := (k4.trans k9).trans (Kp.new (o := .tup (os2.map vN)) nq)
                have nL0 : H L = none := nL00
                refine ⟨k49.mut nL0, (R9.ex (Ex.new nq)).upd nLr nLl, ?_, ⟨_, tg ++ [os2], upd_same, by rw [List.length_append, htl]; rfl, ?_, ?_⟩, _, _, _, _, rfl⟩
                · rw [upd_ne nLD.symm]
                  exact Ex.new nq _ _ (k9 _ _ hD4 nD)
                · intro ts hts
                  rcases List.mem_append.mp hts with h | h
                  · exact htg ts h
                  · rw [List.mem_singleton.mp h]
                    exact ⟨hol2, hos2⟩
                · have h9 : DqAll r (upd H9 q (.tup (os2.map vN))) (zs ++ [.ref q]) ((tg ++ [os2]).map dT) := by
                    rw [List.map_append]
                    exact (DqAll.ex (Ex.new nq) (DqAll.kp k9 _ _ hq4)).snoc (Dq.rowI (rt_of upd_same) (R9.ne nq) (by omega))
                  exact rows_upd h9 hL9
      · rintro σ H4 ⟨k4, R4, hD4, ⟨zs, tg, hL4, htl, htg, hq4⟩, a6, a8, a10, a12, rfl⟩
        walk_at "sx"
        refine z_tup fun a na => ?_
        refine k ⟨p, ad, tg, home⟩ (.ref a) _ ⟨hp, by simp only [hl]; omega, by simp only [hl]; omega, by simp only [hl, htl], by simp only [hl]; omega, hds, fun ts hts => ?_⟩ rfl (by simp only [hl]; omega) (k4.trans (Kp.new na)) (R4.ex (Ex.new na)) ?_
        · have := htg ts hts
          simp only [hl]
          exact this
        · refine .tup (rt_of upd_same) (R4.ne na) (by simp) (.cons (.int _) (.cons ?_ (.cons ?_ (.cons (.int _) .nil))))
          · exact Dq.lisI (rl_of (Ex.new na _ _ hD4)) nD (by show ad.length ≤ 900000; omega)
          · exact .lst (rl_of (Ex.new na _ _ hL4)) nLr (by rw [hq4.len, List.length_map]; omega) (DqAll.ex (Ex.new na) hq4)
end
end R

/-! # H2: tables, machines of the law -/
namespace R
open PySem PySem.Spec PyProof.Rows L2
theorem Dq.four {r : Addr} {H : Hp} {v : V} {a b c d : PyData} (h : Dq r H v (.tuple [a, b, c, d])) : ∃ t w x y z, v = .ref t ∧ RT H t [w, x, y, z] ∧ t ≠ r ∧ Dq r H w a ∧ Dq r H x b ∧ Dq r H y c ∧ Dq r H z d := by
  cases h with
  | tup h1 h2 h3 h4 =>
    cases h4 with
    | cons g1 h4 => cases h4 with
      | cons g2 h4 => cases h4 with
        | cons g3 h4 => cases h4 with
          | cons g4 h4 =>
            cases h4
            exact ⟨_, _, _, _, _, rfl, h1, h2, g1, g2, g3, g4⟩
theorem Dq.tab {r : Addr} {H : Hp} {v : V} {M : Mac} (h : Dq r H v M.tab) : ∃ t a b rs, v = .ref t ∧ RT H t [vN M.p, .ref a, .ref b, vN M.st] ∧ t ≠ r ∧ RL H a (M.ad.map vN) ∧ a ≠ r ∧ RL H b rs ∧ b ≠ r ∧ DqAll r H rs (M.tg.map dT) ∧ rs.length ≤ 900000 ∧ M.ad.length ≤ 900000 := by
  obtain ⟨t, w, x, y, z, rfl, h1, h2, h3, h4, h5, h6⟩ := h.four
  obtain rfl := h3.nat
  obtain rfl := h6.nat
  obtain ⟨a, rfl, g1, g2, g3⟩ := h4.lis
  cases h5 with
  | lst k1 k2 k3 k4 => exact ⟨t, a, _, _, rfl, h1, h2, g1, g2, k1, k2, k4, k3, g3⟩
theorem Dq.tabI {r : Addr} {H : Hp} {t a b : Addr} {rs : List V} {M : Mac} (h1 : RT H t [vN M.p, .ref a, .ref b, vN M.st]) (h2 : t ≠ r) (h3 : RL H a (M.ad.map vN)) (h4 : a ≠ r) (h5 : RL H b rs) (h6 : b ≠ r) (h7 : DqAll r H rs (M.tg.map dT)) (h8 : rs.length ≤ 900000) (h9 : M.ad.length ≤ 900000) : Dq r H (.ref t) M.tab :=
  .tup h1 h2 (by simp) (.cons (.int _) (.cons (Dq.lisI h3 h4 h9) (.cons (.lst h5 h6 h8 h7) (.cons (.int _) .nil))))
section
variable {P : Program} {w : World} {K : PySem.W.Frag} {mg : Str → Option Value} {base : Heap}
theorem ok_tables (T : Txt K mg) : Ok P w K mg base 4 T.tables spTables := by
  refine ok_of T.tables sc_tables (fun vs H Q E h => ?_) (fun cdv A outer s H vs Q E hr h => ?_)
  · obtain ⟨r, l, p, m, rfl, _⟩ := h
    rfl
  · obtain ⟨r, l, p, m, rfl, R0, hp, hm1, hm2, k⟩ := h
    refine ⟨_, ((pss_cons (ps_if (pt_cmpR (op_sEq hr.units) (pcall T.draw (ok_draw T) (hr.mono (by omega)) passE (pa_cons (pv 0) (pa_cons pe_int pa_nil))) pe_int (nomark _))
  (pss_one (ps_ret (pcall T.lively_tables (ok_lively_tables T) (hr.mono (by omega)) passE (pa_cons (pv 0) (pa_cons (pv 1) (pa_cons (pv 2) pa_nil))))))
  pss_nil)
  (pss_one (ps_ret (pcall T.random_tables (ok_random_tables T) (hr.mono (by omega)) passE (pa_cons (pv 0) (pa_cons (pv 1) (pa_cons (pv 2) pa_nil)))))))), ?_⟩
    refine go [some (.ref r), some (vN p), some (vN m)] rfl ?_
    try dsimp only [L2.cxOf]
    walk_at "sx"
    refine use_drawN (k := 2) R0 fun n H1 hn k1 R1 => ?_
    walk_at "sx"
    refine y_ite (fun c => ?_) (fun c => ?_)
    · walk_at "sx"
      exact use_tables R1 hp fun M v H' a b c d e f => k M v H' a b c (k1.trans d) e f
    · walk_at "sx"
      exact use_tables R1 hp fun M v H' a b c d e f => k M v H' a b c (k1.trans d) e f
/-- the machine of the tables -/
def spMachine (T : Txt K mg) : Sp := fun vs H Q _ => ∃ (r : Addr) (M : Mac) (v : V), vs = [v] ∧ Dq r H v M.tab ∧ M.Ok ∧ Liv H r ∧ ∀ x H', Ex H H' → H x = none → MAt T.k_Machine.C r H' (.ref x) M → Q (.ref x) H'
theorem ok_machine (T : Txt K mg) : Ok P w K mg base 6 T.machine (spMachine T) := by
  refine ok_of T.machine sc_machine (fun vs H Q E h => ?_) (fun cdv A outer s H vs Q E hr h => ?_)
  · obtain ⟨r, M, v, rfl, _⟩ := h
    rfl
  · obtain ⟨r, M, v, rfl, hv, hM, lv, k⟩ := h
    obtain ⟨t, a, b, rs, rfl, h1, h2, h3, h4, h5, h6, h7, h8, h9⟩ := hv.tab
    refine ⟨_, ((pss_one (ps_ret (pmakeK (n := 3) T.k_Machine.g T.i_Machine (ok_Machine_init T) (hr.mono (by omega)) passE (by exact (pa_cons (pe_ix ix_s (pv 0) pe_int (fun _ _ => rfl)) (pa_cons (pe_callTy call_sList (by rfl) T.b_list (by decide +kernel) (pa_cons (pe_ix ix_s (pv 0) pe_int (fun _ _ => rfl)) pa_nil)) (pa_cons (pe_callTy call_sList (by rfl) T.b_list (by decide +kernel) (pa_cons (pe_ix ix_s (pv 0) pe_int (fun _ _ => rfl)) pa_nil)) pa_nil)))) (by exact (pk_cons (pe_ix ix_s (pv 0) pe_int (fun _ _ => rfl)) pk_nil)))))), ?_⟩
    refine go [some (.ref t)] rfl ?_
    try dsimp only [L2.cxOf]
    walk_at "sx"
    refine z_ix (sq_t (.inl h1)) rfl ?_
    walk_at "sx"
    refine z_ix (sq_t (.inl h1)) rfl ?_
    walk_at "sx"
    refine z_list (sq_l (.inl h3)) fun p1 n1 => ?_
    walk_at "sx"
    have e1 := Ex.new (o := .lst (M.ad.map vN)) n1
    refine z_ix (sq_t (.inl (rd_ex e1 h1))) rfl ?_
    walk_at "sx"
    refine z_list (sq_l (.inl (rd_ex e1 h5))) fun p2 n2 => ?_
    walk_at "sx"
    have e2 := e1.trans (Ex.new (o := .lst rs) n2)
    refine z_ix (sq_t (.inl (rd_ex e2 h1))) rfl ?_
    walk_at "sx"
    refine z_makeK rfl rfl ?_
    exact use_make hM (lv.ex e2) (rl_of (Ex.new n2 _ _ upd_same)) (.inl (rl_of upd_same)) (rowsN_of (h7.ex e2)) fun x H' e hx hA => k x H' (e2.trans e) (Ex.none e2 hx) hA
theorem use_machine {T : Txt K mg} {H : Hp} {Q : VK} {E : XK} {r : Addr} {M : Mac} {v : V} (hv : Dq r H v M.tab) (hM : M.Ok) (lv : Liv H r) (k : ∀ x H', Ex H H' → H x = none → MAt T.k_Machine.C r H' (.ref x) M → Q (.ref x) H') : spMachine T [v] H Q E := ⟨r, M, v, rfl, hv, hM, lv, k⟩
/-- its tables, read by the methods -/
def spTablesOf (T : Txt K mg) : Sp := fun vs H Q _ => ∃ (r : Addr) (M : Mac) (v : V), vs = [v] ∧ MAt T.k_Machine.C r H v M ∧ M.Ok ∧ Liv H r ∧ ∀ w H', Ex H H' → Dq r H' w M.tab → Q w H'
theorem ok_tables_of (T : Txt K mg) : Ok P w K mg base 2 T.tables_of (spTablesOf T) := by
  refine ok_of T.tables_of sc_tables_of (fun vs H Q E h => ?_) (fun cdv A outer s H vs Q E hr h => ?_)
  · obtain ⟨r, M, v, rfl, _⟩ := h
    rfl
  · obtain ⟨r, M, v, rfl, hA, hM, lv, k⟩ := h
    have hA0 := hA
    obtain ⟨a, dx, va, vt, rfl, n, h1, h2, h3⟩ := hA
    refine ⟨_, ((pss_one (ps_ret (pe_tup (pa_cons (pe_fld (pv 0) rfl) (pa_cons (pmeth0 T.m_Machine_constants T.k_Machine.cl (ok_Machine_constants T) (hr.mono (by omega)) passE (pv 0)) (pa_cons (pmeth0 T.m_Machine_transitions T.k_Machine.cl (ok_Machine_transitions T) (hr.mono (by omega)) passE (pv 0)) (pa_cons (pe_fld (pv 0) rfl) pa_nil)))))))), ?_⟩
    refine go [some (.ref a)] rfl ?_
    try dsimp only [L2.cxOf]
    walk_at "sx"
    refine z_fld h1 T.k_Machine.cl (T.k_Machine.no _ (by decide)) rfl ?_
    walk_at "sx"
    refine z_meth h1 rfl ?_
    walk_at "sx"
    refine ⟨r, a, M, rfl, hA0, fun l1 n1 => ?_⟩
    have e1 := Ex.new (o := .lst (M.ad.map vN)) n1
    walk_at "sx"
    refine z_meth (e1 _ _ h1) rfl ?_
    walk_at "sx"
    refine ⟨r, a, M, rfl, hA0.ex e1, fun l2 rs n2 hrs => ?_⟩
    have e2 := e1.trans (Ex.new (o := .lst rs) n2)
    walk_at "sx"
    refine z_fld (e2 _ _ h1) T.k_Machine.cl (T.k_Machine.no _ (by decide)) rfl ?_
    walk_at "sx"
    refine z_tup fun p np => ?_
    have e3 := e2.trans (Ex.new (o := .tup [vN M.p, .ref l1, .ref l2, vN M.st]) np)
    have hn40 := hM.n40
    refine k _ _ e3 (Dq.tabI (rt_of upd_same) ((lv.ex e2).ne np) (rl_of (Ex.new np _ _ (Ex.new n2 _ _ upd_same))) (lv.ne n1) (rl_of (Ex.new np _ _ upd_same)) ((lv.ex e1).ne n2) (hrs.ex ((Ex.new (o := .lst rs) n2).trans (Ex.new np))) (by rw [hrs.len, List.length_map, hM.tl]; omega) (by omega))
theorem use_tables_of {T : Txt K mg} {H : Hp} {Q : VK} {E : XK} {r : Addr} {M : Mac} {v : V} (hv : MAt T.k_Machine.C r H v M) (hM : M.Ok) (lv : Liv H r) (k : ∀ w H', Ex H H' → Dq r H' w M.tab → Q w H') : spTablesOf T [v] H Q E := ⟨r, M, v, rfl, hv, hM, lv, k⟩
end
end R

/-! # law k15 -/
namespace R
open PySem PySem.Spec PyProof.Rows L2
theorem getD_map_range {β : Type} {f : Nat → β} {n i : Nat} {d : β} (h : i < n) : ((List.range n).map f).getD i d = f i := by
  rw [List.getD_eq_getElem?_getD, List.getElem?_map, List.getElem?_range h]
  rfl
theorem getD_map {α β : Type} {f : α → β} {xs : List α} {i : Nat} {d : β} {e : α} (h : i < xs.length) : (xs.map f).getD i d = f (xs.getD i e) := by
  rw [List.getD_eq_getElem?_getD, List.getElem?_map, getD_at (d := e) h]
  rfl
theorem invM_ad {M : Mac} {s : Nat} (h : s < M.ad.length) : (invM M).ad.getD s 0 = (M.p - M.ad.getD s 0) % M.p := getD_map h
theorem invM_nxt {M : Mac} {s d : Nat} (h : s < M.ad.length) (hd : d < M.p) : (invM M).nxt s d = M.nxt s (M.back s d) := by
  show (((List.range M.ad.length).map M.invRow).getD s []).getD d 0 = _
  rw [getD_map_range h]
  exact getD_map_range hd
theorem getD_mem {xs : List Nat} {s : Nat} (h : s < xs.length) : xs.getD s 0 ∈ xs := List.mem_of_getElem? (getD_at h)
/-- what is added is taken back -/
theorem back_put {M : Mac} (hM : M.Ok) {s d : Nat} (h : s < M.ad.length) (hd : d < M.p) : M.back s (M.put s d) = d := by
  have ha := hM.ad _ (getD_mem h)
  unfold Mac.back Mac.put
  rw [Nat.mod_add_mod, show d + M.ad.getD s 0 + (M.p - M.ad.getD s 0) = d + M.p by omega, Nat.add_mod_right, Nat.mod_eq_of_lt hd]
theorem put_back {M : Mac} (hM : M.Ok) {s d : Nat} (h : s < M.ad.length) (hd : d < M.p) : M.put s (M.back s d) = d := by
  have ha := hM.ad _ (getD_mem h)
  unfold Mac.back Mac.put
  rw [Nat.mod_add_mod, show d + (M.p - M.ad.getD s 0) + M.ad.getD s 0 = d + M.p by omega, Nat.add_mod_right, Nat.mod_eq_of_lt hd]
theorem invM_put {M : Mac} {s d : Nat} (h : s < M.ad.length) : (invM M).put s d = M.back s d := by
  unfold Mac.put
  rw [invM_ad h]
  show (d + (M.p - M.ad.getD s 0) % M.p) % M.p = _
  rw [Nat.add_mod_mod]
  rfl
theorem invM_out {M : Mac} (hM : M.Ok) : ∀ (ds : List Nat) (s : Nat), s < M.ad.length → (∀ d ∈ ds, d < M.p) → (invM M).out s (M.out s ds) = ds
  | [], _, _, _ => rfl
  | d :: ds, s, hs, hd => by
    have hd0 := hd d (.head _)
    show (invM M).put s (M.put s d) :: (invM M).out ((invM M).nxt s (M.put s d)) (M.out (M.nxt s d) ds) = d :: ds
    rw [invM_put hs, back_put hM hs hd0, invM_nxt hs (hM.put s d), back_put hM hs hd0, invM_out hM ds _ (hM.nxt hs hd0) fun e he => hd e (.tail _ he)]
theorem back_back {M : Mac} (hM : M.Ok) {s d : Nat} (h : s < M.ad.length) (hd : d < M.p) : M.back s ((invM M).back s d) = d := by
  have ha := hM.ad _ (getD_mem h)
  have e : (invM M).back s d = M.put s d := by
    show (d + (M.p - (invM M).ad.getD s 0)) % M.p = _
    rw [invM_ad h]
    unfold Mac.put
    by_cases h0 : M.ad.getD s 0 = 0
    · rw [h0, Nat.sub_zero, Nat.mod_self, Nat.sub_zero, Nat.add_mod_right, Nat.add_zero]
    · rw [Nat.mod_eq_of_lt (by omega : M.p - M.ad.getD s 0 < M.p), show M.p - (M.p - M.ad.getD s 0) = M.ad.getD s 0 by omega]
  rw [e, back_put hM h hd]
theorem ext_getD {α : Type} {xs ys : List α} (d : α) (hl : xs.length = ys.length) (h : ∀ i, i < ys.length → xs.getD i d = ys.getD i d) : xs = ys := by
  refine List.ext_getElem? fun i => ?_
  by_cases hi : i < ys.length
  · rw [getD_at (d := d) (by omega), getD_at (d := d) hi, h i hi]
  · rw [List.getElem?_eq_none (by omega), List.getElem?_eq_none (by omega)]
theorem invM_invM {M : Mac} (hM : M.Ok) : invM (invM M) = M := by
  have e1 : (invM (invM M)).ad = M.ad := by
    refine ext_getD 0 (by simp [invM]) fun i hi => ?_
    rw [invM_ad (by simpa [invM] using hi), invM_ad hi]
    show (M.p - (M.p - M.ad.getD i 0) % M.p) % M.p = _
    have ha := hM.ad _ (getD_mem hi)
    by_cases h0 : M.ad.getD i 0 = 0
    · rw [h0, Nat.sub_zero, Nat.mod_self, Nat.sub_zero, Nat.mod_self]
    · rw [Nat.mod_eq_of_lt (by omega : M.p - M.ad.getD i 0 < M.p), show M.p - (M.p - M.ad.getD i 0) = M.ad.getD i 0 by omega, Nat.mod_eq_of_lt ha]
  have e2 : (invM (invM M)).tg = M.tg := by
    refine ext_getD [] (by simp [invM, hM.tl]) fun i hi => ?_
    have hi' : i < M.ad.length := by rw [← hM.tl]; exact hi
    have hts := hM.tg _ (List.mem_of_getElem? (getD_at (d := []) hi))
    show ((List.range (invM M).ad.length).map (invM M).invRow).getD i [] = _
    rw [getD_map_range (by simpa [invM] using hi')]
    refine ext_getD 0 (by rw [hts.1]; simp [Mac.invRow, invM]) fun d hd => ?_
    rw [hts.1] at hd
    show ((List.range M.p).map fun d => (invM M).nxt i ((invM M).back i d)).getD d 0 = _
    rw [getD_map_range hd, invM_nxt hi' ((invM_ok hM).back i d), back_back hM hi' hd]
    rfl
  cases M
  simp only [invM] at e1 e2 ⊢
  rw [e1, e2]
theorem out_inv {M : Mac} (hM : M.Ok) {ds : List Nat} (hd : ∀ d ∈ ds, d < M.p) : M.out M.st ((invM M).out M.st ds) = ds := by
  have := invM_out (invM_ok hM) ds M.st (by simpa [invM] using hM.st) hd
  rwa [invM_invM hM] at this
theorem invM_from {M : Mac} {s : Nat} : invM (M.from s) = (invM M).from s := rfl
section
variable {P : Program} {w : World} {K : PySem.W.Frag} {mg : Str → Option Value} {base : Heap}
def spInvTab : Sp := fun vs H Q _ => ∃ (r : Addr) (M : Mac) (v : V), vs = [v] ∧ Dq r H v M.tab ∧ M.Ok ∧ Liv H r ∧ ∀ w H', Ex H H' → Dq r H' w (invM M).tab → Q w H'
theorem ok_inverse_tables (T : Txt K mg) : Ok P w K mg base 1 T.inverse_tables spInvTab := by
  refine ok_of T.inverse_tables sc_inverse_tables (fun vs H Q E h => ?_) (fun cdv A outer s H vs Q E hr h => ?_)
  · obtain ⟨r, M, v, rfl, _⟩ := h
    rfl
  · obtain ⟨r, M, v, rfl, hv, hM, lv, k⟩ := h
    obtain ⟨t, a, b, rs, rfl, h1, h2, h3, h4, h5, h6, h7, h8, h9⟩ := hv.tab
    have hp0 := hM.pos
    have hn40 := hM.n40
    refine ⟨_, ((pss_cons (ps_set (i := 1) sc_inverse_tables.nd rfl (by first | exact Or.inl rfl | exact Or.inr rfl) (pe_lst pa_nil))
  (pss_cons (ps_for ownE rfl (pi_range1 (by rfl) T.b_range (pa_cons (pe_callB call_sLen (by rfl) T.b_len (by decide +kernel) (pa_cons (pe_ix ix_s (pv 0) pe_int (fun _ _ => rfl)) pa_nil)) pa_nil)) (pg_name (i := 2) sc_inverse_tables.nd rfl (by first | exact Or.inl rfl | exact Or.inr rfl))
  (pss_one (ps_expr (pe_bm PySem.F.plainAttrs_list PySem.F.slot_list_append PySem.F.type_list_append mt_append (pv 1) (pa_cons (pe_callTy call_sTuple (by rfl) T.b_tuple (by decide +kernel) (pa_cons (pe_lc (own := [("_law_digit", 3)]) (g := (gName 3)) (tt := tYes) (te := (tOp (sIx K) (tOp (sIx K) (tOp (sIx K) (tVar 0) (tC _)) (tVar 2)) (tOp sMod (tOp sSub (tVar 3) (tOp (sIx K) (tOp (sIx K) (tVar 0) (tC _)) (tVar 2))) (tOp (sIx K) (tVar 0) (tC _))))) (by rfl) sc_inverse_tables.nd (pi_range1 (by rfl) T.b_range (pa_cons (pe_ix ix_s (pv 0) pe_int (fun _ _ => rfl)) pa_nil)) (blkOk_by (own := [("_law_digit", 3)]) (N := N_inverse_tables) (sc := defScope s_inverse_tables) (by decide +kernel)) (fun _ _ _ _ _ => by exact (pg_name (i := 3) sc_inverse_tables.nd rfl (by first | exact Or.inl rfl | exact Or.inr rfl))) (fun _ _ _ _ _ => by exact pts_nil) (fun _ _ _ _ _ => by exact (pe_ix ix_s (pe_ix ix_s (pe_ix ix_s (pv 0) pe_int (fun _ _ => rfl)) (pv 2) (fun _ _ => rfl)) (pe_op op_sMod (pe_op op_sSub (pv 3) (pe_ix ix_s (pe_ix ix_s (pv 0) pe_int (fun _ _ => rfl)) (pv 2) (fun _ _ => rfl))) (pe_ix ix_s (pv 0) pe_int (fun _ _ => rfl))) (fun _ _ => rfl)))) pa_nil)) pa_nil)))))
  (pss_one (ps_ret (pe_tup (pa_cons (pe_ix ix_s (pv 0) pe_int (fun _ _ => rfl)) (pa_cons (pe_lc (own := [("_law_add", 4)]) (g := (gName 4)) (tt := tYes) (te := (tOp sMod (tOp sSub (tC _) (tVar 4)) (tOp (sIx K) (tVar 0) (tC _)))) (by rfl) sc_inverse_tables.nd (pi_s (pe_ix ix_s (pv 0) pe_int (fun _ _ => rfl))) (blkOk_by (own := [("_law_add", 4)]) (N := N_inverse_tables) (sc := defScope s_inverse_tables) (by decide +kernel)) (fun _ _ _ _ _ => by exact (pg_name (i := 4) sc_inverse_tables.nd rfl (by first | exact Or.inl rfl | exact Or.inr rfl))) (fun _ _ _ _ _ => by exact pts_nil) (fun _ _ _ _ _ => by exact (pe_op op_sMod (pe_op op_sSub pe_int (pv 4)) (pe_ix ix_s (pv 0) pe_int (fun _ _ => rfl))))) (pa_cons (pv 1) (pa_cons (pe_ix ix_s (pv 0) pe_int (fun _ _ => rfl)) pa_nil)))))))))), ?_⟩
    refine go [some (.ref t), none, none, none, none] rfl ?_
    try dsimp only [L2.cxOf]
    walk_at "sx"
    refine z_lst fun L nL => ?_
    walk_at "sx"
    have e0 := Ex.new (o := .lst []) nL
    refine z_ix (sq_t (.inl (rd_ex e0 h1))) rfl ?_
    walk_at "sx"
    refine z_len (sq_l (.inl (rd_ex e0 h3))) ?_
    walk_at "sx"
    rw [List.length_map]
    refine z_r1 (by omega) (by omega) ?_
    have nLr := lv.ne nL
    refine for_it (n := M.ad.length) (by exact walk_range) (fun i σ H' => Ex H H' ∧ (∃ zs, H' L = some (.lst zs) ∧ zs.length = i ∧ DqAll r H' zs (((List.range i).map M.invRow).map dT)) ∧ ∃ u, σ = [some (.ref t), some (.ref L), u, none, none]) ⟨e0, ⟨[], upd_same, rfl, .nil⟩, _, rfl⟩ (fun _ _ _ _ _ => trivial) ?_ ?_
    · rintro i y σ H5 H6 hi ⟨e5, ⟨zs, hz, hzl, hzd⟩, u, rfl⟩ ⟨rfl, rfl⟩
      have hit : i < M.tg.length := by rw [hM.tl]; exact hi
      have hts := hM.tg _ (List.mem_of_getElem? (getD_at (d := []) hit))
      walk_at "sx"
      refine ⟨ty_list hz, ?_⟩
      walk_at "sx"
      refine z_ix (sq_t (.inl (rd_ex e5 h1))) rfl ?_
      walk_at "sx"
      refine z_r1 (by omega) (by omega) ?_
      intro D hD
      refine lc_it (n := M.p) (by exact walk_range) (LcP D fun j ys H' => Ex H6 H' ∧ ys = ((List.range j).map fun d => M.nxt i (M.back i d)).map vN) (lc0 ⟨Ex.new hD, rfl⟩) (fun _ _ _ _ => trivial) ?_ ?_
      · rintro j x H7 H8 hj ⟨ys, hy1, hyl, e7, ey⟩ ⟨rfl, rfl⟩
        have e57 := e5.trans e7
        walk_at "sx"
        refine ⟨rfl, ?_⟩
        walk_at "sx"
        refine z_ix (sq_t (.inl (rd_ex e57 h1))) rfl ?_
        walk_at "sx"
        obtain ⟨v1, hv1, hd1⟩ := h7.at (i := i) (d := dT (M.tg.getD i [])) (by rw [List.getElem?_map, getD_at hit]; rfl)
        obtain ⟨b1, rfl, hb1, _, _⟩ := hd1.row
        have hzi : (0 : Int) + (i : Nat) = (i : Nat) := by omega
        rw [hzi]
        refine z_ix (sq_l (.inl (rd_ex e57 h5))) (atI_nat hv1) ?_
        walk_at "sx"
        refine z_ix (sq_t (.inl (rd_ex e57 h1))) rfl ?_
        walk_at "sx"
        refine z_ix (v := vN (M.ad.getD i 0)) (sq_l (.inl (rd_ex e57 h3))) (atI_nat (by rw [List.getElem?_map, getD_at hi]; rfl)) ?_
        walk_at "sx"
        refine z_ix (sq_t (.inl (rd_ex e57 h1))) rfl ?_
        refine z_mod (by omega) ?_
        have had : M.ad.getD i 0 < M.p := hM.ad _ (getD_mem hi)
        have hbk : (0 + (j : Int) - (M.ad.getD i 0 : Nat)) % (M.p : Int) = (M.back i j : Nat) := by
          unfold Mac.back
          rw [Int.natCast_emod, Int.natCast_add, Int.natCast_sub (Nat.le_of_lt had)]
          rw [show (0 : Int) + j - (M.ad.getD i 0 : Nat) = (j + ((M.p : Int) - (M.ad.getD i 0 : Nat))) - M.p by omega, Int.sub_emod_right]
        rw [hbk]
        have hbk1 : M.back i j < (M.tg.getD i []).length := by rw [hts.1]; exact hM.back i j
        refine z_ix (v := vN (M.nxt i (M.back i j))) (sq_t (.inl (rd_ex e57 hb1))) (atI_nat (by rw [List.getElem?_map, getD_at hbk1]; rfl)) ?_
        refine lc_put hy1 hyl hj (by omega) ⟨Ex.mut e7 hD, ?_⟩
        rw [ey, List.range_succ, List.map_append, List.map_append]
        rfl
      · rintro H7 ⟨ys, hy1, hyl, e7, ey⟩
        rw [ey] at hy1
        walk_at "sx"
        refine z_tupL (.inl (rl_of hy1)) fun q nq => ?_
        walk_at "sx"
        have e8 := e7.trans (Ex.new (o := .tup ((M.invRow i).map vN)) nq)
        refine z_append (e8 _ _ hz) (by omega) ?_
        walk_at "sx"
        refine ⟨Ex.mut (e5.trans e8) nL, ⟨_, upd_same, by rw [List.length_append, hzl]; rfl, ?_⟩, _, rfl⟩
        have h9 : DqAll r (upd H7 q (.tup ((M.invRow i).map vN))) (zs ++ [.ref q]) (((List.range (i + 1)).map M.invRow).map dT) := by
          rw [List.range_succ, List.map_append, List.map_append]
          refine (hzd.ex e8).snoc (Dq.rowI (rt_of upd_same) ((lv.ex (e5.trans e7)).ne nq) ?_)
          simp only [Mac.invRow, List.length_map, List.length_range]
          omega
        exact rows_upd h9 (e8 _ _ hz)
    · rintro σ H5 ⟨e5, ⟨zs, hz, hzl, hzd⟩, u, rfl⟩
      walk_at "sx"
      refine z_ix (sq_t (.inl (rd_ex e5 h1))) rfl ?_
      walk_at "sx"
      refine z_ix (sq_t (.inl (rd_ex e5 h1))) rfl ?_
      walk_at "sx"
      have h35 := rd_ex e5 h3
      refine z_sL (.inl h35) ?_
      intro D hD
      refine lc_it (n := M.ad.length) (by have := walk_list (K := K) (a := a) (xs := M.ad.map vN); rwa [List.length_map] at this) (LcP D fun j ys H' => Ex H5 H' ∧ ys = ((M.ad.take j).map fun a => (M.p - a) % M.p).map vN) (lc0 ⟨Ex.new hD, rfl⟩) (fun _ _ _ ⟨_, _, _, e, _⟩ => sq_ex (K := K) e (.inl h35)) ?_ ?_
      · rintro j x H7 H8 hj ⟨ys, hy1, hyl, e7, ey⟩ ⟨rfl, hx⟩
        obtain ⟨hj', c, hc, rfl⟩ := map_at hx
        walk_at "sx"
        refine ⟨rfl, ?_⟩
        walk_at "sx"
        refine z_ix (sq_t (.inl (rd_ex (e5.trans e7) h1))) rfl ?_
        refine z_mod (by omega) ?_
        have hcp : c < M.p := hM.ad _ (List.mem_of_getElem? hc)
        have hcc : (0 - (c : Int)) % (M.p : Int) = ((M.p - c) % M.p : Nat) := by
          rw [Int.natCast_emod, Int.natCast_sub (Nat.le_of_lt hcp), show (0 : Int) - c = ((M.p : Int) - c) - M.p by omega, Int.sub_emod_right]
        rw [hcc]
        refine lc_put hy1 hyl hj (by omega) ⟨Ex.mut e7 hD, ?_⟩
        rw [ey, List.take_add_one, hc, List.map_append, List.map_append]
        rfl
      · rintro H7 ⟨ys, hy1, hyl, e7, ey⟩
        rw [List.take_length] at ey
        rw [ey] at hy1
        walk_at "sx"
        refine z_ix (sq_t (.inl (rd_ex (e5.trans e7) h1))) rfl ?_
        walk_at "sx"
        refine z_tup fun p np => ?_
        have e8 := e7.trans (Ex.new (o := .tup [vN M.p, .ref D, .ref L, vN M.st]) np)
        refine k _ _ (e5.trans e8) (Dq.tabI (M := invM M) (rt_of upd_same) ((lv.ex (e5.trans e7)).ne np) (rl_of (Ex.new np _ _ hy1)) ((lv.ex e5).ne hD) (rl_of (e8 _ _ hz)) nLr (hzd.ex e8) (by omega) (by simp [invM]; omega))
theorem use_inv_tab {H : Hp} {Q : VK} {E : XK} {r : Addr} {M : Mac} {v : V} (hv : Dq r H v M.tab) (hM : M.Ok) (lv : Liv H r) (k : ∀ w H', Ex H H' → Dq r H' w (invM M).tab → Q w H') : spInvTab [v] H Q E := ⟨r, M, v, rfl, hv, hM, lv, k⟩
theorem eqv_tab {M N : Mac} : PyData.eqv M.tab N.tab = decide (M = N) := by
  have a1 : PyData.eqv (dL M.ad) (dL N.ad) = decide (M.ad = N.ad) := fai_list fai_nat _ _
  have a2 : PyData.eqv (.list (M.tg.map dT)) (.list (N.tg.map dT)) = decide (M.tg = N.tg) := fai_list (fai_tup fai_nat) _ _
  have a3 : PyData.eqv (dN M.p) (dN N.p) = decide (M.p = N.p) := fai_nat _ _
  have a4 : PyData.eqv (dN M.st) (dN N.st) = decide (M.st = N.st) := fai_nat _ _
  show PyData.eqv (.tuple [dN M.p, dL M.ad, .list (M.tg.map dT), dN M.st]) (.tuple [dN N.p, dL N.ad, .list (N.tg.map dT), dN N.st]) = _
  rw [PyData.eqv, PyData.eqvAll, a3, PyData.eqvAll, a1, PyData.eqvAll, a2, PyData.eqvAll, a4, PyData.eqvAll]
  cases M; cases N
  simp [Bool.and_assoc]
theorem Shp.four {n : Nat} {a b c d : PyData} (h1 : Shp n a) (h2 : Shp n b) (h3 : Shp n c) (h4 : Shp n d) : ∀ e ∈ [a, b, c, d], Shp n e := fun e he => by
  simp only [List.mem_cons, List.not_mem_nil, or_false] at he
  rcases he with rfl | rfl | rfl | rfl <;> assumption
theorem Shp.mono {n m : Nat} {d : PyData} (h : Shp n d) (hm : n ≤ m) : Shp m d := ⟨h.1, Nat.le_trans h.2 hm⟩
theorem shp_tab (M : Mac) : Shp 3 M.tab := .tuple (.four (.int _) ((shp_dL _).mono (by decide)) (shp_rows _) (.int _))
theorem z_neTab {H : Hp} {Q : VK} {r q : Addr} {x y : V} {M N : Mac} (h1 : Dq r H x M.tab) (h2 : Dq q H y N.tab) (h : Q (.bl (!decide (M = N))) H) : sNe K x y H Q := by
  obtain ⟨_, _, _, _, rfl, _⟩ := h1.tab
  obtain ⟨_, _, _, _, rfl, _⟩ := h2.tab
  refine z_neD (Dq.dp _ _ h1) (Dq.dp _ _ h2) (shp_tab M) (shp_tab N) ?_
  rw [eqv_tab]
  exact h
theorem odo_inv_write : (invM (odoM 2)).out 0 [0, 0, 1] = [1, 1, 0] := by decide
def spLaw (K : PySem.W.Frag) : Sp := fun vs H Q _ => ∃ (a : Addr) (ns : List Int), vs = [.ref a] ∧ SqL K H a (ns.map V.int) ∧ ∀ H', Q (.bl true) H'
theorem ok_law (T : Txt K mg) : Ok P w K mg base 8 T.law (spLaw K) := by
  refine ok_of T.law sc_law (fun vs H Q E h => ?_) (fun cdv A outer s H vs Q E hr h => ?_)
  · obtain ⟨a, ns, rfl, _⟩ := h
    rfl
  · obtain ⟨a, ns, rfl, hS, k⟩ := h
    have ok_same := fun (T : Txt K mg) => ok_same (P := P) (w := w) (base := base) T 2
    refine ⟨_, ((pss_cons (ps_set (i := 1) sc_law.nd rfl (by first | exact Or.inl rfl | exact Or.inr rfl) (pcall T.source (ok_source T) (hr.mono (by omega)) passE (pa_cons (pv 0) pa_nil)))
  (pss_cons (ps_for ownE rfl (pi_range1 (by rfl) T.b_range (pa_cons pe_int pa_nil)) (pg_name (i := 2) sc_law.nd rfl (by first | exact Or.inl rfl | exact Or.inr rfl))
  (pss_cons (ps_set (i := 3) sc_law.nd rfl (by first | exact Or.inl rfl | exact Or.inr rfl) (pcall T.tables (ok_tables T) (hr.mono (by omega)) passE (pa_cons (pv 1) (pa_cons (pcall T.modulus (ok_modulus T) (hr.mono (by omega)) passE (pa_cons (pv 1) pa_nil)) (pa_cons pe_int pa_nil)))))
  (pss_cons (ps_par (i := 4) (j := 5) (by rfl) sc_law.nd rfl rfl (by decide) rfl rfl (pa_cons (pcall T.machine (ok_machine T) (hr.mono (by omega)) passE (pa_cons (pv 3) pa_nil)) (pa_cons (pcall T.small_row (ok_small_row T) (hr.mono (by omega)) passE (pa_cons (pv 1) (pa_cons (pe_ix ix_s (pv 3) pe_int (fun _ _ => rfl)) pa_nil))) pa_nil)) (by rfl))
  (pss_cons (ps_set (i := 6) sc_law.nd rfl (by first | exact Or.inl rfl | exact Or.inr rfl) (pcall T.invert (ok_invert T) (hr.mono (by omega)) passE (pa_cons (pv 4) pa_nil)))
  (pss_cons (ps_if (PW.pt (pw_or (pt_cmpR (op_sNe hr.units) (pcall T.tables_of (ok_tables_of T) (hr.mono (by omega)) passE (pa_cons (pv 6) pa_nil)) (pcall T.inverse_tables (ok_inverse_tables T) (hr.mono (by omega)) passE (pa_cons (pv 3) pa_nil)) (nomark _)) (pw_or1 (pt_cmpR (op_sNe hr.units) (pcall T.tables_of (ok_tables_of T) (hr.mono (by omega)) passE (pa_cons (pv 4) pa_nil)) (pv 3) (nomark _)))))
  (pss_one (ps_ret pe_bl))
  pss_nil)
  (pss_cons (ps_if (pt_not (pt_val (pcall T.same (ok_same T) (hr.mono (by omega)) passE (pa_cons (pe_lst (pa_cons (pmeth T.m_Machine_write T.k_Machine.cl (ok_Machine_write T) (hr.mono (by omega)) passE (pv 6) (pa_cons (pmeth T.m_Machine_write T.k_Machine.cl (ok_Machine_write T) (hr.mono (by omega)) passE (pv 4) (pa_cons (pv 5) pa_nil)) pa_nil)) (pa_cons (pmeth T.m_Machine_write T.k_Machine.cl (ok_Machine_write T) (hr.mono (by omega)) passE (pv 4) (pa_cons (pmeth T.m_Machine_write T.k_Machine.cl (ok_Machine_write T) (hr.mono (by omega)) passE (pv 6) (pa_cons (pv 5) pa_nil)) pa_nil)) pa_nil))) (pa_cons (pe_lst (pa_cons (pv 5) (pa_cons (pv 5) pa_nil))) pa_nil)))))
  (pss_one (ps_ret pe_bl))
  pss_nil)
  (pss_cons (ps_set (i := 7) sc_law.nd rfl (by first | exact Or.inl rfl | exact Or.inr rfl) (pcall T.draw (ok_draw T) (hr.mono (by omega)) passE (pa_cons (pv 1) (pa_cons (pe_callB call_sLen (by rfl) T.b_len (by decide +kernel) (pa_cons (pe_ix ix_s (pv 3) pe_int (fun _ _ => rfl)) pa_nil)) pa_nil))))
  (pss_one (ps_if (PW.pt (pw_or (pt_cmpR (op_ownNe T.m_Machine_eq T.q_Machine (ok_Machine_eq T) (hr.mono (by omega)) passE) (pcall T.invert (ok_invert T) (hr.mono (by omega)) passE (pa_cons (pmeth T.m_Machine_from_state T.k_Machine.cl (ok_Machine_from_state T) (hr.mono (by omega)) passE (pv 4) (pa_cons (pv 7) pa_nil)) pa_nil)) (pmeth T.m_Machine_from_state T.k_Machine.cl (ok_Machine_from_state T) (hr.mono (by omega)) passE (pv 6) (pa_cons (pv 7) pa_nil)) (nomark _)) (pw_or1 (pt_cmpR (op_ownNe T.m_Machine_eq T.q_Machine (ok_Machine_eq T) (hr.mono (by omega)) passE) (pcall T.invert (ok_invert T) (hr.mono (by omega)) passE (pa_cons (pv 6) pa_nil)) (pv 4) (nomark _)))))
  (pss_one (ps_ret pe_bl))
  pss_nil)))))))))
  (pss_one (ps_ret (pe_cmpR (op_sEq hr.units) (pmeth T.m_Machine_write T.k_Machine.cl (ok_Machine_write T) (hr.mono (by omega)) passE (pcall T.invert (ok_invert T) (hr.mono (by omega)) passE (pa_cons (pcallD0 T.odometer (ok_odometer T) (hr.mono (by omega)) passE) pa_nil)) (pa_cons (pe_tup (pa_cons pe_int (pa_cons pe_int (pa_cons pe_int pa_nil)))) pa_nil)) (pe_tup (pa_cons pe_int (pa_cons pe_int (pa_cons pe_int pa_nil)))) (nomark _))))))), ?_⟩
    refine go [some (.ref a), none, none, none, none, none, none, none] rfl ?_
    try dsimp only [L2.cxOf]
    walk_at "sx"
    refine ⟨a, ns, rfl, hS, fun H1 r l e1 nr nl R1 => ?_⟩
    walk_at "sx"
    refine z_r1 (by decide) (by decide) ?_
    refine for_it walk_range (fun i σ H' => Rng H' r l ∧ ∃ t x u v y z, σ = [some (.ref a), some (.ref r), t, x, u, v, y, z]) ⟨R1, _, _, _, _, _, _, rfl⟩ (fun _ _ _ _ _ => trivial) ?_ ?_
    · rintro i y σ H2 _ hi ⟨R2, t, x, u, v, y, z, rfl⟩ ⟨rfl, rfl⟩
      walk_at "sx"
      refine use_modulus R2 fun p H3 hp k3 R3 => ?_
      walk_at "sx"
      refine use_tables (m := 6) R3 hp fun M vM H4 hM hMp hMl k4 R4 dM => ?_
      have hp5 := hp.pos
      walk_at "sx"
      refine use_machine dM hM R4.liv fun x H5 e5 hx5 A5 => ?_
      have R5 := R4.ex e5
      have d5 := dM.ex e5
      walk_at "sx"
      obtain ⟨tm, ta, tb, rs, rfl, h1, h2, h3, h4, h5, h6, h7, h8, h9⟩ := d5.tab
      refine z_ix (sq_t (.inl h1)) rfl ?_
      walk_at "sx"
      refine use_small_row (p := M.p) R5 fun ds b H6 hds hdl k6 R6 nb hb0 hb => ?_
      have A6 := A5.kp k6
      have d6 := Dq.kp k6 _ _ d5
      walk_at "sx"
      refine ⟨r, x, M, rfl, A6, hM, R6.liv, fun bk H7 e7 hbk A7 => ?_⟩
      walk_at "sx"
      have R7 := R6.ex e7
      have hI := invM_ok hM
      refine use_tables_of A7 hI R7.liv fun w1 H8 e8 dw1 => ?_
      walk_at "sx"
      refine use_inv_tab (d6.ex (e7.trans e8)) hM (R7.ex e8).liv fun w2 H9 e9 dw2 => ?_
      have e69 := e7.trans (e8.trans e9)
      have R9 := R6.ex e69
      refine z_neTab (dw1.ex e9) dw2 ?_
      rw [decide_eq_true rfl]
      walk_at "sx"
      refine use_tables_of (A6.ex e69) hM R9.liv fun w3 H10 e10 dw3 => ?_
      have e610 := e69.trans e10
      walk_at "sx"
      refine z_neTab dw3 (d6.ex e610) ?_
      rw [decide_eq_true rfl]
      walk_at "sx"
      have R10 := R6.ex e610
      have b10 : RT (H10) b (ds.map vN) := rt_of (e610 _ _ hb)
      refine z_methM (A7.ex (e8.trans (e9.trans e10))) ?_
      walk_at "sx"
      refine z_methM (A6.ex e610) ?_
      walk_at "sx"
      refine use_write (A6.ex e610) hM b10 hds hdl fun o1 H11 e11 ho1 hw1 => ?_
      walk_at "sx"
      have e711 := (e8.trans (e9.trans e10)).trans e11
      refine use_write (A7.ex e711) hI (rt_of hw1) (hM.out ds _) (by rw [M.out_len]; exact hdl) fun o2 H12 e12 ho2 hw2 => ?_
      rw [show (invM M).st = M.st from rfl, invM_out hM ds _ hM.st hds] at hw2
      walk_at "sx"
      have e712 := e711.trans e12
      have e612 := e610.trans (e11.trans e12)
      refine z_methM (A6.ex e612) ?_
      walk_at "sx"
      refine z_methM (A7.ex e712) ?_
      walk_at "sx"
      refine use_write (A7.ex e712) hI (rd_ex (e11.trans e12) b10) hds hdl fun o3 H13 e13 ho3 hw3 => ?_
      walk_at "sx"
      have e613 := e612.trans e13
      refine use_write (A6.ex e613) hM (rt_of hw3) (hI.out ds _) (by rw [Mac.out_len]; exact hdl) fun o4 H14 e14 ho4 hw4 => ?_
      rw [show (invM M).st = M.st from rfl, out_inv hM hds] at hw4
      walk_at "sx"
      refine z_lst fun q1 nq1 => ?_
      walk_at "sx"
      refine z_lst fun q2 nq2 => ?_
      walk_at "sx"
      have e614 := e613.trans e14
      have R14 := R6.ex e614
      have f1 := Ex.new (o := .lst [.ref o2, .ref o4]) nq1
      have f2 := f1.trans (Ex.new (o := .lst [.ref b, .ref b]) nq2)
      have e616 := e614.trans f2
      have hw2' := (e13.trans (e14.trans f2)) _ _ hw2
      have hw4' := f2 _ _ hw4
      have hb' := e616 _ _ hb
      refine use_sameD (n := 2) (d := .list [dT ds, dT ds]) (.lst (rl_of (Ex.new nq2 _ _ upd_same)) (R14.ne nq1) (by simp) (.cons (Dq.rowI (rt_of hw2') ((R6.ex (e610.trans e11)).ne ho2) (by omega)) (.cons (Dq.rowI (rt_of hw4') ((R6.ex e613).ne ho4) (by omega)) .nil))) (.lst (rl_of upd_same) ((R14.ex f1).ne nq2) (by simp) (.cons (Dq.rowI (rt_of hb') nb (by omega)) (.cons (Dq.rowI (rt_of hb') nb (by omega)) .nil))) (.list (.two (shp_dT _) (shp_dT _))) fun H17 e17 => ?_
      walk_at "sx"
      have e617 := e616.trans e17
      have R17 := R6.ex e617
      have d17 := d6.ex e617
      obtain ⟨_, _, _, _, ez, g1, g2, g3, g4, g5, g6, g7, g8, g9⟩ := d17.tab
      cases ez
      refine z_ix (sq_t (.inl g1)) rfl ?_
      walk_at "sx"
      refine z_len (sq_l (.inl g3)) ?_
      walk_at "sx"
      rw [List.length_map]
      have hn40 := hM.n40
      have hn1 := hM.n1
      refine use_drawN (k := M.ad.length) R17 fun s H18 hs k18 R18 => ?_
      walk_at "sx"
      have A18 := (A6.ex e617).kp k18
      have B18 := (A7.ex (e712.trans (e13.trans (e14.trans (f2.trans e17))))).kp k18
      refine z_methM A18 ?_
      walk_at "sx"
      refine use_from A18 hM R18.liv hs fun x1 H19 e19 hx1 A19 => ?_
      walk_at "sx"
      refine use_invert A19 (hM.from hs) (R18.ex e19).liv fun x2 H20 e20 hx2 A20 => ?_
      walk_at "sx"
      have B20 := B18.ex (e19.trans e20)
      have R20 := R18.ex (e19.trans e20)
      refine z_methM B20 ?_
      walk_at "sx"
      refine use_from B20 hI R20.liv (by simpa [invM] using hs) fun x3 H21 e21 hx3 A21 => ?_
      refine z_ownM (A20.ex e21) A21 fun H22 e22 => ?_
      rw [invM_from, decide_eq_true rfl]
      walk_at "sx"
      have R22 := R20.ex (e21.trans e22)
      have B22 := B20.ex (e21.trans e22)
      refine use_invert B22 hI R22.liv fun x4 H23 e23 hx4 A23 => ?_
      walk_at "sx"
      rw [invM_invM hM] at A23
      refine z_ownM A23 (A18.ex (e19.trans (e20.trans (e21.trans (e22.trans e23))))) fun H24 e24 => ?_
      rw [decide_eq_true rfl]
      walk_at "sx"
      exact ⟨R22.ex (e23.trans e24), _, _, _, _, _, _, rfl⟩
    · rintro σ H2 ⟨R2, t, x, u, v, y, z, rfl⟩
      walk_at "sx"
      refine ⟨r, 2, rfl, R2.liv, fun _ n hn x1 H3 e3 hx1 A3 => ?_, fun h => by cases h⟩
      obtain rfl : n = 2 := by omega
      walk_at "sx"
      have hO := odoM_ok (p := 2) (.inl rfl)
      refine use_invert A3 hO (R2.ex e3).liv fun x2 H4 e4 hx2 A4 => ?_
      walk_at "sx"
      refine z_methM A4 ?_
      walk_at "sx"
      refine z_tup fun q1 n1 => ?_
      walk_at "sx"
      have f1 := Ex.new (o := .tup [.int 0, .int 0, .int 1]) n1
      refine use_write (ds := [0, 0, 1]) (A4.ex f1) (invM_ok hO) (rt_of upd_same) (by decide) (by decide) fun o H5 e5 ho hw => ?_
      rw [show (invM (odoM 2)).st = 0 from rfl, odo_inv_write] at hw
      walk_at "sx"
      refine z_tup fun q2 n2 => ?_
      walk_at "sx"
      refine z_eqD (d := dT [1, 1, 0]) (e := dT [1, 1, 0]) (.tup (.inl (rt_of (Ex.new n2 _ _ hw))) (.cons (.int _) (.cons (.int _) (.cons (.int _) .nil)))) (.tup (.inl (rt_of upd_same)) (.cons (.int _) (.cons (.int _) (.cons (.int _) .nil)))) (shp_dT _) (shp_dT _) ?_
      rw [fai_tup fai_nat, decide_eq_true rfl]
      exact k _
end
end R

/-! # E: the end -/
namespace R
open PySem PySem.Spec PyProof.Rows L2
theorem df_ex {K : PySem.W.Frag} {h : Heap} {mg : Str → Option Value} (X : K.In h) (G : h.Ns mainGlobals mg) {x : Str} {st : Stmt} {ps : List Str} {f : Addr} {od an : Option Addr} {sl : Array (Option Value)} {oc kV dc pm cd ct : Value}
    (a : PySem.W.nsIn K mainGlobals x = some (some (.ref f))) (l : K.lookup f = some ⟨oc, od, .func (PySem.W.fnOf x x (defArgs st) (defBody st) (defScope st) .none kV dc pm an cd ct), sl⟩) (c : PySem.W.codeIn K cd x = true) (k : PySem.W.keepIn K (.ref f) = true)
    (hb : ∀ (kV doc pm : Value) (an : Option Addr) (cdv ct : Value) (us : List Value), us.length = ps.length → bindArgs (PySem.W.fnOf x x (defArgs st) (defBody st) (defScope st) .none kV doc pm an cdv ct) ⟨us, []⟩ = pure (ps.zip us)) : Nonempty (DF K mg x st ps) :=
  ⟨⟨f, _, fun_mk l c k, PySem.W.mg_of X G a, (fun_mk l c k).binds hb⟩⟩
theorem gv_ex {K : PySem.W.Frag} {h : Heap} {mg : Str → Option Value} (X : K.In h) (G : h.Ns mainGlobals mg) {x : Str} {v : V} {u : Value} (a : PySem.W.nsIn K mainGlobals x = some (some u)) (r : RelV v u) : GV mg x v := ⟨u, PySem.W.mg_of X G a, r⟩
theorem ex_ex {K : PySem.W.Frag} {h : Heap} {mg : Str → Option Value} (X : K.In h) (G : h.Ns mainGlobals mg) {x qual : Str} {st : Stmt} {ps : List Str} {C f : Addr} {oc : Value} {od an : Option Addr} {sl : Array (Option Value)} {kV dc pm cd ct : Value}
    {nm q : Str} {N : Addr} {bs bm : List Value} {sn : List Str} {sub : List Value} {ab : Bool} {col : Option Bool} {dd : Option Addr} {k0 k1 k2 k3 k5 : Option Value}
    (a : PySem.W.nsIn K mainGlobals x = some (some (.ref C))) (lC : K.lookup C = some (excClassObj nm q C N bs bm true sn sub ab col dd k0 k1 k2 k3 k5 "ValueError.__new__")) (rv : PySem.HandSPX.refsVE bm = true)
    (sa : PySem.W.findIn K (.ref C) "__setattr__" = some (some (.builtin "object.__setattr__"))) (exC : PySem.W.subIn K (.ref C) (.type "BaseException") = some true) (tyC : PySem.W.typeIn K (.ref C) = some (.type "type")) (kC : PySem.W.keepIn K (.ref C) = true)
    (iC : PySem.W.findIn K (.ref C) "__init__" = some (some (.ref f))) (tI : PySem.W.typeIn K (.ref f) = some (.type "function"))
    (l : K.lookup f = some ⟨oc, od, .func (PySem.W.fnOf "__init__" qual (defArgs (inClass st 0)) (defBody (inClass st 0)) (defScope (inClass st 0)) .none kV dc pm an cd ct), sl⟩) (c : PySem.W.codeIn K cd qual = true) (k : PySem.W.keepIn K (.ref f) = true)
    (hb : ∀ (kV doc pm : Value) (an : Option Addr) (cdv ct : Value) (us : List Value), us.length = ps.length → bindArgs (PySem.W.fnOf "__init__" qual (defArgs (inClass st 0)) (defBody (inClass st 0)) (defScope (inClass st 0)) .none kV doc pm an cdv ct) ⟨us, []⟩ = pure (ps.zip us))
    (n0 : PySem.W.findIn K (.ref C) "tag" = some none) (n1 : PySem.W.findIn K (.ref C) "state" = some none) (n2 : PySem.W.findIn K (.ref C) "position" = some none) (n3 : PySem.W.findIn K (.ref C) "name" = some none) (n4 : PySem.W.findIn K (.ref C) "row" = some none) : Nonempty (EX K mg x qual st ps) :=
  ⟨⟨C, f, _, ⟨⟨nm, q, N, bs, bm, sn, sub, ab, col, dd, k0, k1, k2, k3, k5, lC, rv⟩, sa, exC, tyC, kC⟩, PySem.W.mg_of X G a, iC, tI, fun_mk l c k, (fun_mk l c k).binds hb, fun g hg => by
    unfold efs at hg
    simp only [List.mem_cons, List.not_mem_nil, or_false] at hg
    rcases hg with rfl | rfl | rfl | rfl | rfl <;> assumption⟩⟩
theorem tup_ex {K : PySem.W.Frag} {h : Heap} {mg : Str → Option Value} (X : K.In h) (G : h.Ns mainGlobals mg) {x : Str} {a : Addr} {dd : Option Addr} {its : Array Value} {n : Nat} {sl : Array (Option Value)} {xs : List V}
    (e : PySem.W.nsIn K mainGlobals x = some (some (.ref a))) (l : K.lookup a = some ⟨.type "tuple", dd, .seq its n, sl⟩) (r : Vals xs its.toList) (hz : its.size ≤ 1000) : ∃ a, GV mg x (.ref a) ∧ ∀ H, SqT K H a xs :=
  ⟨a, ⟨.ref a, PySem.W.mg_of X G e, rfl⟩, fun _ => .inr ⟨_, its, n, l, rfl, rfl, Nat.le_trans hz (by decide), r⟩⟩
/-- a class; its address stays told -/
theorem ck_in {K : PySem.W.Frag} {h : Heap} {mg : Str → Option Value} {P : Prop} (X : K.In h) (G : h.Ns mainGlobals mg) {x : Str} {fl : List Str} {C : Addr} (a : PySem.W.nsIn K mainGlobals x = some (some (.ref C)))
    (pg : PySem.W.plainGet K C Str.empty = true) (hd : PySem.W.hasDictIn K C = true) (po : PySem.W.plainOver K C = true) (sa : PySem.W.findIn K (.ref C) "__setattr__" = some (some (.builtin "object.__setattr__")))
    (no : ∀ f ∈ fl, NoAttr K C f) (k : ∀ d : CK K mg x fl, d.C = C → P) : P := k ⟨C, ⟨pg, hd, po, sa⟩, PySem.W.mg_of X G a, no⟩ rfl
theorem mt_in {K : PySem.W.Frag} {h : Heap} {P : Prop} (X : K.In h) {C0 C f : Addr} {m qual : Str} {st : Stmt} {ps : List Str} {oc : Value} {od an : Option Addr} {sl : Array (Option Value)} {kV dc pm cd ct : Value} (hC : C0 = C)
    (a : PySem.W.findIn K (.ref C) m = some (some (.ref f))) (l : K.lookup f = some ⟨oc, od, .func (PySem.W.fnOf m qual (defArgs st) (defBody st) (defScope st) .none kV dc pm an cd ct), sl⟩) (c : PySem.W.codeIn K cd qual = true) (k : PySem.W.keepIn K (.ref f) = true) (fn : PySem.W.isFn K (.ref f) = true)
    (hb : ∀ (kV doc pm : Value) (an : Option Addr) (cdv ct : Value) (us : List Value), us.length = ps.length → bindArgs (PySem.W.fnOf m qual (defArgs st) (defBody st) (defScope st) .none kV doc pm an cdv ct) ⟨us, []⟩ = pure (ps.zip us)) (go : ∀ d : MT K C0 m qual st ps, d.f = f → P) : P := by
  subst hC
  exact go ⟨f, _, fun_mk l c k, ⟨a, fn, k⟩, (fun_mk l c k).binds hb⟩ rfl
theorem kbn1 {K : PySem.W.Frag} {x qual : Str} {st : Stmt} {f : Addr} {fd : FuncData} {ps : List Str} {s : Str} {v : V} (F : FunD K x qual (defArgs st) (defBody st) (defScope st) [] [(s, v)] f fd) (n : Nat)
    (hkb : ∀ (D : Addr) (doc pm : Value) (an : Option Addr) (cdv ct : Value) (us mv ws : List Value), us.length = n → mv.length = 0 → ws.length = 1 → bindArgs (PySem.W.fnOf x qual (defArgs st) (defBody st) (defScope st) .none (.ref D) doc pm an cdv ct) ⟨us, [s].zip ws⟩ = pure (ps.zip (us ++ ws))) :
    KBn K fd ps n [s] (fun us ws => us ++ ws) (fun vs zs => vs ++ zs) := by
  obtain ⟨_, h⟩ := F.kbinds0 n [s] [] (fun us _ ws => us ++ ws) (List.cons_ne_nil _ _) (fun _ h => absurd h List.not_mem_nil) (fun r1 _ r3 => r1.append r3) (fun D doc pm an cdv ct us mv ws h1 h2 h3 => hkb D doc pm an cdv ct us mv ws h1 h2 h3)
  exact h
theorem ik_in {K : PySem.W.Frag} {h : Heap} {P : Prop} (X : K.In h) {C0 C f D : Addr} {qual : Str} {st : Stmt} {ps : List Str} {n : Nat} {s : Str} {v : V} {u : Value} {oc : Value} {od an : Option Addr} {sl : Array (Option Value)} {dc pm cd ct : Value} (hC : C0 = C)
    (mk : PySem.W.makesIn K C = true) (a : PySem.W.findIn K (.ref C) "__init__" = some (some (.ref f))) (fn : PySem.W.isFn K (.ref f) = true) (kC : PySem.W.keepIn K (.ref C) = true)
    (l : K.lookup f = some ⟨oc, od, .func (PySem.W.fnOf "__init__" qual (defArgs st) (defBody st) (defScope st) .none (.ref D) dc pm an cd ct), sl⟩) (c : PySem.W.codeIn K cd qual = true) (k : PySem.W.keepIn K (.ref f) = true)
    (w : PySem.W.nsIn K D s = some (some u)) (r : RelV v u) (hn : n + 1 = ps.length)
    (hb : ∀ (D : Addr) (doc pm : Value) (an : Option Addr) (cdv ct : Value) (us ks : List Value), us.length = n → ks.length = 1 → KwChain D ([s].zip ks) (bindArgs (PySem.W.fnOf "__init__" qual (defArgs st) (defBody st) (defScope st) .none (.ref D) doc pm an cdv ct) ⟨us, []⟩) (ps.zip (us ++ ks)))
    (hkb : ∀ (D : Addr) (doc pm : Value) (an : Option Addr) (cdv ct : Value) (us mv ws : List Value), us.length = n → mv.length = 0 → ws.length = 1 → bindArgs (PySem.W.fnOf "__init__" qual (defArgs st) (defBody st) (defScope st) .none (.ref D) doc pm an cdv ct) ⟨us, [s].zip ws⟩ = pure (ps.zip (us ++ ws)))
    (go : ∀ d : IK K C0 qual st ps n [(s, v)], P) : P := by
  subst hC
  have F : FunD K "__init__" qual (defArgs st) (defBody st) (defScope st) [] [(s, v)] f _ := ⟨⟨oc, od, .none, .ref D, dc, pm, an, cd, ct, sl, rfl, l, c, .inl ⟨rfl, rfl⟩, .inr ⟨D, rfl, fun q hq => by rw [List.mem_singleton.mp hq]; exact ⟨u, w, r⟩⟩⟩, k⟩
  obtain ⟨ds, h1, h2⟩ := F.binds0 n (List.cons_ne_nil _ _) hn hb
  exact go ⟨f, _, F, ⟨mk, a, fn, kC⟩, ds, h1, h2, kbn1 F n hkb⟩
theorem dk_ex {K : PySem.W.Frag} {h : Heap} {mg : Str → Option Value} (X : K.In h) (G : h.Ns mainGlobals mg) {x : Str} {f D : Addr} {st : Stmt} {ps : List Str} {n : Nat} {s : Str} {v : V} {u : Value} {oc : Value} {od an : Option Addr} {sl : Array (Option Value)} {dc pm cd ct : Value}
    (a : PySem.W.nsIn K mainGlobals x = some (some (.ref f))) (l : K.lookup f = some ⟨oc, od, .func (PySem.W.fnOf x x (defArgs st) (defBody st) (defScope st) .none (.ref D) dc pm an cd ct), sl⟩) (c : PySem.W.codeIn K cd x = true) (k : PySem.W.keepIn K (.ref f) = true)
    (w : PySem.W.nsIn K D s = some (some u)) (r : RelV v u) (hn : n + 1 = ps.length)
    (hb : ∀ (D : Addr) (doc pm : Value) (an : Option Addr) (cdv ct : Value) (us ks : List Value), us.length = n → ks.length = 1 → KwChain D ([s].zip ks) (bindArgs (PySem.W.fnOf x x (defArgs st) (defBody st) (defScope st) .none (.ref D) doc pm an cdv ct) ⟨us, []⟩) (ps.zip (us ++ ks)))
    (hkb : ∀ (D : Addr) (doc pm : Value) (an : Option Addr) (cdv ct : Value) (us mv ws : List Value), us.length = n → mv.length = 0 → ws.length = 1 → bindArgs (PySem.W.fnOf x x (defArgs st) (defBody st) (defScope st) .none (.ref D) doc pm an cdv ct) ⟨us, [s].zip ws⟩ = pure (ps.zip (us ++ ws))) :
    Nonempty (DK K mg x st ps n [(s, v)]) := by
  have F : FunD K x x (defArgs st) (defBody st) (defScope st) [] [(s, v)] f _ := ⟨⟨oc, od, .none, .ref D, dc, pm, an, cd, ct, sl, rfl, l, c, .inl ⟨rfl, rfl⟩, .inr ⟨D, rfl, fun q hq => by rw [List.mem_singleton.mp hq]; exact ⟨u, w, r⟩⟩⟩, k⟩
  obtain ⟨ds, h1, h2⟩ := F.binds0 n (List.cons_ne_nil _ _) hn hb
  exact ⟨⟨f, _, F, PySem.W.mg_of X G a, ds, h1, h2, kbn1 F n hkb⟩⟩
theorem kit_own {K : PySem.W.Frag} {C : Addr} {n : String} (ic : PySem.W.isClsIn K C = true) (ty : PySem.W.typeIn K (.ref C) = some (.type "type")) (s : PySem.W.subIn K (.type n) (.ref C) = some false) : PySem.W.kitOne K (.type n) (.ref C) = some false := by
  unfold PySem.W.kitOne
  rw [if_neg (by simp)]
  unfold PySem.W.kitCls
  have e : (PySem.W.clsIn K C).isSome = true := ic
  simp only [e, ty, BEq.rfl, Bool.and_self, if_true]
  exact s
theorem eq_in {K : PySem.W.Frag} {h : Heap} {P : Prop} (X : K.In h) {C0 C f0 f : Addr} (hC : C0 = C) (hf : f0 = f) (eq : PySem.W.findIn K (.ref C) "__eq__" = some (some (.ref f))) (fn : PySem.W.isFn K (.ref f) = true) (ne : PySem.W.findIn K (.ref C) "__ne__" = some (some (.builtin "object.__ne__")))
    (pl : PySem.W.plainOver K C = true) (ca : PySem.W.findIn K (.ref C) "__class__" = some (some (.builtin "object.__class__"))) (cn : PySem.W.specialIn K (.builtin "object.__class__") "__get__" = some (some (.builtin "getset_descriptor.__get__"))) (ct : PySem.W.takesIn K (.builtin "object.__class__") = some true)
    (cm : PySem.W.mroIn K C (.type "object") = some true) (ic : PySem.W.isClsIn K C = true) (ty : PySem.W.typeIn K (.ref C) = some (.type "type")) (s1 : PySem.W.subIn K (.type "NoneType") (.ref C) = some false) (s2 : PySem.W.subIn K (.type "tuple") (.ref C) = some false) (s3 : PySem.W.subIn K (.type "str") (.ref C) = some false) (go : EQ K C0 f0 → P) : P := by
  subst hC hf
  have k1 := kit_own ic ty s1
  have k2 := kit_own ic ty s2
  have k3 := kit_own ic ty s3
  exact go ⟨eq, fn, ne, pl, ca, cn, ct, cm, fun n hn => by
    simp only [List.mem_cons, List.not_mem_nil, or_false] at hn
    rcases hn with rfl | rfl | rfl <;> assumption⟩
theorem walk {l : PySem.W.OpenLaw} {q : Program} {loose : List Str} {XP : (Str → Option Value) → Heap → Prop} {YP : World → Heap → Prop} {d : DefRec} {K : Params → PySem.W.Frag} {k : Nat} (hn : l.most = some 63) (hdf : d.params.defaults = []) (hr : Room k callerA)
    (hY : ∀ (w : World) (h : Heap), YP w h → (K w.params).In h)
    (F : ∀ (w : World) (mg : Str → Option Value) (fa : Addr) (h : Heap), (K w.params).In h → h.Ns mainGlobals mg → mg d.name = some (.ref fa) →
      ∃ T : Txt (K w.params) mg, mg d.name = some (.ref T.law.f) ∧ (∀ (s : Shared) (u : Value), BindsTo s T.law.fd ⟨[u], []⟩ [("_law_script", u)]) ∧ ∀ base : Heap, Ok l.prog w (K w.params) mg base k T.law (spLaw (K w.params))) :
    PySem.W.WalkO q loose XP YP l.row.toRowW d [] (fun f vs => PySem.call f vs) :=
  L2.walk_of (n := 63) (k := k) (x := "_law_script") (CX := fun w => L2.CX l.prog w) (sp := fun w => spLaw (K w.params)) hn (by decide) hdf hr hY
    (fun w mg fa h X G hfa => by
      obtain ⟨T, e, hb, hF⟩ := F w mg fa h X G hfa
      have e2 := e.symm.trans hfa
      have e3 : T.law.f = fa := by
        injection e2 with e2
        injection e2
      refine ⟨T.law.fd, hb, fun base _ _ => ?_⟩
      rw [← e3]
      exact hF base)
    (fun _ _ a ns _ _ hS => ⟨a, ns, rfl, hS, fun _ => rfl⟩) fun _ _ _ _ _ h => by
      obtain ⟨_, _, _, _, _, _, _, _, _, _, _, _, z⟩ := h
      exact z.elim
end R

open PySem PySem.W PyProof.Rows in
set_option maxRecDepth 100000 in
set_option maxHeartbeats 0 in
theorem PySem.Challenge.cw_rowring_k15_inverse_machines_holds : PySem.Challenge.rw_rowring_k15_inverse_machines.Holds := by
  w_on; o_law; k_head; (case hw => w_witness2)
  k_fill
  refine R.walk (l := PySem.Challenge.rw_rowring_k15_inverse_machines) (k := 8) rfl rfl ⟨rfl, by decide, by decide⟩ (fun w h Y => PySem.W.kIn_of Y) ?F
  case F =>
    intro w mg fa h KX G hmg
    have b_all : mg "all" = none := by
      refine' PySem.W.mg_none_of KX G ?ab_all
      (case ab_all => k_is)
    have b_bool : mg "bool" = none := by
      refine' PySem.W.mg_none_of KX G ?ab_bool
      (case ab_bool => k_is)
    have b_enumerate : mg "enumerate" = none := by
      refine' PySem.W.mg_none_of KX G ?ab_enumerate
      (case ab_enumerate => k_is)
    have b_int : mg "int" = none := by
      refine' PySem.W.mg_none_of KX G ?ab_int
      (case ab_int => k_is)
    have b_isinstance : mg "isinstance" = none := by
      refine' PySem.W.mg_none_of KX G ?ab_isinstance
      (case ab_isinstance => k_is)
    have b_len : mg "len" = none := by
      refine' PySem.W.mg_none_of KX G ?ab_len
      (case ab_len => k_is)
    have b_list : mg "list" = none := by
      refine' PySem.W.mg_none_of KX G ?ab_list
      (case ab_list => k_is)
    have b_range : mg "range" = none := by
      refine' PySem.W.mg_none_of KX G ?ab_range
      (case ab_range => k_is)
    have b_str : mg "str" = none := by
      refine' PySem.W.mg_none_of KX G ?ab_str
      (case ab_str => k_is)
    have b_tuple : mg "tuple" = none := by
      refine' PySem.W.mg_none_of KX G ?ab_tuple
      (case ab_tuple => k_is)
    have b_zip : mg "zip" = none := by
      refine' PySem.W.mg_none_of KX G ?ab_zip
      (case ab_zip => k_is)
    obtain ⟨a_MODULI, c_MODULI, t_MODULI⟩ : ∃ a, R.GV mg "MODULI" (.ref a) ∧ ∀ H, L2.SqT (_) H a [.int 2, .int 3, .int 5] := by
      refine' R.tup_ex KX G ?ta_MODULI ?tl_MODULI ?tr_MODULI ?tz_MODULI
      (case ta_MODULI => k_is); (case tl_MODULI => k_is)
      (case tr_MODULI => exact .cons ⟨_, rfl⟩ (.cons ⟨_, rfl⟩ (.cons ⟨_, rfl⟩ (.nil))))
      (case tz_MODULI => decide)
    have c_MAX_DIGITS : R.GV mg "MAX_DIGITS" (.int 80) := by
      refine' R.gv_ex KX G ?ac_MAX_DIGITS ?rc_MAX_DIGITS
      (case ac_MAX_DIGITS => k_is)
      (case rc_MAX_DIGITS => exact ⟨_, rfl⟩)
    have c_MAX_STATES : R.GV mg "MAX_STATES" (.int 40) := by
      refine' R.gv_ex KX G ?ac_MAX_STATES ?rc_MAX_STATES
      (case ac_MAX_STATES => k_is)
      (case rc_MAX_STATES => exact ⟨_, rfl⟩)
    obtain ⟨e_InvalidModulus⟩ : Nonempty (R.EX (_) mg "InvalidModulus" "InvalidModulus.__init__" (R.top 3) ["self"]) := by
      refine' R.ex_ex KX G ?a_InvalidModulus ?lC_InvalidModulus ?rv_InvalidModulus ?sa_InvalidModulus ?exC_InvalidModulus ?tyC_InvalidModulus ?kC_InvalidModulus ?iC_InvalidModulus ?tI_InvalidModulus ?l_InvalidModulus ?c_InvalidModulus ?k_InvalidModulus ?hb_InvalidModulus ?n0_InvalidModulus ?n1_InvalidModulus ?n2_InvalidModulus ?n3_InvalidModulus ?n4_InvalidModulus
      (case a_InvalidModulus => k_is)
      (case lC_InvalidModulus => k_is)
      (case rv_InvalidModulus => decide +kernel)
      (case sa_InvalidModulus => k_is)
      (case exC_InvalidModulus => k_is)
      (case tyC_InvalidModulus => k_is)
      (case kC_InvalidModulus => k_is)
      (case iC_InvalidModulus => k_is)
      (case tI_InvalidModulus => k_is)
      (case l_InvalidModulus => k_is)
      (case c_InvalidModulus => k_is)
      (case k_InvalidModulus => k_is)
      (case hb_InvalidModulus => exact fun _ _ _ _ _ _ us hl => match us, hl with | [_], _ => rfl)
      (case n0_InvalidModulus => k_is)
      (case n1_InvalidModulus => k_is)
      (case n2_InvalidModulus => k_is)
      (case n3_InvalidModulus => k_is)
      (case n4_InvalidModulus => k_is)
    obtain ⟨e_InvalidRow⟩ : Nonempty (R.EX (_) mg "InvalidRow" "InvalidRow.__init__" (R.top 4) ["self"]) := by
      refine' R.ex_ex KX G ?a_InvalidRow ?lC_InvalidRow ?rv_InvalidRow ?sa_InvalidRow ?exC_InvalidRow ?tyC_InvalidRow ?kC_InvalidRow ?iC_InvalidRow ?tI_InvalidRow ?l_InvalidRow ?c_InvalidRow ?k_InvalidRow ?hb_InvalidRow ?n0_InvalidRow ?n1_InvalidRow ?n2_InvalidRow ?n3_InvalidRow ?n4_InvalidRow
      (case a_InvalidRow => k_is)
      (case lC_InvalidRow => k_is)
      (case rv_InvalidRow => decide +kernel)
      (case sa_InvalidRow => k_is)
      (case exC_InvalidRow => k_is)
      (case tyC_InvalidRow => k_is)
      (case kC_InvalidRow => k_is)
      (case iC_InvalidRow => k_is)
      (case tI_InvalidRow => k_is)
      (case l_InvalidRow => k_is)
      (case c_InvalidRow => k_is)
      (case k_InvalidRow => k_is)
      (case hb_InvalidRow => exact fun _ _ _ _ _ _ us hl => match us, hl with | [_], _ => rfl)
      (case n0_InvalidRow => k_is)
      (case n1_InvalidRow => k_is)
      (case n2_InvalidRow => k_is)
      (case n3_InvalidRow => k_is)
      (case n4_InvalidRow => k_is)
    obtain ⟨e_InvalidMachine⟩ : Nonempty (R.EX (_) mg "InvalidMachine" "InvalidMachine.__init__" (R.top 5) ["self", "state"]) := by
      refine' R.ex_ex KX G ?a_InvalidMachine ?lC_InvalidMachine ?rv_InvalidMachine ?sa_InvalidMachine ?exC_InvalidMachine ?tyC_InvalidMachine ?kC_InvalidMachine ?iC_InvalidMachine ?tI_InvalidMachine ?l_InvalidMachine ?c_InvalidMachine ?k_InvalidMachine ?hb_InvalidMachine ?n0_InvalidMachine ?n1_InvalidMachine ?n2_InvalidMachine ?n3_InvalidMachine ?n4_InvalidMachine
      (case a_InvalidMachine => k_is)
      (case lC_InvalidMachine => k_is)
      (case rv_InvalidMachine => decide +kernel)
      (case sa_InvalidMachine => k_is)
      (case exC_InvalidMachine => k_is)
      (case tyC_InvalidMachine => k_is)
      (case kC_InvalidMachine => k_is)
      (case iC_InvalidMachine => k_is)
      (case tI_InvalidMachine => k_is)
      (case l_InvalidMachine => k_is)
      (case c_InvalidMachine => k_is)
      (case k_InvalidMachine => k_is)
      (case hb_InvalidMachine => exact fun _ _ _ _ _ _ us hl => match us, hl with | [_, _], _ => rfl)
      (case n0_InvalidMachine => k_is)
      (case n1_InvalidMachine => k_is)
      (case n2_InvalidMachine => k_is)
      (case n3_InvalidMachine => k_is)
      (case n4_InvalidMachine => k_is)
    obtain ⟨d__wall⟩ : Nonempty (R.DF _ mg "_wall" R.s__wall R.P__wall) := by
      refine' R.df_ex KX G ?a__wall ?l__wall ?c__wall ?k__wall ?b__wall
      (case a__wall => k_is); (case l__wall => k_is); (case c__wall => k_is); (case k__wall => k_is)
      (case b__wall => exact fun _ _ _ _ _ _ us hl => match us, hl with | [_], _ => rfl)
    obtain ⟨d_check_modulus⟩ : Nonempty (R.DF _ mg "check_modulus" R.s_check_modulus R.P_check_modulus) := by
      refine' R.df_ex KX G ?a_check_modulus ?l_check_modulus ?c_check_modulus ?k_check_modulus ?b_check_modulus
      (case a_check_modulus => k_is); (case l_check_modulus => k_is); (case c_check_modulus => k_is); (case k_check_modulus => k_is)
      (case b_check_modulus => exact fun _ _ _ _ _ _ us hl => match us, hl with | [_], _ => rfl)
    obtain ⟨d_all_digits⟩ : Nonempty (R.DF _ mg "all_digits" R.s_all_digits R.P_all_digits) := by
      refine' R.df_ex KX G ?a_all_digits ?l_all_digits ?c_all_digits ?k_all_digits ?b_all_digits
      (case a_all_digits => k_is); (case l_all_digits => k_is); (case c_all_digits => k_is); (case k_all_digits => k_is)
      (case b_all_digits => exact fun _ _ _ _ _ _ us hl => match us, hl with | [_, _], _ => rfl)
    obtain ⟨d_check_row⟩ : Nonempty (R.DF _ mg "check_row" R.s_check_row R.P_check_row) := by
      refine' R.df_ex KX G ?a_check_row ?l_check_row ?c_check_row ?k_check_row ?b_check_row
      (case a_check_row => k_is); (case l_check_row => k_is); (case c_check_row => k_is); (case k_check_row => k_is)
      (case b_check_row => exact fun _ _ _ _ _ _ us hl => match us, hl with | [_, _], _ => rfl)
    obtain ⟨d_check_tables⟩ : Nonempty (R.DF _ mg "check_tables" R.s_check_tables R.P_check_tables) := by
      refine' R.df_ex KX G ?a_check_tables ?l_check_tables ?c_check_tables ?k_check_tables ?b_check_tables
      (case a_check_tables => k_is); (case l_check_tables => k_is); (case c_check_tables => k_is); (case k_check_tables => k_is)
      (case b_check_tables => exact fun _ _ _ _ _ _ us hl => match us, hl with | [_, _, _, _], _ => rfl)
    obtain ⟨d_odometer⟩ : Nonempty (R.DK (_) mg "odometer" R.s_odometer R.P_odometer 0 [("modulus", .int 2)]) := by
      refine' R.dk_ex KX G ?a_odometer ?l_odometer ?c_odometer ?k_odometer ?w_odometer ?r_odometer ?hn_odometer ?hb_odometer ?hkb_odometer
      (case a_odometer => k_is); (case l_odometer => k_is); (case c_odometer => k_is); (case k_odometer => k_is); (case w_odometer => k_is); (case r_odometer => exact ⟨_, rfl⟩)
      (case hn_odometer => rfl)
      (case hb_odometer => exact fun _ _ _ _ _ _ us ks h1 h2 => match us, ks, h1, h2 with | [], [_], _, _ => ⟨_, _, _, _, _, _, rfl, rfl, rfl⟩)
      (case hkb_odometer => exact fun _ _ _ _ _ _ us mv ws h1 h2 h3 => match us, mv, ws, h1, h2, h3 with | [], [], [_], _, _, _ => rfl)
    obtain ⟨d_invert⟩ : Nonempty (R.DF _ mg "invert" R.s_invert R.P_invert) := by
      refine' R.df_ex KX G ?a_invert ?l_invert ?c_invert ?k_invert ?b_invert
      (case a_invert => k_is); (case l_invert => k_is); (case c_invert => k_is); (case k_invert => k_is)
      (case b_invert => exact fun _ _ _ _ _ _ us hl => match us, hl with | [_], _ => rfl)
    obtain ⟨d_source⟩ : Nonempty (R.DF _ mg "_law_source" R.s_source R.P_source) := by
      refine' R.df_ex KX G ?a_source ?l_source ?c_source ?k_source ?b_source
      (case a_source => k_is); (case l_source => k_is); (case c_source => k_is); (case k_source => k_is)
      (case b_source => exact fun _ _ _ _ _ _ us hl => match us, hl with | [_], _ => rfl)
    obtain ⟨d_draw⟩ : Nonempty (R.DF _ mg "_law_draw" R.s_draw R.P_draw) := by
      refine' R.df_ex KX G ?a_draw ?l_draw ?c_draw ?k_draw ?b_draw
      (case a_draw => k_is); (case l_draw => k_is); (case c_draw => k_is); (case k_draw => k_is)
      (case b_draw => exact fun _ _ _ _ _ _ us hl => match us, hl with | [_, _], _ => rfl)
    obtain ⟨d_pick⟩ : Nonempty (R.DF _ mg "_law_pick" R.s_pick R.P_pick) := by
      refine' R.df_ex KX G ?a_pick ?l_pick ?c_pick ?k_pick ?b_pick
      (case a_pick => k_is); (case l_pick => k_is); (case c_pick => k_is); (case k_pick => k_is)
      (case b_pick => exact fun _ _ _ _ _ _ us hl => match us, hl with | [_, _], _ => rfl)
    obtain ⟨d_same⟩ : Nonempty (R.DF _ mg "_law_same" R.s_same R.P_same) := by
      refine' R.df_ex KX G ?a_same ?l_same ?c_same ?k_same ?b_same
      (case a_same => k_is); (case l_same => k_is); (case c_same => k_is); (case k_same => k_is)
      (case b_same => exact fun _ _ _ _ _ _ us hl => match us, hl with | [_, _], _ => rfl)
    obtain ⟨d_modulus⟩ : Nonempty (R.DF _ mg "_law_modulus" R.s_modulus R.P_modulus) := by
      refine' R.df_ex KX G ?a_modulus ?l_modulus ?c_modulus ?k_modulus ?b_modulus
      (case a_modulus => k_is); (case l_modulus => k_is); (case c_modulus => k_is); (case k_modulus => k_is)
      (case b_modulus => exact fun _ _ _ _ _ _ us hl => match us, hl with | [_], _ => rfl)
    obtain ⟨d_row⟩ : Nonempty (R.DF _ mg "_law_row" R.s_row R.P_row) := by
      refine' R.df_ex KX G ?a_row ?l_row ?c_row ?k_row ?b_row
      (case a_row => k_is); (case l_row => k_is); (case c_row => k_is); (case k_row => k_is)
      (case b_row => exact fun _ _ _ _ _ _ us hl => match us, hl with | [_, _, _], _ => rfl)
    obtain ⟨d_random_tables⟩ : Nonempty (R.DF _ mg "_law_random_tables" R.s_random_tables R.P_random_tables) := by
      refine' R.df_ex KX G ?a_random_tables ?l_random_tables ?c_random_tables ?k_random_tables ?b_random_tables
      (case a_random_tables => k_is); (case l_random_tables => k_is); (case c_random_tables => k_is); (case k_random_tables => k_is)
      (case b_random_tables => exact fun _ _ _ _ _ _ us hl => match us, hl with | [_, _, _], _ => rfl)
    obtain ⟨d_lively_tables⟩ : Nonempty (R.DF _ mg "_law_lively_tables" R.s_lively_tables R.P_lively_tables) := by
      refine' R.df_ex KX G ?a_lively_tables ?l_lively_tables ?c_lively_tables ?k_lively_tables ?b_lively_tables
      (case a_lively_tables => k_is); (case l_lively_tables => k_is); (case c_lively_tables => k_is); (case k_lively_tables => k_is)
      (case b_lively_tables => exact fun _ _ _ _ _ _ us hl => match us, hl with | [_, _, _], _ => rfl)
    obtain ⟨d_tables⟩ : Nonempty (R.DF _ mg "_law_tables" R.s_tables R.P_tables) := by
      refine' R.df_ex KX G ?a_tables ?l_tables ?c_tables ?k_tables ?b_tables
      (case a_tables => k_is); (case l_tables => k_is); (case c_tables => k_is); (case k_tables => k_is)
      (case b_tables => exact fun _ _ _ _ _ _ us hl => match us, hl with | [_, _, _], _ => rfl)
    obtain ⟨d_machine⟩ : Nonempty (R.DF _ mg "_law_machine" R.s_machine R.P_machine) := by
      refine' R.df_ex KX G ?a_machine ?l_machine ?c_machine ?k_machine ?b_machine
      (case a_machine => k_is); (case l_machine => k_is); (case c_machine => k_is); (case k_machine => k_is)
      (case b_machine => exact fun _ _ _ _ _ _ us hl => match us, hl with | [_], _ => rfl)
    obtain ⟨d_tables_of⟩ : Nonempty (R.DF _ mg "_law_tables_of" R.s_tables_of R.P_tables_of) := by
      refine' R.df_ex KX G ?a_tables_of ?l_tables_of ?c_tables_of ?k_tables_of ?b_tables_of
      (case a_tables_of => k_is); (case l_tables_of => k_is); (case c_tables_of => k_is); (case k_tables_of => k_is)
      (case b_tables_of => exact fun _ _ _ _ _ _ us hl => match us, hl with | [_], _ => rfl)
    obtain ⟨d_small_row⟩ : Nonempty (R.DF _ mg "_law_small_row" R.s_small_row R.P_small_row) := by
      refine' R.df_ex KX G ?a_small_row ?l_small_row ?c_small_row ?k_small_row ?b_small_row
      (case a_small_row => k_is); (case l_small_row => k_is); (case c_small_row => k_is); (case k_small_row => k_is)
      (case b_small_row => exact fun _ _ _ _ _ _ us hl => match us, hl with | [_, _], _ => rfl)
    obtain ⟨d_inverse_tables⟩ : Nonempty (R.DF _ mg "_law_inverse_tables" R.s_inverse_tables R.P_inverse_tables) := by
      refine' R.df_ex KX G ?a_inverse_tables ?l_inverse_tables ?c_inverse_tables ?k_inverse_tables ?b_inverse_tables
      (case a_inverse_tables => k_is); (case l_inverse_tables => k_is); (case c_inverse_tables => k_is); (case k_inverse_tables => k_is)
      (case b_inverse_tables => exact fun _ _ _ _ _ _ us hl => match us, hl with | [_], _ => rfl)
    obtain ⟨d_law⟩ : Nonempty (R.DF _ mg "law" R.s_law R.P_law) := by
      refine' R.df_ex KX G ?a_law ?l_law ?c_law ?k_law ?b_law
      (case a_law => k_is); (case l_law => k_is); (case c_law => k_is); (case k_law => k_is)
      (case b_law => exact fun _ _ _ _ _ _ us hl => match us, hl with | [_], _ => rfl)
    refine' R.ck_in (x := "Machine") (fl := ["modulus", "start", "added", "targets"]) KX G ?a_Machine ?pg_Machine ?hd_Machine ?po_Machine ?sa_Machine ?no_Machine ?go_Machine
    (case a_Machine => k_is); (case pg_Machine => k_is); (case hd_Machine => k_is); (case po_Machine => k_is); (case sa_Machine => k_is)
    (case no_Machine => (intro f hf; simp only [List.mem_cons, List.not_mem_nil, or_false] at hf; rcases hf with rfl | rfl | rfl | rfl <;> (show PySem.W.findIn _ _ _ = _; k_is)))
    intro k_Machine hk_Machine
    refine' R.ik_in (qual := "Machine.__init__") (st := R.s_Machine_init) (ps := R.P_Machine_init) (n := 4) (s := "start") (v := .int 0) KX hk_Machine ?mk_Machine_init ?a_Machine_init ?fn_Machine_init ?kC_Machine_init ?l_Machine_init ?c_Machine_init ?k_Machine_init ?w_Machine_init ?r_Machine_init ?hn_Machine_init ?hb_Machine_init ?hkb_Machine_init ?go_Machine_init
    (case mk_Machine_init => k_is)
    (case a_Machine_init => k_is)
    (case fn_Machine_init => k_is)
    (case kC_Machine_init => k_is)
    (case l_Machine_init => k_is)
    (case c_Machine_init => k_is)
    (case k_Machine_init => k_is)
    (case w_Machine_init => k_is)
    (case r_Machine_init => exact ⟨_, rfl⟩)
    (case hn_Machine_init => rfl)
    (case hb_Machine_init => exact fun _ _ _ _ _ _ us ks h1 h2 => match us, ks, h1, h2 with | [_, _, _, _], [_], _, _ => ⟨_, _, _, _, _, _, rfl, rfl, rfl⟩)
    (case hkb_Machine_init => exact fun _ _ _ _ _ _ us mv ws h1 h2 h3 => match us, mv, ws, h1, h2, h3 with | [_, _, _, _], [], [_], _, _, _ => rfl)
    intro i_Machine
    refine' R.mt_in (m := "__len__") (qual := "Machine.__len__") (st := R.s_Machine_len) (ps := R.P_Machine_len) KX hk_Machine ?a_Machine_len ?l_Machine_len ?c_Machine_len ?k_Machine_len ?fn_Machine_len ?hb_Machine_len ?go_Machine_len
    (case a_Machine_len => k_is)
    (case l_Machine_len => k_is)
    (case c_Machine_len => k_is)
    (case k_Machine_len => k_is)
    (case fn_Machine_len => k_is)
    (case hb_Machine_len => exact fun _ _ _ _ _ _ us hl => match us, hl with | [_], _ => rfl)
    intro m_Machine_len hm_Machine_len
    refine' R.mt_in (m := "__eq__") (qual := "Machine.__eq__") (st := R.s_Machine_eq) (ps := R.P_Machine_eq) KX hk_Machine ?a_Machine_eq ?l_Machine_eq ?c_Machine_eq ?k_Machine_eq ?fn_Machine_eq ?hb_Machine_eq ?go_Machine_eq
    (case a_Machine_eq => k_is)
    (case l_Machine_eq => k_is)
    (case c_Machine_eq => k_is)
    (case k_Machine_eq => k_is)
    (case fn_Machine_eq => k_is)
    (case hb_Machine_eq => exact fun _ _ _ _ _ _ us hl => match us, hl with | [_, _], _ => rfl)
    intro m_Machine_eq hm_Machine_eq
    refine' R.mt_in (m := "__repr__") (qual := "Machine.__repr__") (st := R.s_Machine_repr) (ps := R.P_Machine_repr) KX hk_Machine ?a_Machine_repr ?l_Machine_repr ?c_Machine_repr ?k_Machine_repr ?fn_Machine_repr ?hb_Machine_repr ?go_Machine_repr
    (case a_Machine_repr => k_is)
    (case l_Machine_repr => k_is)
    (case c_Machine_repr => k_is)
    (case k_Machine_repr => k_is)
    (case fn_Machine_repr => k_is)
    (case hb_Machine_repr => exact fun _ _ _ _ _ _ us hl => match us, hl with | [_], _ => rfl)
    intro m_Machine_repr hm_Machine_repr
    refine' R.mt_in (m := "constants") (qual := "Machine.constants") (st := R.s_Machine_constants) (ps := R.P_Machine_constants) KX hk_Machine ?a_Machine_constants ?l_Machine_constants ?c_Machine_constants ?k_Machine_constants ?fn_Machine_constants ?hb_Machine_constants ?go_Machine_constants
    (case a_Machine_constants => k_is)
    (case l_Machine_constants => k_is)
    (case c_Machine_constants => k_is)
    (case k_Machine_constants => k_is)
    (case fn_Machine_constants => k_is)
    (case hb_Machine_constants => exact fun _ _ _ _ _ _ us hl => match us, hl with | [_], _ => rfl)
    intro m_Machine_constants hm_Machine_constants
    refine' R.mt_in (m := "transitions") (qual := "Machine.transitions") (st := R.s_Machine_transitions) (ps := R.P_Machine_transitions) KX hk_Machine ?a_Machine_transitions ?l_Machine_transitions ?c_Machine_transitions ?k_Machine_transitions ?fn_Machine_transitions ?hb_Machine_transitions ?go_Machine_transitions
    (case a_Machine_transitions => k_is)
    (case l_Machine_transitions => k_is)
    (case c_Machine_transitions => k_is)
    (case k_Machine_transitions => k_is)
    (case fn_Machine_transitions => k_is)
    (case hb_Machine_transitions => exact fun _ _ _ _ _ _ us hl => match us, hl with | [_], _ => rfl)
    intro m_Machine_transitions hm_Machine_transitions
    refine' R.mt_in (m := "write") (qual := "Machine.write") (st := R.s_Machine_write) (ps := R.P_Machine_write) KX hk_Machine ?a_Machine_write ?l_Machine_write ?c_Machine_write ?k_Machine_write ?fn_Machine_write ?hb_Machine_write ?go_Machine_write
    (case a_Machine_write => k_is)
    (case l_Machine_write => k_is)
    (case c_Machine_write => k_is)
    (case k_Machine_write => k_is)
    (case fn_Machine_write => k_is)
    (case hb_Machine_write => exact fun _ _ _ _ _ _ us hl => match us, hl with | [_, _], _ => rfl)
    intro m_Machine_write hm_Machine_write
    refine' R.mt_in (m := "check_state") (qual := "Machine.check_state") (st := R.s_Machine_check_state) (ps := R.P_Machine_check_state) KX hk_Machine ?a_Machine_check_state ?l_Machine_check_state ?c_Machine_check_state ?k_Machine_check_state ?fn_Machine_check_state ?hb_Machine_check_state ?go_Machine_check_state
    (case a_Machine_check_state => k_is)
    (case l_Machine_check_state => k_is)
    (case c_Machine_check_state => k_is)
    (case k_Machine_check_state => k_is)
    (case fn_Machine_check_state => k_is)
    (case hb_Machine_check_state => exact fun _ _ _ _ _ _ us hl => match us, hl with | [_, _], _ => rfl)
    intro m_Machine_check_state hm_Machine_check_state
    refine' R.mt_in (m := "from_state") (qual := "Machine.from_state") (st := R.s_Machine_from_state) (ps := R.P_Machine_from_state) KX hk_Machine ?a_Machine_from_state ?l_Machine_from_state ?c_Machine_from_state ?k_Machine_from_state ?fn_Machine_from_state ?hb_Machine_from_state ?go_Machine_from_state
    (case a_Machine_from_state => k_is)
    (case l_Machine_from_state => k_is)
    (case c_Machine_from_state => k_is)
    (case k_Machine_from_state => k_is)
    (case fn_Machine_from_state => k_is)
    (case hb_Machine_from_state => exact fun _ _ _ _ _ _ us hl => match us, hl with | [_, _], _ => rfl)
    intro m_Machine_from_state hm_Machine_from_state
    refine' R.eq_in KX hk_Machine hm_Machine_eq ?eqq ?fnq ?neq ?plq ?caq ?cnq ?ctq ?cmq ?icq ?tyq ?s1q ?s2q ?s3q ?goq
    (case eqq => k_is)
    (case fnq => k_is)
    (case neq => k_is)
    (case plq => k_is)
    (case caq => k_is)
    (case cnq => k_is)
    (case ctq => k_is)
    (case cmq => k_is)
    (case icq => k_is)
    (case tyq => k_is)
    (case s1q => k_is)
    (case s2q => k_is)
    (case s3q => k_is)
    intro q_Machine
    refine ⟨{ b_all := b_all, b_bool := b_bool, b_enumerate := b_enumerate, b_int := b_int, b_isinstance := b_isinstance, b_len := b_len, b_list := b_list, b_range := b_range, b_str := b_str, b_tuple := b_tuple, b_zip := b_zip, a_MODULI := a_MODULI, c_MODULI := c_MODULI, t_MODULI := t_MODULI, c_MAX_DIGITS := c_MAX_DIGITS, c_MAX_STATES := c_MAX_STATES, e_InvalidModulus := e_InvalidModulus, e_InvalidRow := e_InvalidRow, e_InvalidMachine := e_InvalidMachine, _wall := d__wall, check_modulus := d_check_modulus, all_digits := d_all_digits, check_row := d_check_row, check_tables := d_check_tables, odometer := d_odometer, invert := d_invert, source := d_source, draw := d_draw, pick := d_pick, same := d_same, modulus := d_modulus, row := d_row, random_tables := d_random_tables, lively_tables := d_lively_tables, tables := d_tables, machine := d_machine, tables_of := d_tables_of, small_row := d_small_row, inverse_tables := d_inverse_tables, law := d_law, k_Machine := k_Machine, i_Machine := i_Machine, m_Machine_len := m_Machine_len, m_Machine_eq := m_Machine_eq, m_Machine_repr := m_Machine_repr, m_Machine_constants := m_Machine_constants, m_Machine_transitions := m_Machine_transitions, m_Machine_write := m_Machine_write, m_Machine_check_state := m_Machine_check_state, m_Machine_from_state := m_Machine_from_state, q_Machine := q_Machine }, d_law.g, fun s u => ?_, fun base => R.ok_law _⟩
    obtain ⟨_, _, _, _, _, _, _, _, _, e, _⟩ := d_law.F.ex
    show BindsTo s d_law.fd _ _
    rw [e]
    exact .of_eq rfl
#print axioms PySem.Challenge.cw_rowring_k15_inverse_machines_holds


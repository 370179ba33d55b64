import PyProof.Rows.All
import Wide.All
import OpenK.AllK
import Wide.FinOn
import HandS.ForMost
import HandS.ForExc
import HandS.Wide
import HandS.IsInst
import HandS.Zip
import HandS.Flow
import HandS.EndBits
import HandS.Defaults
import HandS.TupAny
import HandS.TupMul
import HandS.Codes
import HandS.Deep
import HandS.Walk
import HandS.ExcInit
import HandS.MakeKwOnly
import HandS.RaiseMore
import HandS.FStr
import HandS.Lambda
import HandS.HotCalls
import HandS.ExcField
import KE.KTryMore
import HandS.EndOwn
import PySem.Challenge.RW_rowring_k23_sum_bounds
set_option Elab.async false
set_option linter.all false
set_option maxRecDepth 100000
set_option maxHeartbeats 4000000
/-! # U0: tuple * n for any n from 0 -/
namespace R
open PySem PySem.Spec PyProof.Rows L2
theorem tuple_mul1 (l : Addr) (items : Array Value) (n : Nat) (dd : Option Addr) (sl : Array (Option Value)) (u : Tok) :
    Meets (Builtin.«tuple.__mul__» ⟨[.ref l, .int 1 u], []⟩) (fun _ R s => s.heap.get? l = some { cls := .type "tuple", dict := dd, data := .seq items n, slots := sl } ∧
      R (.ok (.ret (Value.ref l))) s) :=
  .of_wp fun prog w A R s h => by
    obtain ⟨hp, g, d, tk, os⟩ := s
    obtain ⟨hl, h⟩ := h
    have f1 := AutoSeq1.idx_int
    have c0 : (decide ((1 : Int) < -(2 ^ 63)) || decide ((1 : Int) ≥ 2 ^ 63)) = false := by decide
    have c1 : (items.isEmpty || (1 : Int) == 1) = true := by simp
    wp_walk using wpAny_loadPart' hl
    repeat (first
      | (refine wpAny_ite_false (decide_eq_false (by rw [c0]; exact Bool.false_ne_true)) ?_; wp_walk using wpAny_loadPart' hl)
      | (refine wpAny_ite_true (decide_eq_true c1) ?_; wp_walk using wpAny_loadPart' hl))
    exact ⟨_, rfl, h⟩
theorem tuple_mul0 (l : Addr) (items : Array Value) (n : Nat) (dd : Option Addr) (sl : Array (Option Value)) (u : Tok) (c1 : (items.isEmpty || (0 : Int) == 1) = false) :
    Meets (Builtin.«tuple.__mul__» ⟨[.ref l, .int 0 u], []⟩) (fun _ R s => s.heap.get? l = some { cls := .type "tuple", dict := dd, data := .seq items n, slots := sl } ∧
      R (.ok (.ret (Value.ref s.heap.objs.size))) { s with heap := s.heap.push { cls := Value.type "tuple", data := Data.seq #[] }, toks := s.toks }) :=
  .of_wp fun prog w A R s h => by
    obtain ⟨hp, g, d, tk, os⟩ := s
    obtain ⟨hl, h⟩ := h
    have f1 := AutoSeq1.idx_int
    have c0 : (decide ((0 : Int) < -(2 ^ 63)) || decide ((0 : Int) ≥ 2 ^ 63)) = false := by decide
    have c2 : (decide ((0 : Int) ≤ 0) || items.isEmpty) = true := by simp
    wp_walk using wpAny_loadPart' hl
    repeat (first
      | (refine wpAny_ite_false (decide_eq_false (by rw [c0]; exact Bool.false_ne_true)) ?_; wp_walk using wpAny_loadPart' hl)
      | (refine wpAny_ite_false (decide_eq_false (by rw [c1]; exact Bool.false_ne_true)) ?_; wp_walk using wpAny_loadPart' hl)
      | (refine wpAny_ite_true (decide_eq_true c2) ?_; wp_walk using wpAny_loadPart' hl))
    exact ⟨_, rfl, h⟩
/-- a tuple that is not empty, times n: one is the tuple itself -/
def rMulT (K : PySem.W.Frag) : R2 := fun x y H Q => ∃ l k xs, x = .ref l ∧ y = .int k ∧ SqT K H l xs ∧ xs ≠ [] ∧ 0 ≤ k ∧ k ≤ 1000 ∧ xs.length ≤ 1000 ∧ (k = 1 → Q (.ref l) H) ∧ (k ≠ 1 → ∀ p, H p = none → Q (.ref p) (upd H p (.tup (List.replicate k.toNat xs).flatten)))
theorem op_mulT {X : Cx} : OpR X (binaryOp .Mult) (rMulT X.K) := by
  intro pins s σ H x y v u Q I rx ry h
  obtain ⟨l, k, xs, rfl, rfl, hT, hne, h1, h2, hz, q1, q2⟩ := h
  by_cases hk : 2 ≤ k
  · exact op_repT pins s σ H _ _ v u Q I rx ry ⟨l, k, xs, rfl, rfl, hT, hne, hk, h2, hz, q2 (by omega)⟩
  cases rx
  obtain ⟨t, rfl⟩ := ry
  obtain ⟨its, r, ⟨⟨cls, dd, data, sl⟩, ho, hc, n, hd⟩, hs⟩ := I.tuple hT
  simp only at hc hd
  subst hc hd
  have hle : its.length = xs.length := r.length.symm
  have hn : its ≠ [] := fun e => hne (by
    rw [e] at hle
    exact List.eq_nil_of_length_eq_zero hle.symm)
  have hi : its.toArray.isEmpty = false := by
    cases its with
    | nil => exact absurd rfl hn
    | cons a b => rfl
  by_cases hk1 : k = 1
  · subst hk1
    refine wpAny_binaryOp_repeat_ref (T := "tuple") (U := "int") (by decide) ⟨_, ho, rfl⟩ (fun s' => typeIs_int s' 1 t) noFill_tuple_mul F.fills_int_mul F.slot_int_rmul repeat_tuple F.slot_int_index.lookup
      (call_meets F.slot_int_rmul (typeIs_int s 1 t) F.entry_int_rmul (F.args_int_rmul_2 _ _) (int_rmul_tuple 1 t l its.toArray n dd sl)
        ⟨ho, rfl, ⟨_, ho, rfl⟩, call_meets F.slot_tuple_mul ⟨_, ho, rfl⟩ F.entry_tuple_mul (F.args_tuple_mul_2 _ _) (tuple_mul1 l its.toArray n dd sl t) ⟨ho, ?_⟩⟩)
    exact ⟨.ref l, H, I, rfl, q1 rfl⟩
  · have hk0 : k = 0 := by omega
    subst hk0
    refine wpAny_binaryOp_repeat_ref (T := "tuple") (U := "int") (by decide) ⟨_, ho, rfl⟩ (fun s' => typeIs_int s' 0 t) noFill_tuple_mul F.fills_int_mul F.slot_int_rmul repeat_tuple F.slot_int_index.lookup
      (call_meets F.slot_int_rmul (typeIs_int s 0 t) F.entry_int_rmul (F.args_int_rmul_2 _ _) (int_rmul_tuple 0 t l its.toArray n dd sl)
        ⟨ho, rfl, ⟨_, ho, rfl⟩, call_meets F.slot_tuple_mul ⟨_, ho, rfl⟩ F.entry_tuple_mul (F.args_tuple_mul_2 _ _) (tuple_mul0 l its.toArray n dd sl t (by rw [hi]; rfl)) ⟨ho, ?_⟩⟩)
    refine ⟨.ref s.heap.objs.size, _, I.laid (t' := s.toks) (o := .tup []) (fun b ob q => Heap.get?_push_of_some _ q) (Nat.le_refl _) ?_, rfl, q2 (by decide) _ (I.hok.fresh (Nat.le_refl _))⟩
    exact ⟨Nat.zero_le _, [], .nil, IsTup.new _ _⟩
/-- a tuple and a tuple: an empty one gives the other itself -/
def rCat3 (K : PySem.W.Frag) : R2 := fun x y H Q => ∃ a b xs ys, x = .ref a ∧ y = .ref b ∧ SqT K H a xs ∧ SqT K H b ys ∧ xs.length + ys.length ≤ sizeLine ∧
  (xs = [] → Q (.ref b) H) ∧ (xs ≠ [] → ys = [] → Q (.ref a) H) ∧ (xs ≠ [] → ys ≠ [] → ∀ p, H p = none → Q (.ref p) (upd H p (.tup (xs ++ ys))))
theorem op_cat3 {X : Cx} : OpR X (binaryOp .Add) (rCat3 X.K) := by
  intro pins s σ H x y v u Q I rx ry h
  obtain ⟨a, b, xs, ys, rfl, rfl, ha, hb, hz, q0, q1, q2⟩ := h
  by_cases hx : xs = []
  · subst hx
    cases rx
    cases ry
    obtain ⟨its, r1, p1, _⟩ := I.tuple ha
    obtain ⟨its2, r2, p2, _⟩ := I.tuple hb
    cases r1
    obtain ⟨⟨cls, dd, data, sl⟩, ho, hc, n, hd⟩ := id p1
    obtain ⟨⟨cls2, dd2, data2, sl2⟩, ho2, hc2, n2, hd2⟩ := id p2
    simp only at hc hd hc2 hd2
    subst hc hd hc2 hd2
    exact concat_meets ⟨_, ho, rfl⟩ ⟨_, ho2, rfl⟩ noFill_tuple_add seq_tuple_add PySem.F.slot_tuple_add PySem.F.entry_tuple_add (PySem.F.args_tuple_add_2 _ _)
      (tuple_addW0 a b #[] its2.toArray n n2 dd dd2 sl sl2 rfl) ⟨ho, ho2, ⟨.ref b, H, I, rfl, q0 rfl⟩⟩
  · exact op_catT pins s σ H _ _ v u Q I rx ry ⟨a, b, xs, ys, rfl, rfl, ha, hb, hx, hz, q1 hx, q2 hx⟩
end R

/-! # U1: heaps, smart operators, readings as rules by their heads -/
namespace R
open PySem PySem.Spec PyProof.Rows L2

/-! ### heaps: all but r is kept -/
def Kp (r : Addr) (H H' : Hp) : Prop := ∀ b o, H b = some o → b ≠ r → H' b = some o
abbrev Ex (H H' : Hp) : Prop := L2.Same H H'
theorem Ex.kp {r : Addr} {H H' : Hp} (e : Ex H H') : Kp r H H' := fun b o h _ => e b o h
theorem Kp.refl (r : Addr) (H : Hp) : Kp r H H := fun _ _ h _ => h
theorem Kp.trans {r : Addr} {H H1 H2 : Hp} (a : Kp r H H1) (b : Kp r H1 H2) : Kp r H H2 := fun c o h n => b c o (a c o h n) n
theorem Ex.new {H : Hp} {p : Addr} {o : HO} (h : H p = none) : Ex H (upd H p o) := fun a u e => by
  rw [upd_ne (ne_of_none e h)]
  exact e
theorem Kp.new {r : Addr} {H : Hp} {p : Addr} {o : HO} (h : H p = none) : Kp r H (upd H p o) := (Ex.new h).kp
theorem Kp.set {r : Addr} {H : Hp} {o : HO} : Kp r H (upd H r o) := fun b u e n => by
  rw [upd_ne n]
  exact e
theorem Ex.mut {H H' : Hp} {p : Addr} {o : HO} (e : Ex H H') (h : H p = none) : Ex H (upd H' p o) := fun a u ha => by
  rw [upd_ne (ne_of_none ha h)]
  exact e a u ha
theorem Kp.mut {r : Addr} {H H' : Hp} {p : Addr} {o : HO} (e : Kp r H H') (h : H p = none) : Kp r H (upd H' p o) := fun a u ha n => by
  rw [upd_ne (ne_of_none ha h)]
  exact e a u ha n
theorem Kp.ex {r : Addr} {H H' : Hp} (e : Kp r H H') (h : H r = none) : Ex H H' := fun b o hb => e b o hb (ne_of_none hb h)
theorem Ex.none {H H' : Hp} (e : Ex H H') {l : Addr} (h : H' l = none) : H l = none := Same.free e h
theorem Kp.none {r : Addr} {H H' : Hp} (e : Kp r H H') {l : Addr} (h : H' l = none) (n : l ≠ r) : H l = none := by
  cases q : H l with
  | none => rfl
  | some o =>
    rw [e l o q n] at h
    cases h
theorem ex_at {H H' : Hp} {b : Addr} {o : HO} (e : Ex H H') (h : H b = some o) : H' b = some o := e b o h
theorem ne_at {H : Hp} {a b : Addr} {o u : HO} (n : b ≠ a) (h : H b = some u) : upd H a o b = some u := (upd_ne n).trans h
theorem ne_none {H : Hp} {a b : Addr} {o : HO} (h' : H b = none) (h : H a = some o) : a ≠ b := ne_of_none h h'
theorem kp_at {r : Addr} {H H' : Hp} {b : Addr} {o : HO} (e : Kp r H H') (h : H b = some o) (n : b ≠ r) : H' b = some o := e b o h n
theorem upd_none {H : Hp} {a p : Addr} {o : HO} (h : upd H a o p = none) : p ≠ a ∧ H p = none := by
  by_cases e : p = a
  · rw [e, upd_same] at h
    cases h
  · rw [upd_ne e] at h
    exact ⟨e, h⟩
theorem sq_ex {K : PySem.W.Frag} {H H' : Hp} {a : Addr} {xs : List V} (e : Ex H H') (h : SqL K H a xs) : SqL K H' a xs := e.seq h
theorem rd_ex {H H' : Hp} {a : Addr} {u : HO} (e : Ex H H') (h : Rd H a u) : Rd H' a u := by
  rcases h with h | ⟨o, h⟩
  · exact .inl (e a _ h)
  · exact .inr ⟨o, e a _ h⟩
theorem st_ex {K : PySem.W.Frag} {H H' : Hp} {a : Addr} {xs : List V} (e : Ex H H') (h : SqT K H a xs) : SqT K H' a xs := by
  rcases h with h | h
  · exact .inl (rd_ex e h)
  · exact .inr h
theorem rd_kp {r : Addr} {H H' : Hp} {a : Addr} {u : HO} (e : Kp r H H') (h : Rd H a u) (n : a ≠ r) : Rd H' a u := by
  rcases h with h | ⟨o, h⟩
  · exact .inl (e a _ h n)
  · exact .inr ⟨o, e a _ h n⟩
theorem sq_kp {K : PySem.W.Frag} {r : Addr} {H H' : Hp} {a : Addr} {xs : List V} (e : Kp r H H') (h : SqL K H a xs) (n : a ≠ r) : SqL K H' a xs := h.imp (fun h => rd_kp e h n) id
theorem st_kp {K : PySem.W.Frag} {r : Addr} {H H' : Hp} {a : Addr} {xs : List V} (e : Kp r H H') (h : SqT K H a xs) (n : a ≠ r) : SqT K H' a xs := h.imp (fun h => rd_kp e h n) id
theorem sq_of {K : PySem.W.Frag} {H : Hp} {a : Addr} {xs : List V} (h : H a = some (.lst xs)) : SqL K H a xs := .inl (.inl h)
theorem st_of {K : PySem.W.Frag} {H : Hp} {a : Addr} {xs : List V} (h : H a = some (.tup xs)) : SqT K H a xs := .inl (.inl h)
theorem sz_of {n : Nat} (h : n ≤ 1000000) : n ≤ sizeLine := Nat.le_trans h (by decide)
theorem sz_lt {n : Nat} (h : n < 1000000) : n < sizeLine := Nat.lt_of_lt_of_le h (by decide)

/-! ### readings by their heads -/
/-- a new tuple, a new list -/
def mkT (xs : List V) (H : Hp) (Q : VK) : Prop := xs.length ≤ sizeLine ∧ ∀ p, H p = none → Q (.ref p) (upd H p (.tup xs))
def mkL (xs : List V) (H : Hp) (Q : VK) : Prop := xs.length ≤ sizeLine ∧ ∀ p, H p = none → Q (.ref p) (upd H p (.lst xs))
section
variable {σ : L2.St} {H : Hp} {Q : VK} {D : Ends} {v w : V} {i : Nat} {K : PySem.W.Frag}
theorem x_var (h : σ[i]? = some (some v)) (q : Q v H) : tVar i σ H Q := ⟨v, h, q⟩
theorem x_c (q : Q v H) : tC v σ H Q := q
theorem x_op {r : R2} {ta tb : TE} (q : ta σ H fun x H1 => tb σ H1 fun y H2 => r x y H2 Q) : tOp r ta tb σ H Q := q
theorem x_un {r : V → Hp → VK → Prop} {ta : TE} (q : ta σ H fun x H1 => r x H1 Q) : tUn r ta σ H Q := q
theorem x_nil {Q : List V → Hp → Prop} (q : Q [] H) : tNil σ H Q := q
theorem x_cons {Q : List V → Hp → Prop} {ta : TE} {tr : TA} (q : ta σ H fun x H1 => tr σ H1 fun xs H2 => Q (x :: xs) H2) : tCons ta tr σ H Q := q
theorem x_cb {r : List V → Hp → VK → Prop} {t : TA} (q : t σ H fun vs H1 => r vs H1 Q) : tCB r t σ H Q := q
theorem x_tup {t : TA} (q : t σ H fun xs H1 => mkT xs H1 Q) : tTup t σ H Q := q
theorem x_lst {t : TA} (q : t σ H fun xs H1 => mkL xs H1 Q) : tLst t σ H Q := q
theorem z_tup {xs : List V} (h : ∀ p, H p = none → Q (.ref p) (upd H p (.tup xs))) (hl : xs.length ≤ 1000000 := by exact Nat.le_of_ble_eq_true rfl) : mkT xs H Q := ⟨sz_of hl, h⟩
theorem z_lst {xs : List V} (h : ∀ p, H p = none → Q (.ref p) (upd H p (.lst xs))) (hl : xs.length ≤ 1000000 := by exact Nat.le_of_ble_eq_true rfl) : mkL xs H Q := ⟨sz_of hl, h⟩
theorem x_if {c : TT} {ta tb : TE} (q : c σ H fun b H1 => if b = true then ta σ H1 Q else tb σ H1 Q) : tIf c ta tb σ H Q := q
theorem x_andV {ta tb : TE} (q : ta σ H fun x H1 => ∃ c, x = .bl c ∧ if c = true then tb σ H1 Q else Q (.bl false) H1) : tAndV ta tb σ H Q := q
theorem x_orV {ta tb : TE} (q : ta σ H fun x H1 => ∃ c, x = .bl c ∧ if c = true then Q (.bl true) H1 else tb σ H1 Q) : tOrV ta tb σ H Q := q
theorem x_notV {ta : TE} (q : ta σ H fun x H1 => ∃ c, x = .bl c ∧ Q (.bl (!c)) H1) : tNotV ta σ H Q := q
theorem x_bl {b : Bool} {P : Bool → Prop} (q : P b) : ∃ c, V.bl b = .bl c ∧ P c := ⟨b, rfl, q⟩
theorem x_chain {r r' : R2} {ta tb tc : TE} (q : ta σ H fun x H1 => tb σ H1 fun y H2 => r x y H2 fun z H3 => ∃ k, z = .bl k ∧ (if k = true then tc σ H3 fun w' H4 => r' y w' H4 Q else Q (.bl false) H3)) : tChain r r' ta tb tc σ H Q := q
variable {B : Bool → Hp → Prop}
theorem x_tB {t : TE} (q : t σ H fun x H1 => ∃ c, x = .bl c ∧ B c H1) : tB t σ H B := q
theorem x_test {t : TE} (q : t σ H fun x H1 => ∃ c, x = .bl c ∧ B c H1) : tTest t σ H B := q
theorem x_and {t u : TT} (q : t σ H fun c H1 => if c = true then u σ H1 B else B false H1) : tAnd t u σ H B := q
theorem x_or {t u : TT} (q : t σ H fun c H1 => if c = true then B true H1 else u σ H1 B) : tOr t u σ H B := q
theorem x_not {t : TT} (q : t σ H fun c H1 => B (!c) H1) : tNot t σ H B := q
/-! statements -/
theorem x_seq {t u : TS} (q : t { D with nx := u D } σ H) : tSeq t u D σ H := q
theorem x_cut {t u : TS} (h : ∃ Mid : L2.St → Hp → Prop, t { D with nx := Mid } σ H ∧ ∀ σ' H', Mid σ' H' → u D σ' H') : C8.tCut t u D σ H := h
theorem x_next (q : D.nx σ H) : tNext D σ H := q
theorem x_brk (q : D.bk σ H) : tBreak D σ H := q
theorem x_cont (q : D.ct σ H) : tCont D σ H := q
theorem x_drop {te : TE} (q : te σ H fun _ H1 => D.nx σ H1) : tDrop te D σ H := q
theorem x_ret {te : TE} (q : te σ H D.rt) : tRet te D σ H := q
theorem x_retN (q : D.rt .non H) : tRetN D σ H := q
theorem x_ifS {c : TT} {t u : TS} (q : c σ H fun b H1 => if b = true then t D σ H1 else u D σ H1) : tIfS c t u D σ H := q
theorem x_asg {te : TE} {g : TG} (q : te σ H fun x H1 => g x σ H1 D.nx) : tAsg te g D σ H := q
theorem x_par {i j : Nat} {ta : TA} (q : ta σ H fun vs H1 => ∃ v w, vs = [v, w] ∧ D.nx ((σ.set i (some v)).set j (some w)) H1) : tPar i j ta D σ H := q
theorem x_two {P : V → V → Prop} (h : P v w) : ∃ a b, [v, w] = [a, b] ∧ P a b := ⟨_, _, rfl, h⟩
theorem x_name {Q : L2.St → Hp → Prop} {σ' : L2.St} (e : σ.set i (some v) = σ') (q : Q σ' H) : gName i v σ H Q := by
  subst e
  exact q
/-! known tests -/
theorem y_ite {c : Prop} [Decidable c] {A B : Prop} (h1 : c → A) (h2 : ¬ c → B) : if (decide c) = true then A else B := by
  by_cases h : c
  · rw [decide_eq_true h, if_pos rfl]
    exact h1 h
  · rw [decide_eq_false h, if_neg Bool.false_ne_true]
    exact h2 h
theorem y_iteN {c : Prop} [Decidable c] {A B : Prop} (h1 : ¬ c → A) (h2 : c → B) : if (!decide c) = true then A else B := by
  by_cases h : c
  · rw [decide_eq_true h]
    exact iteF (h2 h)
  · rw [decide_eq_false h]
    exact iteT (h1 h)
theorem y_iteb {b : Bool} {A B : Prop} (h1 : b = true → A) (h2 : b = false → B) : if b = true then A else B := by
  cases b with
  | true => exact iteT (h1 rfl)
  | false => exact iteF (h2 rfl)
theorem y_yes {c : Prop} [Decidable c] {A B : Prop} (h : c) (q : A) : if (decide c) = true then A else B := by
  rw [decide_eq_true h]
  exact iteT q
theorem y_no {c : Prop} [Decidable c] {A B : Prop} (h : ¬ c) (q : B) : if (decide c) = true then A else B := by
  rw [decide_eq_false h]
  exact iteF q
theorem y_yesV {x : V} {A B : Prop} (q : A) : if (decide (x = x)) = true then A else B := y_yes rfl q
theorem y_noV {x y : V} {A B : Prop} (h : ¬ x = y) (q : B) : if (decide (x = y)) = true then A else B := y_no h q
theorem y_yesN {c : Prop} [Decidable c] {A B : Prop} (h : ¬ c) (q : A) : if (!decide c) = true then A else B := by
  rw [decide_eq_false h]
  exact iteT q
theorem y_noN {c : Prop} [Decidable c] {A B : Prop} (h : c) (q : B) : if (!decide c) = true then A else B := by
  rw [decide_eq_true h]
  exact iteF q
theorem y_ff {A B : Prop} (q : B) : if (false || false) = true then A else B := iteF q
theorem y_tx {b : Bool} {A B : Prop} (q : A) : if (true || b) = true then A else B := iteT q
theorem y_ft {A B : Prop} (q : A) : if (false || true) = true then A else B := iteT q
theorem y_nt {A B : Prop} (q : B) : if (!true) = true then A else B := iteF q
theorem y_nf {A B : Prop} (q : A) : if (!false) = true then A else B := iteT q
theorem y_dyes {b : Bool} {A B : Prop} (q : A) : if (decide (b = b)) = true then A else B := y_yes rfl q
theorem y_dno {b : Bool} {A B : Prop} (q : B) : if (!decide (b = b)) = true then A else B := y_noN rfl q
end

/-! ### smart operators: the reading is reckoned from the values -/
def sI (g : Int → Int → V) (C : Int → Int → Prop) : R2 := fun x y H Q => match x, y with
  | .int i, .int j => C i j ∧ Q (g i j) H
  | _, _ => False
def sI0 (g : Int → Int → V) : R2 := fun x y H Q => match x, y with
  | .int i, .int j => Q (g i j) H
  | _, _ => False
theorem opr_imp {X : Cx} {f : Value → Value → Sem Value} {r r' : R2} (h : OpR X f r) (i : ∀ x y H Q, r' x y H Q → r x y H Q) : OpR X f r' :=
  fun pins s σ H x y u v Q I rx ry q => h pins s σ H x y u v Q I rx ry (i _ _ _ _ q)
theorem opr_or {X : Cx} {f : Value → Value → Sem Value} {r1 r2 r' : R2} (h1 : OpR X f r1) (h2 : OpR X f r2) (i : ∀ x y H Q, r' x y H Q → r1 x y H Q ∨ r2 x y H Q) : OpR X f r' :=
  fun pins s σ H x y u v Q I rx ry q => (i _ _ _ _ q).elim (fun q => h1 pins s σ H x y u v Q I rx ry q) (fun q => h2 pins s σ H x y u v Q I rx ry q)
def sAdd (K : PySem.W.Frag) : R2 := fun x y H Q => match x, y with
  | .int i, .int j => Q (.int (i + j)) H
  | .str a, .str b => a.length + b.length ≤ sizeLine ∧ Q (.str (a ++ b)) H
  | .ref a, .ref b => (∃ xs zs, H a = some (.lst xs) ∧ H b = some (.lst zs) ∧ xs.length + zs.length ≤ sizeLine ∧ ∀ p, H p = none → Q (.ref p) (upd H p (.lst (xs ++ zs)))) ∨ rCat3 K (.ref a) (.ref b) H Q
  | _, _ => False
theorem op_sAdd {X : Cx} : OpR X (binaryOp .Add) (sAdd X.K) := by
  refine opr_or (opr_or op_add op_add_str (r' := fun x y H Q => _ ∨ _) fun _ _ _ _ q => q) (opr_or op_cat op_cat3 (r' := fun x y H Q => _ ∨ _) fun _ _ _ _ q => q) fun x y H Q q => ?_
  cases x <;> cases y <;> first | exact False.elim q | skip
  · exact .inl (.inl ⟨_, _, rfl, rfl, q⟩)
  · exact .inl (.inr ⟨_, _, rfl, rfl, q⟩)
  · rcases q with ⟨xs, zs, h1, h2, h3, h4⟩ | q
    · exact .inr (.inl ⟨_, _, xs, zs, rfl, rfl, h1, h2, h3, h4⟩)
    · exact .inr (.inr q)
def sSub : R2 := sI0 fun i j => .int (i - j)
theorem op_sSub {X : Cx} : OpR X (binaryOp .Sub) sSub := opr_imp op_sub fun x y H Q q => by
  cases x <;> cases y <;> first | exact False.elim q | exact ⟨_, _, rfl, rfl, q⟩
def sMod : R2 := sI (fun i j => .int (i % j)) fun _ j => 0 < j
theorem op_sMod {X : Cx} : OpR X (binaryOp .Mod) sMod := opr_imp op_mod fun x y H Q q => by
  cases x <;> cases y <;> first | exact False.elim q | exact ⟨_, _, rfl, rfl, q.1, q.2⟩
def sDiv : R2 := sI (fun i j => .int (i / j)) fun _ j => 0 < j ∧ j < 2 ^ 200
theorem op_sDiv {X : Cx} : OpR X (binaryOp .FloorDiv) sDiv := opr_imp op_fdivW fun x y H Q q => by
  cases x <;> cases y <;> first | exact False.elim q | exact ⟨_, _, rfl, rfl, wide_div q.1.1 (b := 200) (by have := q.1; omega) (by decide) (by decide), q.2⟩
def sMul (K : PySem.W.Frag) : R2 := fun x y H Q => match x, y with
  | .int i, .int j => ((-(2 ^ 64) < i ∧ i < 2 ^ 64) ∨ (-(2 ^ 64) < j ∧ j < 2 ^ 64) ∨ (i.natAbs < 2 ^ 400000 ∧ j.natAbs < 2 ^ 400000)) ∧ Q (.int (i * j)) H
  | .ref l, .int k => rRep (.ref l) (.int k) H Q ∨ rMulT K (.ref l) (.int k) H Q
  | _, _ => False
theorem op_sMul {X : Cx} : OpR X (binaryOp .Mult) (sMul X.K) := by
  refine opr_or (opr_or op_mul op_mulW (r' := fun x y H Q => _ ∨ _) fun _ _ _ _ q => q) (opr_or op_rep op_mulT (r' := fun x y H Q => _ ∨ _) fun _ _ _ _ q => q) fun x y H Q q => ?_
  cases x <;> cases y <;> first | exact False.elim q | skip
  · obtain ⟨c, q⟩ := q
    rcases c with c | c | c
    · exact .inl (.inl ⟨_, _, rfl, rfl, .inl c, q⟩)
    · exact .inl (.inl ⟨_, _, rfl, rfl, .inr c, q⟩)
    · exact .inl (.inr ⟨_, _, rfl, rfl, wide_mul c.1 c.2 (by decide) (by decide) (by decide), q⟩)
  · exact .inr q
def sPow : R2 := sI (fun i j => .int (i ^ j.toNat)) fun i j => 0 ≤ j ∧ j ≤ 1000000 ∧ i.natAbs < 2 ^ 64
theorem op_sPow {X : Cx} : OpR X (binaryOp .Pow) sPow := opr_imp op_pow fun x y H Q q => by
  cases x <;> cases y <;> first | exact False.elim q | exact ⟨_, _, rfl, rfl, q.1, q.2⟩
def Sq (K : PySem.W.Frag) (H : Hp) (p : Addr) (xs : List V) : Prop := SqL K H p xs ∨ SqT K H p xs
theorem sq_l {K : PySem.W.Frag} {H : Hp} {p : Addr} {xs : List V} (h : SqL K H p xs) : Sq K H p xs := .inl h
theorem sq_t {K : PySem.W.Frag} {H : Hp} {p : Addr} {xs : List V} (h : SqT K H p xs) : Sq K H p xs := .inr h
theorem Sq.ex {K : PySem.W.Frag} {H H' : Hp} {a : Addr} {xs : List V} (e : Ex H H') (h : Sq K H a xs) : Sq K H' a xs := h.imp (sq_ex e) (st_ex e)
/-! comparisons -/
def sCmp (p : Int → Int → Bool) : R2 := fun x y H Q => match x, y with
  | .int i, .int j => Q (.bl (p i j)) H
  | _, _ => False
theorem opr_cmp {X : Cx} {f : Value → Value → Sem Value} {p : Int → Int → Bool} (h : OpR X f (rI0 fun i j => .bl (p i j))) : OpR X f (sCmp p) := opr_imp h fun x y H Q q => by
  cases x <;> cases y <;> first | exact False.elim q | exact ⟨_, _, rfl, rfl, q⟩
def sLt : R2 := sCmp fun i j => decide (i < j)
def sLe : R2 := sCmp fun i j => decide (i ≤ j)
def sGt : R2 := sCmp fun i j => decide (j < i)
def sGe : R2 := sCmp fun i j => decide (j ≤ i)
theorem op_sLt {X : Cx} : OpR X (compareOp .Lt) sLt := opr_cmp op_lt
theorem op_sLe {X : Cx} : OpR X (compareOp .LtE) sLe := opr_cmp op_le
theorem op_sGt {X : Cx} : OpR X (compareOp .Gt) sGt := opr_cmp op_gt
theorem op_sGe {X : Cx} : OpR X (compareOp .GtE) sGe := opr_cmp op_ge
def sEq (K : PySem.W.Frag) : R2 := fun x y H Q => match x, y with
  | .int i, .int j => Q (.bl (decide (i = j))) H
  | .str a, .str b => Q (.bl (decide (a = b))) H
  | .bl a, .bl b => Q (.bl (decide (a = b))) H
  | .ref a, .ref b => rEqD K (.ref a) (.ref b) H Q
  | x, y => rEqD K x y H Q
def sNe (K : PySem.W.Frag) : R2 := fun x y H Q => match x, y with
  | .int i, .int j => Q (.bl (!decide (i = j))) H
  | .str a, .str b => Q (.bl (!decide (a = b))) H
  | .bl a, .bl b => Q (.bl (!decide (a = b))) H
  | .ref a, .ref b => rNeD K (.ref a) (.ref b) H Q
  | x, y => rNeD K x y H Q
theorem dec_i {i j : Int} : decide (V.int i = V.int j) = decide (i = j) := by
  rw [Bool.eq_iff_iff]
  simp
theorem dec_s {i j : Str} : decide (V.str i = V.str j) = decide (i = j) := by
  rw [Bool.eq_iff_iff]
  simp
theorem dec_b {i j : Bool} : decide (V.bl i = V.bl j) = decide (i = j) := by
  rw [Bool.eq_iff_iff]
  simp
theorem op_sEq {X : Cx} (hu : X.A.units + 64 < cLine) : OpR X (compareOp .Eq) (sEq X.K) := opr_or op_eq (op_eqD hu) fun x y H Q q => by
  unfold sEq at q
  split at q
  · exact .inl ⟨rfl, by rw [dec_i]; exact q⟩
  · exact .inl ⟨rfl, by rw [dec_s]; exact q⟩
  · exact .inl ⟨rfl, by rw [dec_b]; exact q⟩
  · exact .inr q
  · exact .inr q
theorem op_sNe {X : Cx} (hu : X.A.units + 64 < cLine) : OpR X (compareOp .NotEq) (sNe X.K) := opr_or op_ne (op_neD hu) fun x y H Q q => by
  unfold sNe at q
  split at q
  · exact .inl ⟨rfl, by rw [dec_i]; exact q⟩
  · exact .inl ⟨rfl, by rw [dec_s]; exact q⟩
  · exact .inl ⟨rfl, by rw [dec_b]; exact q⟩
  · exact .inr q
  · exact .inr q
/-- in: one sign in a text; a flat thing in a list or a tuple -/
def sIn (K : PySem.W.Frag) : R2 := fun x y H Q => match x, y with
  | .str a, .str z => ∃ c, a = ⟨#[c]⟩ ∧ Q (.bl (decide (c ∈ z.cps.toList))) H
  | x, .ref p => ∃ xs, Sq K H p xs ∧ flatV x = true ∧ xs.all flatV = true ∧ Q (.bl (inV x xs)) H
  | _, _ => False
def sNotIn (K : PySem.W.Frag) : R2 := fun x y H Q => match x, y with
  | .str a, .str z => ∃ c, a = ⟨#[c]⟩ ∧ Q (.bl (!decide (c ∈ z.cps.toList))) H
  | x, .ref p => ∃ xs, Sq K H p xs ∧ flatV x = true ∧ xs.all flatV = true ∧ Q (.bl (!inV x xs)) H
  | _, _ => False
theorem op_sIn {X : Cx} : OpR X (compareOp .In) (sIn X.K) := opr_or op_in_sign op_in_seq fun x y H Q q => by
  unfold sIn at q
  split at q
  · obtain ⟨c, rfl, q⟩ := q
    exact .inl ⟨c, _, rfl, rfl, q⟩
  · obtain ⟨xs, h1, h2, h3, q⟩ := q
    exact .inr ⟨_, xs, rfl, h1, h2, h3, q⟩
  · exact q.elim
theorem op_sNotIn {X : Cx} : OpR X (compareOp .NotIn) (sNotIn X.K) := opr_or op_notIn_sign op_notIn_seq fun x y H Q q => by
  unfold sNotIn at q
  split at q
  · obtain ⟨c, rfl, q⟩ := q
    exact .inl ⟨c, _, rfl, rfl, q⟩
  · obtain ⟨xs, h1, h2, h3, q⟩ := q
    exact .inr ⟨_, xs, rfl, h1, h2, h3, q⟩
  · exact q.elim
def sIs : R2 := fun x y H Q => y = .non ∧ Q (.bl (decide (x = .non))) H
def sIsNot : R2 := fun x y H Q => y = .non ∧ Q (.bl (!decide (x = .non))) H
theorem op_sIs {X : Cx} : OpR X (compareOp .Is) sIs := op_isN
theorem op_sIsNot {X : Cx} : OpR X (compareOp .IsNot) sIsNot := op_notN
/-- xs[i], t[i], s[i] -/
def sIx (K : PySem.W.Frag) : R2 := fun x y H Q => match x, y with
  | .ref p, .int i => ∃ xs v, Sq K H p xs ∧ atI xs i = some v ∧ Q v H
  | .str z, .int i => ∃ c, z.length ≤ sizeLine ∧ atI z.cps.toList i = some c ∧ Q (.str ⟨#[c]⟩) H
  | _, _ => False
theorem ix_s {X : Cx} : IxR X (sIx X.K) := fun a b pins s σ H x y v u Q I rx ry q hs => by
  refine ix_seq a b pins s σ H x y v u Q I rx ry ?_ hs
  unfold sIx at q
  split at q
  · obtain ⟨xs, v, h, h2, q⟩ := q
    rcases h with h | h
    · exact .inl ⟨_, xs, _, v, rfl, rfl, h, h2, q⟩
    · exact .inr (.inl ⟨_, xs, _, v, rfl, rfl, h, h2, q⟩)
  · obtain ⟨c, h, h2, q⟩ := q
    exact .inr (.inr ⟨_, _, c, rfl, rfl, h, h2, q⟩)
  · exact q.elim
/-! built-ins -/
def sLen (K : PySem.W.Frag) : List V → Hp → VK → Prop := fun vs H Q => match vs with
  | [.str z] => z.length ≤ sizeLine ∧ Q (.int z.length) H
  | [.ref p] => ∃ xs, Sq K H p xs ∧ Q (.int xs.length) H
  | _ => False
theorem call_imp {X : Cx} {f : Value} {r r' : List V → Hp → VK → Prop} (h : CallR X f r) (i : ∀ vs H Q, r' vs H Q → r vs H Q) : CallR X f r' :=
  fun pins s σ H xs us Q I rx q => h pins s σ H xs us Q I rx (i _ _ _ q)
theorem call_or {X : Cx} {f : Value} {r1 r2 r' : List V → Hp → VK → Prop} (h1 : CallR X f r1) (h2 : CallR X f r2) (i : ∀ vs H Q, r' vs H Q → r1 vs H Q ∨ r2 vs H Q) : CallR X f r' :=
  fun pins s σ H xs us Q I rx q => (i _ _ _ q).elim (fun q => h1 pins s σ H xs us Q I rx q) (fun q => h2 pins s σ H xs us Q I rx q)
theorem call_sLen {X : Cx} : CallR X (.builtin "len") (sLen X.K) := call_or call_len_str call_len_seq fun vs H Q q => by
  unfold sLen at q
  split at q
  · exact .inl ⟨_, rfl, q.1, q.2⟩
  · obtain ⟨xs, h, q⟩ := q
    exact .inr ⟨_, xs, rfl, h, q⟩
  · exact q.elim
def sList (K : PySem.W.Frag) : List V → Hp → VK → Prop := fun vs H Q => match vs with
  | [.ref p] => ∃ xs, Sq K H p xs ∧ ∀ l, H l = none → Q (.ref l) (upd H l (.lst xs))
  | _ => False
theorem call_sList {X : Cx} : CallR X (.type "list") (sList X.K) := call_imp call_list_of fun vs H Q q => by
  unfold sList at q
  split at q
  · obtain ⟨xs, h, q⟩ := q
    exact ⟨_, xs, rfl, h, q⟩
  · exact q.elim
def sTuple (K : PySem.W.Frag) : List V → Hp → VK → Prop := fun vs H Q => match vs with
  | [.ref p] => ∃ xs, (SqL K H p xs ∧ ∀ l, H l = none → Q (.ref l) (upd H l (.tup xs))) ∨ (SqT K H p xs ∧ Q (.ref p) H)
  | _ => False
theorem call_sTuple {X : Cx} : CallR X (.type "tuple") (sTuple X.K) := call_imp call_tuple_of fun vs H Q q => by
  unfold sTuple at q
  split at q
  · obtain ⟨xs, h⟩ := q
    exact ⟨_, xs, rfl, h⟩
  · exact q.elim
def sAll (K : PySem.W.Frag) : List V → Hp → VK → Prop := fun vs H Q => ∃ (a : Addr) (bs : List Bool), vs = [V.ref a] ∧ SqL K H a (bs.map V.bl) ∧ Q (.bl (bs.all id)) H
theorem call_sAll {X : Cx} (hc : X.calm = true) : CallR X (.builtin "all") (sAll X.K) := cr_all hc
def sSum (K : PySem.W.Frag) : List V → Hp → VK → Prop := fun vs H Q => ∃ (a : Addr) (ns : List Int), vs = [V.ref a] ∧ SqL K H a (ns.map V.int) ∧ Q (.int ns.sum) H
theorem call_sSum {X : Cx} (hc : X.calm = true) : CallR X (.builtin "sum") (sSum X.K) := cr_sum hc
/-! slices -/
def sSl (K : PySem.W.Frag) : V → Option Int → Option Int → Hp → VK → Prop := fun x lo hi H Q => match x with
  | .ref a => (∃ xs, SqL K H a xs ∧ ∀ p, H p = none → Q (.ref p) (upd H p (.lst (cutV xs lo hi)))) ∨ rSlA K (.ref a) lo hi H Q
  | .str z => z.length ≤ sizeLine ∧ Q (.str (Txt.slice z lo hi)) H
  | _ => False
theorem sl_s {X : Cx} : SlR X (sSl X.K) := fun pins s σ H x v vl vu lo hi sl Q I rx hs pl pu q => by
  unfold sSl at q
  split at q
  · rcases q with ⟨xs, h, q⟩ | q
    · exact sl_list pins s σ H _ v vl vu lo hi sl Q I rx hs pl pu ⟨_, xs, rfl, h, q⟩
    · exact sl_tupA pins s σ H _ v vl vu lo hi sl Q I rx hs pl pu q
  · exact C8.sl_txt pins s σ H _ v vl vu lo hi sl Q I rx hs pl pu ⟨_, rfl, q.1, q.2⟩
  · exact q.elim

/-! ### what the operators give, by heads -/
section
variable {H : Hp} {Q : VK} {K : PySem.W.Frag} {i j : Int} {a b : Str} {p q : Addr} {xs zs : List V} {v : V}
theorem z_addI (h : Q (.int (i + j)) H) : sAdd K (.int i) (.int j) H Q := h
theorem z_addS (h1 : a.length + b.length ≤ sizeLine) (h : Q (.str (a ++ b)) H) : sAdd K (.str a) (.str b) H Q := ⟨h1, h⟩
theorem z_addL (h1 : H p = some (.lst xs)) (h2 : H q = some (.lst zs)) (h3 : xs.length + zs.length ≤ sizeLine) (h : ∀ r, H r = none → Q (.ref r) (upd H r (.lst (xs ++ zs)))) : sAdd K (.ref p) (.ref q) H Q := .inl ⟨xs, zs, h1, h2, h3, h⟩
theorem z_sub (h : Q (.int (i - j)) H) : sSub (.int i) (.int j) H Q := h
theorem z_neg {f : Int → V} (h : Q (f i) H) : rU f (.int i) H Q := ⟨i, rfl, h⟩
theorem z_mod (h1 : 0 < j) (h : Q (.int (i % j)) H) : sMod (.int i) (.int j) H Q := ⟨h1, h⟩
theorem z_div (h1 : 0 < j) (h2 : j < 2 ^ 200) (h : Q (.int (i / j)) H) : sDiv (.int i) (.int j) H Q := ⟨⟨h1, h2⟩, h⟩
theorem z_mulL (h1 : -(2 ^ 64) < i ∧ i < 2 ^ 64) (h : Q (.int (i * j)) H) : sMul K (.int i) (.int j) H Q := ⟨.inl h1, h⟩
theorem z_mulR (h1 : -(2 ^ 64) < j ∧ j < 2 ^ 64) (h : Q (.int (i * j)) H) : sMul K (.int i) (.int j) H Q := ⟨.inr (.inl h1), h⟩
theorem z_mulW (h1 : i.natAbs < 2 ^ 400000) (h2 : j.natAbs < 2 ^ 400000) (h : Q (.int (i * j)) H) : sMul K (.int i) (.int j) H Q := ⟨.inr (.inr ⟨h1, h2⟩), h⟩
/-- a list, a tuple times n -/
theorem z_mulLst (h1 : H p = some (.lst xs)) (h2 : 0 ≤ i ∧ i < 2 ^ 62) (h3 : xs.length * i.toNat ≤ 1000000) (h : ∀ r, H r = none → Q (.ref r) (upd H r (.lst (List.replicate i.toNat xs).flatten))) : sMul K (.ref p) (.int i) H Q := .inl ⟨p, i, xs, rfl, rfl, h1, by omega, by omega, sz_of h3, h⟩
theorem z_mulTup (h1 : SqT K H p xs) (h0 : xs ≠ []) (h2 : 0 ≤ i ∧ i ≤ 1000) (h3 : xs.length ≤ 1000) (h4 : i = 1 → Q (.ref p) H) (h5 : i ≠ 1 → ∀ r, H r = none → Q (.ref r) (upd H r (.tup (List.replicate i.toNat xs).flatten))) : sMul K (.ref p) (.int i) H Q := .inr ⟨p, i, xs, rfl, rfl, h1, h0, h2.1, h2.2, h3, h4, h5⟩
/-- a tuple and a tuple -/
theorem z_addT (h1 : SqT K H p xs) (h2 : SqT K H q zs) (h3 : xs.length + zs.length ≤ 1000000) (k0 : xs = [] → Q (.ref q) H) (k1 : xs ≠ [] → zs = [] → Q (.ref p) H) (k2 : xs ≠ [] → zs ≠ [] → ∀ r, H r = none → Q (.ref r) (upd H r (.tup (xs ++ zs)))) : sAdd K (.ref p) (.ref q) H Q := .inr ⟨p, q, xs, zs, rfl, rfl, h1, h2, sz_of h3, k0, k1, k2⟩
theorem z_pow (h1 : 0 ≤ j ∧ j ≤ 1000000 ∧ i.natAbs < 2 ^ 64) (h : Q (.int (i ^ j.toNat)) H) : sPow (.int i) (.int j) H Q := ⟨h1, h⟩
theorem z_lt (h : Q (.bl (decide (i < j))) H) : sLt (.int i) (.int j) H Q := h
theorem z_le (h : Q (.bl (decide (i ≤ j))) H) : sLe (.int i) (.int j) H Q := h
theorem z_gt (h : Q (.bl (decide (j < i))) H) : sGt (.int i) (.int j) H Q := h
theorem z_ge (h : Q (.bl (decide (j ≤ i))) H) : sGe (.int i) (.int j) H Q := h
theorem z_eqI (h : Q (.bl (decide (i = j))) H) : sEq K (.int i) (.int j) H Q := h
theorem z_eqS (h : Q (.bl (decide (a = b))) H) : sEq K (.str a) (.str b) H Q := h
theorem z_eqB {a b : Bool} (h : Q (.bl (decide (a = b))) H) : sEq K (.bl a) (.bl b) H Q := h
theorem z_neI (h : Q (.bl (!decide (i = j))) H) : sNe K (.int i) (.int j) H Q := h
theorem z_neS (h : Q (.bl (!decide (a = b))) H) : sNe K (.str a) (.str b) H Q := h
theorem z_neB {a b : Bool} (h : Q (.bl (!decide (a = b))) H) : sNe K (.bl a) (.bl b) H Q := h
theorem z_eqR (h : rEqD K (.ref p) (.ref q) H Q) : sEq K (.ref p) (.ref q) H Q := h
theorem z_neR (h : rNeD K (.ref p) (.ref q) H Q) : sNe K (.ref p) (.ref q) H Q := h
theorem z_inS {c : Nat} {z : Str} (h : Q (.bl (decide (c ∈ z.cps.toList))) H) : sIn K (.str ⟨#[c]⟩) (.str z) H Q := ⟨c, rfl, h⟩
theorem z_inI (h1 : Sq K H p xs) (h2 : xs.all flatV = true) (h : Q (.bl (inV (.int i) xs)) H) : sIn K (.int i) (.ref p) H Q := ⟨xs, h1, rfl, h2, h⟩
theorem z_ninI (h1 : Sq K H p xs) (h2 : xs.all flatV = true) (h : Q (.bl (!inV (.int i) xs)) H) : sNotIn K (.int i) (.ref p) H Q := ⟨xs, h1, rfl, h2, h⟩
theorem z_ninS {c : Nat} {z : Str} (h : Q (.bl (!decide (c ∈ z.cps.toList))) H) : sNotIn K (.str ⟨#[c]⟩) (.str z) H Q := ⟨c, rfl, h⟩
theorem z_is (h : Q (.bl (decide (v = .non))) H) : sIs v .non H Q := ⟨rfl, h⟩
theorem z_isnot (h : Q (.bl (!decide (v = .non))) H) : sIsNot v .non H Q := ⟨rfl, h⟩
theorem z_ix (h1 : Sq K H p xs) (h2 : atI xs i = some v) (h : Q v H) : sIx K (.ref p) (.int i) H Q := ⟨xs, v, h1, h2, h⟩
theorem z_ixS {c : Nat} (h1 : a.length ≤ sizeLine) (h2 : atI a.cps.toList i = some c) (h : Q (.str ⟨#[c]⟩) H) : sIx K (.str a) (.int i) H Q := ⟨c, h1, h2, h⟩
theorem z_lenS (h1 : a.length ≤ sizeLine) (h : Q (.int a.length) H) : sLen K [.str a] H Q := ⟨h1, h⟩
theorem z_len (h1 : Sq K H p xs) (h : Q (.int xs.length) H) : sLen K [.ref p] H Q := ⟨xs, h1, h⟩
theorem z_list (h1 : Sq K H p xs) (h : ∀ l, H l = none → Q (.ref l) (upd H l (.lst xs))) : sList K [.ref p] H Q := ⟨xs, h1, h⟩
theorem z_tupL (h1 : SqL K H p xs) (h : ∀ l, H l = none → Q (.ref l) (upd H l (.tup xs))) : sTuple K [.ref p] H Q := ⟨xs, .inl ⟨h1, h⟩⟩
theorem z_tupT (h1 : SqT K H p xs) (h : Q (.ref p) H) : sTuple K [.ref p] H Q := ⟨xs, .inr ⟨h1, h⟩⟩
theorem z_slL {lo hi : Option Int} (h1 : SqL K H p xs) (h : ∀ r, H r = none → Q (.ref r) (upd H r (.lst (cutV xs lo hi)))) : sSl K (.ref p) lo hi H Q := .inl ⟨xs, h1, h⟩
theorem z_slS {lo hi : Option Int} (h1 : a.length ≤ sizeLine) (h : Q (.str (Txt.slice a lo hi)) H) : sSl K (.str a) lo hi H Q := ⟨h1, h⟩
theorem z_all {bs : List Bool} (h1 : SqL K H p (bs.map V.bl)) (h : Q (.bl (bs.all id)) H) : sAll K [.ref p] H Q := ⟨p, bs, rfl, h1, h⟩
theorem z_sum {ns : List Int} (h1 : SqL K H p (ns.map V.int)) (h : Q (.int ns.sum) H) : sSum K [.ref p] H Q := ⟨p, ns, rfl, h1, h⟩
/-! pieces of a slice -/
theorem x_nopart {σ : L2.St} {Q : Option Int → Hp → Prop} (h : Q none H) : tNoPart σ H Q := h
theorem x_part {σ : L2.St} {t : TE} {Q : Option Int → Hp → Prop} (h : t σ H fun x H1 => ∃ i, x = .int i ∧ Q (some i) H1) : tPart t σ H Q := h
theorem x_int {P : Int → Prop} (h : P i) : ∃ j, V.int i = .int j ∧ P j := ⟨i, rfl, h⟩
theorem x_sl {σ : L2.St} {r : V → Option Int → Option Int → Hp → VK → Prop} {te : TE} {tl th : TO} (h : te σ H fun x H1 => tl σ H1 fun l H2 => th σ H2 fun u H3 => r x l u H3 Q) : tSl r te tl th σ H Q := h
/-! methods of built-ins -/
theorem x_bm {σ : L2.St} {T : String} {r : V → List V → Hp → VK → Prop} {to : TE} {t : TA} (h : to σ H fun x H1 => tyV K T x H1 ∧ t σ H1 fun xs H2 => r x xs H2 Q) : tBM K T r to t σ H Q := h
theorem x_bm0 {σ : L2.St} {T : String} {r : V → List V → Hp → VK → Prop} {to : TE} (h : to σ H fun x H1 => tyV K T x H1 ∧ r x [] H1 Q) : tBM0 K T r to σ H Q := h
theorem ty_list (h : H p = some (.lst xs)) : tyV K "list" (.ref p) H := .inl ⟨rfl, _, .inl (.inl h)⟩
theorem z_append (h : H p = some (.lst xs)) (hz : xs.length < 1000000) (k : Q .non (upd H p (.lst (xs ++ [v])))) : rAppend (.ref p) [v] H Q := ⟨p, xs, v, rfl, rfl, h, sz_lt hz, k⟩
/-! items stored -/
theorem x_sub {σ : L2.St} {to ti : TE} {t : TSet} {Q : L2.St → Hp → Prop} (h : to σ H fun o H1 => ti σ H1 fun i H2 => t o i v H2 fun H3 => Q σ H3) : gSub to ti t v σ H Q := h
theorem z_setL {j : Nat} {Q : Hp → Prop} (h : H p = some (.lst xs)) (hj : ixN xs.length i = some j) (k : Q (upd H p (.lst (xs.set j v)))) : rSetL (.ref p) (.int i) v H Q := ⟨p, xs, i, j, rfl, rfl, h, hj, k⟩
theorem x_gtup {σ : L2.St} {n : Nat} {t : TGs} {Q : L2.St → Hp → Prop} (h1 : SqT K H p xs) (h2 : xs.length = n) (h : t xs σ H Q) : gTup K n t (.ref p) σ H Q := ⟨p, xs, rfl, h1, h2, h⟩
theorem x_gnil {σ : L2.St} {Q : L2.St → Hp → Prop} (h : Q σ H) : gNil [] σ H Q := ⟨rfl, h⟩
theorem x_gcons {σ : L2.St} {vs : List V} {t : TG} {u : TGs} {Q : L2.St → Hp → Prop} (h : t v σ H fun σ' H' => u vs σ' H' Q) : gCons t u (v :: vs) σ H Q := ⟨v, vs, rfl, h⟩
/-! loops -/
theorem x_for {σ : L2.St} {wi : TI} {g : TG} {tb : TS} {D : Ends} (h : wi σ H fun J H1 => ∃ W : Nat → Nat → L2.St → Hp → Prop, (∃ m, W 0 m σ H1) ∧ ∀ i m σ H, W i m σ H →
    (J.stop i H ∧ D.nx σ H) ∨ (J.go i H ∧ ∃ N : L2.St → Hp → Prop, (∀ σ' H', N σ' H' → ∃ m', m' < m ∧ W (i + 1) m' σ' H') ∧ ∀ x H', J.yld i H x H' → g x σ H' fun σ2 H2 => tb { D with nx := N, ct := N, bk := D.nx } σ2 H2)) : tFor wi g tb D σ H := h
theorem x_forL {σ : L2.St} {tl : TE} {g : TG} {tb : TS} {D : Ends} {R : It → Hp → Prop} (h : tl σ H fun x H1 => ∃ a, x = .ref a ∧ (∃ xs, SqL K H1 a xs) ∧ R (Itl K a) H1) : iList K tl σ H R := h
end
end R

/-! # U2: defs of the text as bundles, calls, passing of errors -/
namespace R
open PySem PySem.Spec PyProof.Rows L2
/-- a def of the text as it stands behind the top -/
structure DF (K : PySem.W.Frag) (mg : Str → Option Value) (x : Str) (st : Stmt) (ps : List Str) where
  f : Addr
  fd : FuncData
  F : Fun K x x st f fd
  g : mg x = some (.ref f)
  b : Binds K fd ps []
section
variable {P : Program} {w : World} {K : PySem.W.Frag} {mg : Str → Option Value} {base : Heap}
/-- what a def at f promises -/
abbrev Ok (P : Program) (w : World) (K : PySem.W.Frag) (mg : Str → Option Value) (base : Heap) (k : Nat) {x : Str} {st : Stmt} {ps : List Str} (d : DF K mg x st ps) (sp : Sp) : Prop := FnOk P w K mg base (L2.CX P w) k d.f d.fd ps sp
theorem ok_of {x : Str} {st : Stmt} {ps N : List Str} {k : Nat} {sp : Sp} (d : DF K mg x st ps) (S : FnScope N ps (defScope st)) (len : ∀ vs H Q E, sp vs H Q E → vs.length = ps.length)
    (hbody : ∀ (cdv : Value) (A : Around) (outer : List Env) (s : Shared) (H : Hp) (vs : List V) (Q : VK) (E : XK), Room k (A.deeper (envOfC x (defScope st) s.heap.objs.size d.f cdv)) → sp vs H Q E →
      ∃ t, PSs (cxOf (L2.CX P w) P w K mg base N x (defScope st) d.f cdv A outer s H E) (defBody st) t ∧ t { nx := fun _ H' => Q .non H', rt := Q } (L2.start N vs) H) : Ok P w K mg base (k + 1) d sp := d.F.okX S len hbody
variable {A : Around} {outer : List Env} {s : Shared} {H : Hp} {E : XK} {N : List Str} {q : Str} {sc : Scope} {f : Addr} {cdv : Value}
/-- an error of a callee leaves the def -/
theorem passE : Passes (L2.CX P w) (cxOf (L2.CX P w) P w K mg base N q sc f cdv A outer s H E) E := passes_call (W := fun cls d _ H => E cls d H) (takes_of rfl rfl rfl rfl) (fun _ _ _ _ h => h)
theorem ownE : PassesOwn (model P w) (A.deeper (envOfC q sc s.heap.objs.size f cdv)) (envOfC q sc s.heap.objs.size f cdv) (cxOf (L2.CX P w) P w K mg base N q sc f cdv A outer s H E).xe := passes_of rfl
end
section
variable {X : Cx} {x : Str} {st : Stmt} {ps : List Str} {k : Nat} {sp : Sp} {E : XK} {p pos : Pos} {e : Expr} {es : List Expr} {t : TA}
theorem pcall (d : DF X.K X.mg x st ps) (G : Ok X.prog X.w X.K X.mg X.base k d sp) (hr : Room k X.A) (hx : Passes (L2.CX X.prog X.w) X E) (ha : PA X (e :: es) t) (hg : Gl X x := by rfl) (hdb : (x == ("__debug__" : Str)) = false := by decide)
    (he : starEach (e :: es) X.env = (false, eval e X.env) :: starEach es X.env := by rfl) (hpl : (backTo pos (starEach es X.env)).any (·.1) = false := by rfl) : PE X (.Call (.Name x p) (e :: es) [] pos) (tCall sp [] E t) :=
  pe_call G hr hg d.g d.F.kp d.b .nil hx ha hdb he hpl
theorem pcall0 (d : DF X.K X.mg x st ps) (G : Ok X.prog X.w X.K X.mg X.base k d sp) (hr : Room k X.A) (hx : Passes (L2.CX X.prog X.w) X E) (hg : Gl X x := by rfl) (hdb : (x == ("__debug__" : Str)) = false := by decide) : PE X (.Call (.Name x p) [] [] pos) (tCall sp [] E tNil) :=
  pe_call0 G hr hg d.g d.F.kp d.b .nil hx hdb
theorem x_call {σ : L2.St} {H : Hp} {Q : VK} {t : TA} (h : t σ H fun vs H1 => sp vs H1 Q E) : tCall sp [] E t σ H Q := by
  have e : (fun vs H1 => sp (vs ++ []) H1 Q E) = (fun vs H1 => sp vs H1 Q E) := by
    funext vs H1
    rw [List.append_nil]
  show t σ H (fun vs H1 => sp (vs ++ []) H1 Q E)
  rw [e]
  exact h
theorem go {t : TS} {D : Ends} {N : List Str} {vs : List V} {H : Hp} (σ : L2.St) (e : L2.start N vs = σ) (h : t D σ H) : t D (L2.start N vs) H := by
  rw [e]
  exact h
/-- a global that is a constant -/
def GV (mg : Str → Option Value) (x : Str) (v : V) : Prop := ∃ u, mg x = some u ∧ RelV v u
theorem pglob {v : V} (h : GV X.mg x v) (hg : Gl X x) (hd : (x == ("__debug__" : Str)) = false := by decide) : PE X (.Name x pos) (tC v) := by
  obtain ⟨u, h1, h2⟩ := h
  exact pe_glob hg h1 h2 hd
/-! what a for walks: a list, a tuple, a text -/
def rS (K : PySem.W.Frag) : V → Hp → (It → Hp → Prop) → Prop := fun x H R => match x with
  | .ref a => (∃ xs, SqL K H a xs ∧ R (Itl K a) H) ∨ (∃ xs, SqT K H a xs ∧ R (Itt K a) H)
  | .str z => R (Its z) H
  | _ => False
def iS (K : PySem.W.Frag) (tl : TE) : TI := fun σ H R => tl σ H fun x H1 => rS K x H1 R
theorem pi_s {tg l : Expr} {tl : TE} (hl : PE X l tl) : PI X tg l (iS X.K tl) := by
  refine ⟨fun pins s σ H R I h => ?_⟩
  refine thn (hl.run pins s σ H _ I h) fun v s1 ⟨y, H1, I1, r1, q1⟩ => ?_
  have q1 : rS X.K y H1 R := q1
  cases y with
  | ref a =>
    obtain rfl : v = Value.ref a := r1
    rcases q1 with ⟨xs, hq, q⟩ | ⟨xs, hq, q⟩
    · obtain ⟨its, rv, p, hz⟩ := I1.list hq
      refine wpAny_pyIter_list p.isList ?_
      refine ⟨s1.heap.objs.size, [s1.heap.objs.size], _, _, H1, rfl, I1.kept (t' := s1.toks) fun b o e => Heap.get?_push_of_some _ e, turn_list a _, ⟨_, Heap.get?_push_size _ rfl, rfl, rfl⟩, fun b hb => ?_, q⟩
      have e : b = s1.heap.objs.size := by simpa using hb
      subst e
      exact I1.fpOk (Nat.le_refl _) (I1.hok.fresh (Nat.le_refl _))
    · obtain ⟨its, rv, p, hz⟩ := I1.tuple hq
      refine wpAny_pyIter_tuple (show s1.heap.IsTuple a its.toArray from p) ?_
      refine ⟨s1.heap.objs.size, [s1.heap.objs.size], _, _, H1, rfl, I1.kept (t' := s1.toks) fun b o e => Heap.get?_push_of_some _ e, turn_tuple a _, ⟨_, Heap.get?_push_size _ rfl, rfl, rfl⟩, fun b hb => ?_, q⟩
      have e : b = s1.heap.objs.size := by simpa using hb
      subst e
      exact I1.fpOk (Nat.le_refl _) (I1.hok.fresh (Nat.le_refl _))
  | str z =>
    obtain ⟨t, rfl⟩ := r1
    cases ha : z.cps.all (· < 128)
    · exact wpAny_pyIter_wide ha (pi_one (tk := s1.toks) I1 _ (turn_str _ z t "str_iterator" (.inr rfl)) ⟨_, Heap.get?_push_size _ rfl, rfl, rfl⟩ q1)
    · exact wpAny_pyIter_ascii ha (pi_one (tk := s1.toks) I1 _ (turn_str _ z t "str_ascii_iterator" (.inl rfl)) ⟨_, Heap.get?_push_size _ rfl, rfl, rfl⟩ q1)
  | _ => exact q1.elim
section
variable {σ : L2.St} {H : Hp} {K : PySem.W.Frag} {R : It → Hp → Prop} {a : Addr} {xs : List V} {z : Str}
theorem x_s {tl : TE} (h : tl σ H fun x H1 => rS K x H1 R) : iS K tl σ H R := h
theorem z_sL (h : SqL K H a xs) (q : R (Itl K a) H) : rS K (.ref a) H R := .inl ⟨xs, h, q⟩
theorem z_sT (h : SqT K H a xs) (q : R (Itt K a) H) : rS K (.ref a) H R := .inr ⟨xs, h, q⟩
theorem z_sS (q : R (Its z) H) : rS K (.str z) H R := q
def rR1 (vs : List V) (H : Hp) (R : It → Hp → Prop) : Prop := ∃ j : Int, vs = [.int j] ∧ -(2 ^ 62) ≤ j ∧ j < 2 ^ 62 ∧ R (Itr 0 j.toNat) H
def rR2 (vs : List V) (H : Hp) (R : It → Hp → Prop) : Prop := ∃ i j : Int, vs = [.int i, .int j] ∧ (-(2 ^ 62) ≤ i ∧ i < 2 ^ 62 ∧ -(2 ^ 62) ≤ j ∧ j < 2 ^ 62) ∧ R (Itr i (j - i).toNat) H
theorem x_r1 {t : TA} (h : t σ H fun vs H1 => rR1 vs H1 R) : iRng1 t σ H R := h
theorem z_r1 {j : Int} (h1 : -(2 ^ 62) ≤ j) (h2 : j < 2 ^ 62) (q : R (Itr 0 j.toNat) H) : rR1 [.int j] H R := ⟨j, rfl, h1, h2, q⟩
theorem x_r2 {t : TA} (h : t σ H fun vs H1 => rR2 vs H1 R) : iRng2 t σ H R := h
theorem z_r2 {lo j : Int} (h : -(2 ^ 62) ≤ lo ∧ lo < 2 ^ 62 ∧ -(2 ^ 62) ≤ j ∧ j < 2 ^ 62) (q : R (Itr lo (j - lo).toNat) H) : rR2 [.int lo, .int j] H R := ⟨lo, j, rfl, h, q⟩
end
end
/-! ### comprehensions: the list made so far -/
def LcP (D : Addr) (Iv : Nat → List V → Hp → Prop) (i : Nat) (H : Hp) : Prop := ∃ ys, H D = some (.lst ys) ∧ ys.length ≤ i ∧ Iv i ys H
section
variable {D : Addr} {Iv : Nat → List V → Hp → Prop} {i n : Nat} {H : Hp} {ys : List V} {y : V}
theorem lc0 (h : Iv 0 [] (upd H D (.lst []))) : LcP D Iv 0 (upd H D (.lst [])) := ⟨[], upd_same, Nat.le_refl _, h⟩
theorem lc_put (hD : H D = some (.lst ys)) (hl : ys.length ≤ i) (hi : i < n) (hn : n ≤ 900000) (h : Iv (i + 1) (ys ++ [y]) (upd H D (.lst (ys ++ [y])))) :
    ∃ acc, H D = some (.lst acc) ∧ acc.length < sizeLine ∧ LcP D Iv (i + 1) (upd H D (.lst (acc ++ [y]))) :=
  ⟨ys, hD, sz_lt (by omega), ys ++ [y], upd_same, by rw [List.length_append, List.length_singleton]; omega, h⟩
theorem lc_skip (hD : H D = some (.lst ys)) (hl : ys.length ≤ i) (h : Iv (i + 1) ys H) : LcP D Iv (i + 1) H := ⟨ys, hD, by omega, h⟩
theorem x_lc {wi : TI} {g : TG} {tt : TT} {te : TE} {vs : List Nat} {σ : L2.St} {Q : VK} (h : wi σ H fun J H1 => ∀ D, H1 D = none → ∃ W : Nat → Nat → Hp → Prop, (∃ m, W 0 m (upd H1 D (.lst []))) ∧ ∀ i m H, W i m H →
      (J.stop i H ∧ Q (.ref D) H) ∨ (J.go i H ∧ ∃ Nx : Hp → Prop, (∀ H', Nx H' → ∃ m', m' < m ∧ W (i + 1) m' H') ∧ ∀ x H', J.yld i H x H' → g x (wipe σ vs) H' fun σ2 H2 => wipe σ2 vs = wipe σ vs ∧ tt σ2 H2 fun b H3 =>
        if b = true then te σ2 H3 fun y H4 => ∃ acc, H4 D = some (.lst acc) ∧ acc.length < sizeLine ∧ Nx (upd H4 D (.lst (acc ++ [y]))) else Nx H3)) : tLc wi g tt te vs σ H Q := h
theorem x_yes {σ : L2.St} {Q : Bool → Hp → Prop} (h : Q true H) : tYes σ H Q := h
end
/-! what a zip walks -/
def rZip (K : PySem.W.Frag) (vs : List V) (H : Hp) (R : It → Hp → Prop) : Prop := ∃ a b xs ys, vs = [.ref a, .ref b] ∧ ((SqL K H a xs ∧ SqL K H b ys ∧ R (Itz K a b) H) ∨ (SqT K H a xs ∧ SqT K H b ys ∧ R (RZ.ItzT K a b) H))
theorem x_zip {K : PySem.W.Frag} {σ : L2.St} {H : Hp} {t : TA} {R : It → Hp → Prop} (h : t σ H fun vs H1 => rZip K vs H1 R) : RZ.iZipA K t σ H R := h
theorem z_zipL {K : PySem.W.Frag} {H : Hp} {p q : Addr} {xs ys : List V} {R : It → Hp → Prop} (h1 : SqL K H p xs) (h2 : SqL K H q ys) (h : R (Itz K p q) H) : rZip K [.ref p, .ref q] H R := ⟨p, q, xs, ys, rfl, .inl ⟨h1, h2, h⟩⟩
theorem z_zipT {K : PySem.W.Frag} {H : Hp} {p q : Addr} {xs ys : List V} {R : It → Hp → Prop} (h1 : SqT K H p xs) (h2 : SqT K H q ys) (h : R (RZ.ItzT K p q) H) : rZip K [.ref p, .ref q] H R := ⟨p, q, xs, ys, rfl, .inr ⟨h1, h2, h⟩⟩
theorem walk_zipT {K : PySem.W.Frag} {a b : Addr} {xs ys : List V} {n : Nat} (hn : n = min xs.length ys.length) : Walk (RZ.ItzT K a b) n (fun H => SqT K H a xs ∧ SqT K H b ys) (YPair (fun i => xs[i]?) (fun i => ys[i]?)) := by
  subst hn
  refine ⟨fun i _ hi q => ?_, fun _ q => ⟨xs, ys, q.1, q.2, by omega⟩, fun i H v H' _ q y => ?_⟩
  · have h1 : i < xs.length := by omega
    have h2 : i < ys.length := by omega
    exact ⟨xs, ys, xs[i], ys[i], q.1, q.2, by simp [h1], by simp [h2]⟩
  · obtain ⟨T, x, z, h1, h2, h3, h4, h5⟩ := y
    exact ⟨T, x, z, h1, h2, h3, h4 xs q.1, h5 ys q.2⟩
/-! ### isinstance -/
theorem ki_bool_list : kitB "bool" "list" = some false := by decide +kernel
theorem ki_bool_tuple : kitB "bool" "tuple" = some false := by decide +kernel
theorem ki_bool_bool : kitB "bool" "bool" = some true := by decide +kernel
theorem ki_bool_int : kitB "bool" "int" = some true := by decide +kernel
theorem ki_bool_str : kitB "bool" "str" = some false := by decide +kernel
theorem ki_int_list : kitB "int" "list" = some false := by decide +kernel
theorem ki_int_tuple : kitB "int" "tuple" = some false := by decide +kernel
theorem ki_int_bool : kitB "int" "bool" = some false := by decide +kernel
theorem ki_int_int : kitB "int" "int" = some true := by decide +kernel
theorem ki_int_str : kitB "int" "str" = some false := by decide +kernel
theorem ki_str_list : kitB "str" "list" = some false := by decide +kernel
theorem ki_str_tuple : kitB "str" "tuple" = some false := by decide +kernel
theorem ki_str_bool : kitB "str" "bool" = some false := by decide +kernel
theorem ki_str_int : kitB "str" "int" = some false := by decide +kernel
theorem ki_str_str : kitB "str" "str" = some true := by decide +kernel
theorem ki_list_list : kitB "list" "list" = some true := by decide +kernel
theorem ki_list_tuple : kitB "list" "tuple" = some false := by decide +kernel
theorem ki_list_bool : kitB "list" "bool" = some false := by decide +kernel
theorem ki_list_int : kitB "list" "int" = some false := by decide +kernel
theorem ki_list_str : kitB "list" "str" = some false := by decide +kernel
theorem ki_tuple_list : kitB "tuple" "list" = some false := by decide +kernel
theorem ki_tuple_tuple : kitB "tuple" "tuple" = some true := by decide +kernel
theorem ki_tuple_bool : kitB "tuple" "bool" = some false := by decide +kernel
theorem ki_tuple_int : kitB "tuple" "int" = some false := by decide +kernel
theorem ki_tuple_str : kitB "tuple" "str" = some false := by decide +kernel
theorem ki_NoneType_list : kitB "NoneType" "list" = some false := by decide +kernel
theorem ki_NoneType_tuple : kitB "NoneType" "tuple" = some false := by decide +kernel
theorem ki_NoneType_bool : kitB "NoneType" "bool" = some false := by decide +kernel
theorem ki_NoneType_int : kitB "NoneType" "int" = some false := by decide +kernel
theorem ki_NoneType_str : kitB "NoneType" "str" = some false := by decide +kernel
section
variable {K : PySem.W.Frag} {H : Hp} {Q : VK} {x : V} {t : String} {b : Bool} {n : String}
theorem tyx_l {a : Addr} {xs : List V} (h : SqL K H a xs) : TyX K H (.ref a) (.type "list") := by
  rcases h with (h | ⟨o, h⟩) | ⟨o, its, m, h1, h2, _⟩
  · exact .base (.lst h)
  · exact .base (.frz h)
  · exact .kList h1 h2
theorem tyx_t {a : Addr} {xs : List V} (h : SqT K H a xs) : TyX K H (.ref a) (.type "tuple") := by
  rcases h with (h | ⟨o, h⟩) | ⟨o, its, m, h1, h2, _⟩
  · exact .base (.tup h)
  · exact .fTuple h
  · exact .kTuple h1 h2
theorem z_isi (ty : TyX K H x (.type t)) (e : kitB t n = some b) (q : Q (.bl b) H) : rIsi K [x, .ty n] H Q := ⟨x, .ty n, .type t, .type n, b, rfl, .ty n, ty, kit_ty e, q⟩
theorem z_isiT {tp : Addr} {n1 n2 : String} {b1 b2 : Bool} (ht : H tp = some (.tup [.ty n1, .ty n2])) (ty : TyX K H x (.type t)) (e1 : kitB t n1 = some b1) (e2 : kitB t n2 = some b2) (q : Q (.bl (b1 || b2)) H) : rIsiT K [x, .ref tp] H Q := by
  refine ⟨x, tp, [.ty n1, .ty n2], .type t, [.type n1, .type n2], b1 || b2, rfl, ht, .cons (.ty n1) (.cons (.ty n2) .nil), ty, kitAny_cons (kit_ty e1) (fun h => ?_) (fun h => by rw [h]; rfl), q⟩
  subst h
  refine kitAny_cons (kit_ty e2) (fun h => ?_) (fun h => by rw [h]; rfl)
  subst h
  exact kitAny_nil
end
end R

/-! # U3: more built-ins -/
namespace R
open PySem PySem.Spec PyProof.Rows L2
def sInt (_ : PySem.W.Frag) : List V → Hp → VK → Prop := fun vs H Q => match vs with
  | [.int i] => Q (.int i) H
  | [.bl k] => Q (.int (if k then 1 else 0)) H
  | [.str a] => ∃ n, PySem.intText? a = some n ∧ a.length ≤ 640 ∧ Q (.int n) H
  | _ => False
theorem call_sInt {X : Cx} : CallR X (.type "int") (sInt X.K) := call_or call_int1 call_int_str fun vs H Q q => by
  unfold sInt at q
  split at q
  · exact .inl (.inl ⟨_, rfl, q⟩)
  · exact .inl (.inr ⟨_, rfl, q⟩)
  · obtain ⟨n, h1, h2, q⟩ := q
    exact .inr ⟨_, n, rfl, h1, h2, q⟩
  · exact q.elim
def sStr (_ : PySem.W.Frag) : List V → Hp → VK → Prop := fun vs H Q => match vs with
  | [.int i] => i.natAbs.log2 < 1920 ∧ Q (.str (toString i)) H
  | [.str a] => Q (.str a) H
  | _ => False
theorem call_sStr {X : Cx} : CallR X (.type "str") (sStr X.K) := call_or call_str_int SkE.call_str_str fun vs H Q q => by
  unfold sStr at q
  split at q
  · exact .inl ⟨_, rfl, q⟩
  · exact .inr ⟨_, rfl, q⟩
  · exact q.elim
def sAbs (_ : PySem.W.Frag) : List V → Hp → VK → Prop := fun vs H Q => match vs with
  | [.int i] => Q (.int (if i < 0 then -i else i)) H
  | _ => False
theorem call_sAbs {X : Cx} : CallR X (.builtin "abs") (sAbs X.K) := call_imp call_abs fun vs H Q q => by
  unfold sAbs at q
  split at q
  · exact ⟨_, rfl, q⟩
  · exact q.elim
section
variable {K : PySem.W.Frag} {H : Hp} {Q : VK} {i : Int} {b : Bool} {a : Str}
theorem z_intI (h : Q (.int i) H) : sInt K [.int i] H Q := h
theorem z_intB (h : Q (.int (if b then 1 else 0)) H) : sInt K [.bl b] H Q := h
theorem z_strS (h : Q (.str a) H) : sStr K [.str a] H Q := h
theorem z_strI (h1 : i.natAbs.log2 < 1920) (h : Q (.str (toString i)) H) : sStr K [.int i] H Q := ⟨h1, h⟩
theorem z_abs (h : Q (.int (if i < 0 then -i else i)) H) : sAbs K [.int i] H Q := h
end
end R

/-! # DX: texts -/
namespace R
open PySem PySem.Spec PyProof.Rows L2
def sJoin (K : PySem.W.Frag) : V → List V → Hp → VK → Prop := fun x xs H Q => ∃ a p, ∃ ys : List Str, x = .str a ∧ xs = [.ref p] ∧ (SqL K H p (ys.map V.str) ∨ SqT K H p (ys.map V.str)) ∧ (ys.map (·.length)).sum + ys.length * a.length ≤ 16777216 ∧ Q (.str (Txt.join a ys)) H
theorem pjoin {X : Cx} {o e : Expr} {to te : TE} {apos pos : Pos} (ho : PE X o to) (he : PE X e te) (hs : starEach [e] X.env = [(false, eval e X.env)] := by rfl) (hbase : attributeBase o "join" X.env (eval o X.env) = eval o X.env := by rfl) (hline : (apos.endLine == pos.line) = true := by rfl) :
    PE X (.Call (.Attribute o "join" apos) [e] [] pos) (tM1 (sJoin X.K) to te) := pe_join ho he hs hbase hline
section
variable {σ : L2.St} {H : Hp} {Q : VK} {K : PySem.W.Frag} {p : Addr} {ys : List Str} {a : Str}
theorem x_m1 {r : V → List V → Hp → VK → Prop} {to te : TE} (h : to σ H fun x H1 => (∃ a, x = .str a) ∧ te σ H1 fun y H2 => r x [y] H2 Q) : tM1 r to te σ H Q := h
theorem x_isstr {P : Prop} (h : P) : (∃ b, V.str a = .str b) ∧ P := ⟨⟨a, rfl⟩, h⟩
theorem z_join (h : Sq K H p (ys.map V.str)) (hz : (ys.map (·.length)).sum + ys.length * a.length ≤ 16777216) (k : Q (.str (Txt.join a ys)) H) : sJoin K (.str a) [.ref p] H Q := ⟨a, p, ys, rfl, rfl, h, hz, k⟩
end
theorem join_len (a : Str) (ys : List Str) : (Txt.join a ys).length ≤ (ys.map (·.length)).sum + ys.length * a.length := by
  show (Builtin.Str.glued a ys).length ≤ _
  rw [StrLaws.glued_eq_join]
  exact StrLaws.join_length_le a ys
theorem app_len (a b : Str) : (a ++ b).length = a.length + b.length := Str.length_append a b
end R

/-! # X1: the package's own errors, raised -/
namespace R
open PySem PySem.Spec PyProof.Rows L2
/-- the fields of the package's errors -/
def efs : List Str := ["tag", "state", "position", "name", "row"]
/-- a class of errors under ValueError, with its own __init__ at fI -/
structure EX (K : PySem.W.Frag) (mg : Str → Option Value) (x qual : Str) (st : Stmt) (ps : List Str) where
  C : Addr
  fI : Addr
  fd : FuncData
  cls : OexC K C
  g : mg x = some (.ref C)
  iC : PySem.W.findIn K (.ref C) "__init__" = some (some (.ref fI))
  tI : PySem.W.typeIn K (.ref fI) = some (.type "function")
  F : Fun K "__init__" qual (inClass st 0) fI fd
  b : Binds K fd ps []
  no : ∀ f : Str, f ∈ efs → PySem.W.findIn K (.ref C) f = some none
theorem pmk_oex0 {X : Cx} {CX : CXT} {x : Str} {C fI : Addr} {k : Nat} {fd : FuncData} {ps : List Str} {sp : Sp} {p pos : Pos} (T : OexC X.K C) (iC : PySem.W.findIn X.K (.ref C) "__init__" = some (some (.ref fI))) (tI : PySem.W.typeIn X.K (.ref fI) = some (.type "function"))
    (F1 : FnOk X.prog X.w X.K X.mg X.base CX k fI fd ps sp) (hr : Room (k + 1) X.A) (hb : Binds X.K fd ps []) (hx : Passes CX X (fun _ _ _ => False)) (hg : Gl X x) (hm : X.mg x = some (.ref C))
    (hdb : (x == ("__debug__" : Str)) = false := by decide) : PMk X (.Call (.Name x p) [] [] pos) (tMkO C sp [] tNil) := by
  intro pins s σ H Q I h
  obtain ⟨nm, q, N, bs, bm, sn, sub, ab, col, dd, k0, k1, k2, k3, k5, hC, hbm⟩ := T.cls
  refine wpAny_Call_Name_kw (ld_glob I hg hm ?_ hdb)
  refine PySem.W.callWith_K0 I.kIn T.kC ?_
  obtain ⟨hz, q1⟩ := h
  show wpAny _ _ (call (.ref C) []) _ _ _
  obtain ⟨hp, g, dr, tk, os⟩ := s
  have hsz : hp.objs.size ≤ hp.objs.size + 1 := Nat.le_succ _
  have hn : H (hp.objs.size + 1) = none := I.hok.fresh hsz
  have hq := q1 (hp.objs.size + 1) hn
  have kk : ∀ b o, hp.get? b = some o → ((hp.push (PySem.W.kdv_tup [])).push (PySem.HandSPX.excO C hp.objs.size)).get? b = some o := fun b o e => Heap.get?_push_of_some _ (Heap.get?_push_of_some _ e)
  have hget : ((hp.push (PySem.W.kdv_tup [])).push (PySem.HandSPX.excO C hp.objs.size)).get? (hp.objs.size + 1) = some (PySem.HandSPX.excO C hp.objs.size) := by heap_get
  have I2 : Inv X pins σ (upd H (hp.objs.size + 1) (exo (hp.objs.size + 1) C none)) ⟨(hp.push (PySem.W.kdv_tup [])).push (PySem.HandSPX.excO C hp.objs.size), g, dr, tk, os⟩ :=
    I.laid (t' := tk) (a := hp.objs.size + 1) (o := exo (hp.objs.size + 1) C none) (h' := (hp.push (PySem.W.kdv_tup [])).push (PySem.HandSPX.excO C hp.objs.size)) kk hsz (exo_ok hget)
  have r2 : Vals (V.ref (hp.objs.size + 1) :: ([] ++ [])) ([Value.ref (hp.objs.size + 1)] ++ []) := .cons rfl .nil
  have hl : (Value.ref (hp.objs.size + 1) :: [] ++ []).length = ps.length := by
    have e := F1.len _ _ _ _ hq
    exact e
  refine wpAny_call (PySem.HandSPX.call_own F.excBase_ValueError (fun Y => PySem.HandSPX.refsVE_contains Y bm hbm) (I.kIn _ _ hC) (PySem.W.looks_findIn I.kIn iC) (fun self => PySem.W.bind_fn I.kIn self tI) (Nat.zero_le _)
    (codeAny_mono (F1.run _ X.stack _ _ ⟨Value.ref (hp.objs.size + 1) :: [], []⟩ ([Value.ref (hp.objs.size + 1)] ++ []) _ _ (fun _ _ _ => False) (hr.make C [] []) (I2.env0.make C [] []) (hb _ [Value.ref (hp.objs.size + 1)] I2.kIn hl) r2 hq) fun r s' hq' => ?_))
  cases r with
  | error er => exact hx pins σ _ _ er s' I2 hq'
  | ok fl =>
    cases fl with
    | ret u =>
      obtain ⟨v, H2, os2, bare2, un2, hok2, rv, ev, d, fs, ea, ed, hd1, q2⟩ := hq'
      subst ev
      obtain ⟨h2, g2, d2, t2, os'⟩ := s'
      exact ⟨rv, mk_end (raises_own T.exC T.tyC) I hsz kk un2 hok2 os2 bare2 ea ed hd1 q2⟩
    | next => exact False.elim hq'
    | brk => exact False.elim hq'
    | cont => exact False.elim hq'
/-- what a maker of such an error leaves: the fields of its own dict -/
def spErr (C : Addr) (fs : List V → List (Str × V)) (n : Nat) : Sp := fun vs H Q _ => ∃ a ws, vs = .ref a :: ws ∧ ws.length = n ∧ H a = some (exo a C none) ∧
  ∀ (d : Addr) (H' : Hp), H d = none → H' a = some (exo a C (some d)) → H' d = some (exd d (fs ws)) → (∀ b o, H b = some o → b ≠ a → H' b = some o) → Q .non H'
/-- an error of the class at C with the fields fs is wanted: all that stood stands -/
def Er (E : XK) (C : Addr) (fs : List (Str × V)) (H : Hp) : Prop := ∀ (d : Addr) (H' : Hp), H d = none → H' d = some (.xd fs) → Ex H H' → E (.ref C) (some d) H'
/-- X(e, ..) made, then thrown -/
def rMk (C : Addr) (sp : Sp) (vs : List V) (H : Hp) (Q : XK) : Prop := vs.length ≤ 1000 ∧ ∀ a, H a = none → sp (.ref a :: (vs ++ [])) (upd H a (exo a C none))
  (fun v H2 => v = .non ∧ ∃ (d : Addr) (fs : List (Str × V)), H2 a = some (exo a C (some d)) ∧ H2 d = some (exd d fs) ∧ H d = none ∧ Q (.ref C) (some d) (upd (del H2 a) d (.xd fs))) (fun _ _ _ => False)
def tRs (C : Addr) (sp : Sp) (W : WX) (ta : TA) : TS := fun _ σ H => ta σ H fun vs H1 => rMk C sp vs H1 fun cls d H' => W cls d σ H'
theorem x_rs {C : Addr} {sp : Sp} {W : WX} {ta : TA} {D : Ends} {σ : L2.St} {H : Hp} (h : ta σ H fun vs H1 => rMk C sp vs H1 fun cls d H' => W cls d σ H') : tRs C sp W ta D σ H := h
theorem z_rs {C : Addr} {n : Nat} {fs : List V → List (Str × V)} {Q : XK} {vs : List V} {H : Hp} (h1 : vs.length = n) (h2 : n ≤ 1000) (h : Er Q C (fs vs) H) : rMk C (spErr C fs n) vs H Q := by
  refine ⟨by omega, fun a na => ⟨a, vs ++ [], rfl, by rw [List.append_nil]; exact h1, upd_same, fun d H' nd ea ed kp => ⟨rfl, d, fs vs, ea, by rw [List.append_nil] at ed; exact ed, ?_, ?_⟩⟩⟩
  · exact (upd_none nd).2
  · refine h d _ (upd_none nd).2 upd_same fun b o e => ?_
    have nb : b ≠ a := ne_of_none e na
    rw [upd_ne (ne_of_none e (upd_none nd).2), del_ne nb]
    exact kp b o (by rw [upd_ne nb]; exact e) nb
section
variable {X : Cx} {x q : Str} {st : Stmt} {ps : List Str} {k : Nat} {sp : Sp} {W : WX} {p pos pos2 : Pos}
theorem praise0 (d : EX X.K X.mg x q st ps) (G : FnOk X.prog X.w X.K X.mg X.base (L2.CX X.prog X.w) k d.fI d.fd ps sp) (hr : Room (k + 1) X.A) (hc : X.calm = true) (tk : Takes X W) (hg : Gl X x := by rfl) (hdb : (x == ("__debug__" : Str)) = false := by decide) :
    PS X (.Raise (some (.Call (.Name x p) [] [] pos)) none pos2) (tRs d.C sp W tNil) := ps_raise hc tk (pmk_oex0 d.cls d.iC d.tI G hr d.b passL hg d.g hdb)
theorem praise {e : Expr} {es : List Expr} {ta : TA} (d : EX X.K X.mg x q st ps) (G : FnOk X.prog X.w X.K X.mg X.base (L2.CX X.prog X.w) k d.fI d.fd ps sp) (hr : Room (k + 1) X.A) (hc : X.calm = true) (tk : Takes X W) (ha : PA X (e :: es) ta) (hg : Gl X x := by rfl) (hdb : (x == ("__debug__" : Str)) = false := by decide)
    (he : starEach (e :: es) X.env = (false, eval e X.env) :: starEach es X.env := by rfl) (hpl : (backTo pos (starEach es X.env)).any (·.1) = false := by rfl) :
    PS X (.Raise (some (.Call (.Name x p) (e :: es) [] pos)) none pos2) (tRs d.C sp W ta) := ps_raise hc tk (pmk_oex d.cls d.iC d.tI G hr d.b .nil passL hg d.g ha hdb he hpl)
end
theorem ei_end {K : PySem.W.Frag} {C a : Addr} {D : Ends} {σ : L2.St} {H : Hp} {f : Str} {y : V} {Q : VK} (cls : OexC K C) (no : PySem.W.findIn K (.ref C) f = some none) (ha : H a = some (exo a C none))
    (k : ∀ dx, H dx = none → dx ≠ a → D.nx σ (upd (upd H dx (exd dx [(f, y)])) a (exo a C (some dx)))) : ∃ (b C' : Addr), V.ref a = .ref b ∧ OexC K C' ∧ PySem.W.findIn K (.ref C') f = some none ∧
      ((H b = some (exo b C' none) ∧ ∀ dx, H dx = none → dx ≠ b → D.nx σ (upd (upd H dx (exd dx [(f, y)])) b (exo b C' (some dx)))) ∨
        ∃ (dx : Addr) (fs : List (Str × V)), H b = some (exo b C' (some dx)) ∧ H dx = some (exd dx fs) ∧ fs.length ≤ 900 ∧ D.nx σ (upd H dx (exd dx ((f, y) :: fs)))) := ⟨a, C, rfl, cls, no, .inl ⟨ha, k⟩⟩
end R

/-! # C1: classes of the text, defs with a keyword-only parameter -/
namespace R
open PySem PySem.Spec PyProof.Rows L2
/-- a class -/
structure CK (K : PySem.W.Frag) (mg : Str → Option Value) (x : Str) (fl : List Str) where
  C : Addr
  cl : Cls K C
  g : mg x = some (.ref C)
  no : ∀ f ∈ fl, NoAttr K C f
theorem gv_of {mg : Str → Option Value} {x : Str} {C : Addr} (h : mg x = some (.ref C)) : GV mg x (.ref C) := ⟨_, h, rfl⟩
/-- its own __eq__ at f, no own __ne__ -/
structure EQ (K : PySem.W.Frag) (C f : Addr) : Prop where
  eq : PySem.W.findIn K (.ref C) "__eq__" = some (some (.ref f))
  fn : PySem.W.isFn K (.ref f) = true
  ne : PySem.W.findIn K (.ref C) "__ne__" = some (some (.builtin "object.__ne__"))
  pl : PySem.W.plainOver K C = true
  ca : PySem.W.findIn K (.ref C) "__class__" = some (some (.builtin "object.__class__"))
  cn : PySem.W.specialIn K (.builtin "object.__class__") "__get__" = some (some (.builtin "getset_descriptor.__get__"))
  ct : PySem.W.takesIn K (.builtin "object.__class__") = some true
  cm : PySem.W.mroIn K C (.type "object") = some true
  ki : ∀ n ∈ (["NoneType", "tuple", "str"] : List String), PySem.W.kitOne K (.type n) (.ref C) = some false
/-- its __init__, with one keyword-only parameter -/
structure IK (K : PySem.W.Frag) (C : Addr) (qual : Str) (st : Stmt) (ps : List Str) (n : Nat) (kws : List (Str × V)) where
  f : Addr
  fd : FuncData
  F : FunD K "__init__" qual (defArgs st) (defBody st) (defScope st) [] kws f fd
  mak : Mk K C f
  dv : List Value
  hdv : Vals (kws.map (·.2)) dv
  b : Binds K fd ps dv
  kb : KBn K fd ps n (kws.map (·.1)) (fun us ws => us ++ ws) (fun vs zs => vs ++ zs)
/-- a method -/
structure MT (K : PySem.W.Frag) (C : Addr) (m qual : Str) (st : Stmt) (ps : List Str) where
  f : Addr
  fd : FuncData
  F : Fun K m qual st f fd
  mt : Meth K C m f
  b : Binds K fd ps []
/-- a def with one keyword-only parameter -/
structure DK (K : PySem.W.Frag) (mg : Str → Option Value) (x : Str) (st : Stmt) (ps : List Str) (n : Nat) (kws : List (Str × V)) where
  f : Addr
  fd : FuncData
  F : FunD K x x (defArgs st) (defBody st) (defScope st) [] kws f fd
  g : mg x = some (.ref f)
  dv : List Value
  hdv : Vals (kws.map (·.2)) dv
  b : Binds K fd ps dv
  kb : KBn K fd ps n (kws.map (·.1)) (fun us ws => us ++ ws) (fun vs zs => vs ++ zs)
section
variable {X : Cx} {C : Addr} {fl : List Str} {x m qual : Str} {st : Stmt} {ps : List Str} {k n : Nat} {kws : List (Str × V)} {sp : Sp} {E : XK} {p pos apos : Pos} {e o : Expr} {es : List Expr} {ta : TE} {t tk : TA} {kw : List Keyword}
theorem pmeth {pl : Sem Bool} (d : MT X.K C m qual st ps) (c : Cls X.K C) (G : FnOk X.prog X.w X.K X.mg X.base (L2.CX X.prog X.w) k d.f d.fd ps sp) (hr : Room k X.A) (hx : Passes (L2.CX X.prog X.w) X E) (he : PE X o ta) (ha : PA X (e :: es) t)
    (hst : starEach (e :: es) X.env = (false, eval e X.env) :: starEach es X.env := by rfl) (hpl : (backTo pos (starEach es X.env)).any (·.1) = false := by rfl)
    (ht : eval (.Call (.Attribute o m apos) (e :: es) [] pos) X.env = (do
      let ov ← eval o X.env
      standAt apos.atName
      let (f, first) ← holding [ov] (getMethod ov m pl)
      callWith pos f first (backTo pos (starEach (e :: es) X.env)) (backToKw pos (keywordEach [] X.env))) := by rfl) :
    PE X (.Call (.Attribute o m apos) (e :: es) [] pos) (tMeth C m sp [] E ta t) := pe_meth he c d.mt G hr d.b .nil hx ha hst hpl ht
theorem pmeth0 {pl : Sem Bool} (d : MT X.K C m qual st ps) (c : Cls X.K C) (G : FnOk X.prog X.w X.K X.mg X.base (L2.CX X.prog X.w) k d.f d.fd ps sp) (hr : Room k X.A) (hx : Passes (L2.CX X.prog X.w) X E) (he : PE X o ta)
    (ht : eval (.Call (.Attribute o m apos) [] [] pos) X.env = (do
      let ov ← eval o X.env
      standAt apos.atName
      let (f, first) ← holding [ov] (getMethod ov m pl)
      callWith pos f first (backTo pos (starEach [] X.env)) (backToKw pos (keywordEach [] X.env))) := by rfl) :
    PE X (.Call (.Attribute o m apos) [] [] pos) (tMeth C m sp [] E ta tNil) := pe_meth0 he c d.mt G hr d.b .nil hx ht
theorem pmake (g : X.mg x = some (.ref C)) (d : IK X.K C qual st ps n kws) (G : FnOk X.prog X.w X.K X.mg X.base (L2.CX X.prog X.w) k d.f d.fd ps sp) (hr : Room (k + 1) X.A) (hx : Passes (L2.CX X.prog X.w) X E) (ha : PA X (e :: es) t) (hg : Gl X x := by rfl) (hdb : (x == ("__debug__" : Str)) = false := by decide)
    (he : starEach (e :: es) X.env = (false, eval e X.env) :: starEach es X.env := by rfl) (hpl : (backTo pos (starEach es X.env)).any (·.1) = false := by rfl) :
    PE X (.Call (.Name x p) (e :: es) [] pos) (tMake C sp (kws.map (·.2)) E t) := pe_make d.mak G hr hg g d.b d.hdv hx ha hdb he hpl
theorem pmakeK (g : X.mg x = some (.ref C)) (d : IK X.K C qual st ps (n + 1) kws) (G : FnOk X.prog X.w X.K X.mg X.base (L2.CX X.prog X.w) k d.f d.fd ps sp) (hr : Room (k + 1) X.A) (hx : Passes (L2.CX X.prog X.w) X E) (ha : PA X (e :: es) t) (hkw : PK X kw tk) (hg : Gl X x := by rfl) (hdb : (x == ("__debug__" : Str)) = false := by decide)
    (hall : (backToKw pos (keywordEach kw X.env)).all (·.1.isSome) = true := by rfl) (hks : (backToKw pos (keywordEach kw X.env)).filterMap (·.1) = kws.map (·.1) := by rfl)
    (he : starEach (e :: es) X.env = (false, eval e X.env) :: starEach es X.env := by rfl) (hpl : ((backTo pos (starEach (e :: es) X.env)).any (·.1) || (backToKw pos (keywordEach kw X.env)).any (·.1.isNone)) = false := by rfl) :
    PE X (.Call (.Name x p) (e :: es) kw pos) (tMakeK C n (kws.map (·.1)).length sp (fun vs zs => vs ++ zs) E t tk) := pe_makeK d.mak G hr hg g d.kb hx ha hkw hall hks hdb he hpl
/-- f(e, ..) of such a def, the keyword left out; with it -/
theorem pcallD (d : DK X.K X.mg x st ps n kws) (G : FnOk X.prog X.w X.K X.mg X.base (L2.CX X.prog X.w) k d.f d.fd ps sp) (hr : Room k X.A) (hx : Passes (L2.CX X.prog X.w) X E) (ha : PA X (e :: es) t) (hg : Gl X x := by rfl) (hdb : (x == ("__debug__" : Str)) = false := by decide)
    (he : starEach (e :: es) X.env = (false, eval e X.env) :: starEach es X.env := by rfl) (hpl : (backTo pos (starEach es X.env)).any (·.1) = false := by rfl) : PE X (.Call (.Name x p) (e :: es) [] pos) (tCall sp (kws.map (·.2)) E t) :=
  pe_call G hr hg d.g d.F.kp d.b d.hdv hx ha hdb he hpl
theorem pcallD0 (d : DK X.K X.mg x st ps n kws) (G : FnOk X.prog X.w X.K X.mg X.base (L2.CX X.prog X.w) k d.f d.fd ps sp) (hr : Room k X.A) (hx : Passes (L2.CX X.prog X.w) X E) (hg : Gl X x := by rfl) (hdb : (x == ("__debug__" : Str)) = false := by decide) : PE X (.Call (.Name x p) [] [] pos) (tCall sp (kws.map (·.2)) E tNil) :=
  pe_call0 G hr hg d.g d.F.kp d.b d.hdv hx hdb
theorem pcallN (d : DK X.K X.mg x st ps n kws) (G : FnOk X.prog X.w X.K X.mg X.base (L2.CX X.prog X.w) k d.f d.fd ps sp) (hr : Room k X.A) (hx : Passes (L2.CX X.prog X.w) X E) (ha : PA X (e :: es) t) (hkw : PK X kw tk) (hg : Gl X x := by rfl) (hdb : (x == ("__debug__" : Str)) = false := by decide)
    (hall : (backToKw pos (keywordEach kw X.env)).all (·.1.isSome) = true := by rfl) (hks : (backToKw pos (keywordEach kw X.env)).filterMap (·.1) = kws.map (·.1) := by rfl)
    (he : starEach (e :: es) X.env = (false, eval e X.env) :: starEach es X.env := by rfl) (hpl : ((backTo pos (starEach (e :: es) X.env)).any (·.1) || (backToKw pos (keywordEach kw X.env)).any (·.1.isNone)) = false := by rfl) :
    PE X (.Call (.Name x p) (e :: es) kw pos) (tCallN n (kws.map (·.1)).length sp (fun vs zs => vs ++ zs) E t tk) := pe_callN G hr hg d.g d.F.kp d.kb hx ha hkw hall hks hdb he hpl
theorem pcallN0 (d : DK X.K X.mg x st ps 0 kws) (G : FnOk X.prog X.w X.K X.mg X.base (L2.CX X.prog X.w) k d.f d.fd ps sp) (hr : Room k X.A) (hx : Passes (L2.CX X.prog X.w) X E) (hkw : PK X kw tk) (hg : Gl X x := by rfl) (hdb : (x == ("__debug__" : Str)) = false := by decide)
    (hall : (backToKw pos (keywordEach kw X.env)).all (·.1.isSome) = true := by rfl) (hks : (backToKw pos (keywordEach kw X.env)).filterMap (·.1) = kws.map (·.1) := by rfl)
    (hpl : ((backTo pos (starEach [] X.env)).any (·.1) || (backToKw pos (keywordEach kw X.env)).any (·.1.isNone)) = false := by rfl) :
    PE X (.Call (.Name x p) [] kw pos) (tCallN 0 (kws.map (·.1)).length sp (fun vs zs => vs ++ zs) E tNil tk) := by
  refine ⟨fun pins s σ H Q I h => ?_⟩
  refine wpAny_Call_Name_kw (ld_glob I hg d.g ?_ hdb)
  refine PySem.W.callWith_KW0 (h₀ := X.base) I.ok.mod.kin d.F.kp hall ?_ hpl
  refine thn (hkw.run pos pins s σ H _ I h) fun ws s2 ⟨zs, H2, I2, rz, l1, l2, q2⟩ => ⟨I2.kIn, ?_⟩
  rw [hks]
  exact run_fnN (us := []) (vs := []) G hr d.kb hx I2 .nil rz rfl l2 q2
end
/-! readings by heads -/
section
variable {σ : L2.St} {H : Hp} {Q : VK} {E : XK} {sp : Sp} {C : Addr} {m : Str}
def rMeth (C : Addr) (m : Str) (sp : Sp) (t : TA) (σ : L2.St) (E : XK) (x : V) (H : Hp) (Q : VK) : Prop := ∃ a dx fs, x = .ref a ∧ H a = some (.ins C dx fs) ∧ fs.lookup m = none ∧ t σ H fun vs H2 => sp (x :: (vs ++ [])) H2 Q E
theorem x_meth {ta : TE} {t : TA} (h : ta σ H fun x H1 => rMeth C m sp t σ E x H1 Q) : tMeth C m sp [] E ta t σ H Q := h
theorem z_meth {t : TA} {a dx : Addr} {fs : List (Str × V)} (h : H a = some (.ins C dx fs)) (hl : fs.lookup m = none) (k : t σ H fun vs H2 => sp (.ref a :: vs) H2 Q E) : rMeth C m sp t σ E (.ref a) H Q := by
  refine ⟨a, dx, fs, rfl, h, hl, ?_⟩
  have e : (fun vs H2 => sp (V.ref a :: (vs ++ [])) H2 Q E) = (fun vs H2 => sp (V.ref a :: vs) H2 Q E) := by
    funext vs H2
    rw [List.append_nil]
  rw [e]
  exact k
def rMake (C : Addr) (sp : Sp) (dvs : List V) (E : XK) (vs : List V) (H : Hp) (Q : VK) : Prop := ∀ x dx, H x = none → H dx = none → dx ≠ x → sp (.ref x :: (vs ++ dvs)) (upd (upd H dx (.own x)) x (.ins C dx [])) (fun v H2 => v = .non ∧ Q (.ref x) H2) E
theorem x_make {dvs : List V} {t : TA} (h : t σ H fun vs H1 => rMake C sp dvs E vs H1 Q) : tMake C sp dvs E t σ H Q := h
def rMakeK (C : Addr) (n j : Nat) (sp : Sp) (E : XK) (vs zs : List V) (H : Hp) (Q : VK) : Prop := vs.length = n ∧ zs.length = j ∧ rMake C sp zs E vs H Q
theorem x_makeK' {n j : Nat} {t tk : TA} (h : t σ H fun vs H1 => tk σ H1 fun zs H2 => rMakeK C n j sp E vs zs H2 Q) : tMakeK C n j sp (fun vs zs => vs ++ zs) E t tk σ H Q := h
theorem z_makeK {n j : Nat} {vs zs : List V} (h1 : vs.length = n) (h2 : zs.length = j) (k : rMake C sp zs E vs H Q) : rMakeK C n j sp E vs zs H Q := ⟨h1, h2, k⟩
def rFld (K : PySem.W.Frag) (f : Str) (x : V) (H : Hp) (Q : VK) : Prop := ∃ a C dx fs v, x = .ref a ∧ H a = some (.ins C dx fs) ∧ Cls K C ∧ NoAttr K C f ∧ fs.lookup f = some v ∧ Q v H
theorem x_fld {K : PySem.W.Frag} {ta : TE} {f : Str} (h : ta σ H fun x H1 => rFld K f x H1 Q) : tFld K ta f σ H Q := h
theorem z_fld {K : PySem.W.Frag} {f : Str} {a dx : Addr} {fs : List (Str × V)} {v : V} (h : H a = some (.ins C dx fs)) (c : Cls K C) (n : NoAttr K C f) (hl : fs.lookup f = some v) (k : Q v H) : rFld K f (.ref a) H Q := ⟨a, C, dx, fs, v, rfl, h, c, n, hl, k⟩
def rSfld (K : PySem.W.Frag) (f : Str) (x y : V) (H : Hp) (P : Hp → Prop) : Prop := ∃ a C dx fs, x = .ref a ∧ H a = some (.ins C dx fs) ∧ Cls K C ∧ NoAttr K C f ∧ fs.length < 1000 ∧ P (upd H a (.ins C dx (putF f y fs)))
theorem x_sfld {K : PySem.W.Frag} {ta tv : TE} {f : Str} {D : Ends} (h : tv σ H fun y H1 => ta σ H1 fun x H2 => rSfld K f x y H2 fun H3 => D.nx σ H3) : sFld K ta tv f D σ H := h
theorem z_sfld {K : PySem.W.Frag} {f : Str} {a dx : Addr} {fs : List (Str × V)} {y : V} {P : Hp → Prop} (h : H a = some (.ins C dx fs)) (c : Cls K C) (n : NoAttr K C f) (hl : fs.length < 1000) (k : P (upd H a (.ins C dx (putF f y fs)))) : rSfld K f (.ref a) y H P := ⟨a, C, dx, fs, rfl, h, c, n, hl, k⟩
/-- the same, the fields told; what changed is x alone -/
theorem z_sfldC {K : PySem.W.Frag} {f : Str} {a dx : Addr} {fs : List (Str × V)} {y : V} {P : Hp → Prop} (gs : List (Str × V)) (h : H a = some (.ins C dx fs)) (c : Cls K C) (n : NoAttr K C f) (e : putF f y fs = gs) (k : ∀ H', Kp a H H' → H' a = some (.ins C dx gs) → (∀ b, H' b = none → H b = none) → P H') (hl : fs.length < 1000 := by exact Nat.le_of_ble_eq_true rfl) : rSfld K f (.ref a) y H P := by
  subst e
  exact z_sfld h c n hl (k _ Kp.set upd_same fun b hb => (upd_none hb).2)
def rCallN (n j : Nat) (sp : Sp) (E : XK) (vs zs : List V) (H : Hp) (Q : VK) : Prop := vs.length = n ∧ zs.length = j ∧ sp (vs ++ zs) H Q E
theorem x_callN {n j : Nat} {t tk : TA} (h : t σ H fun vs H1 => tk σ H1 fun zs H2 => rCallN n j sp E vs zs H2 Q) : tCallN n j sp (fun vs zs => vs ++ zs) E t tk σ H Q := h
theorem z_callN {n j : Nat} {vs zs : List V} (h1 : vs.length = n) (h2 : zs.length = j) (k : sp (vs ++ zs) H Q E) : rCallN n j sp E vs zs H Q := ⟨h1, h2, k⟩
theorem x_callD {dvs : List V} {t : TA} (h : t σ H fun vs H1 => sp (vs ++ dvs) H1 Q E) : tCall sp dvs E t σ H Q := h
end
/-! enumerate of a list -/
def rEnum (K : PySem.W.Frag) (vs : List V) (H : Hp) (R : It → Hp → Prop) : Prop := ∃ a xs, vs = [.ref a] ∧ SqL K H a xs ∧ R (Ite K a) H
theorem x_enum {K : PySem.W.Frag} {σ : L2.St} {H : Hp} {t : TA} {R : It → Hp → Prop} (h : t σ H fun vs H1 => rEnum K vs H1 R) : iEnum K t σ H R := h
theorem z_enum {K : PySem.W.Frag} {H : Hp} {p : Addr} {xs : List V} {R : It → Hp → Prop} (h1 : SqL K H p xs) (h : R (Ite K p) H) : rEnum K [.ref p] H R := ⟨p, xs, rfl, h1, h⟩
end R

/-! # N1: == and != by a class's own __eq__ -/
namespace PySem.W
open PySem PyProof.Rows
section
variable {prog : Program} {w : World} {A : Around} {E : Value → Shared → Prop} {s : Shared} {K : Frag} {x y C L f : Addr} {h₀ : Heap} {m : Str → Option Value} {ox oy : Obj} {od od' : Option Obj}
theorem ifBound_KB {M : Model} {name : Str} {id : String} {args : List Value} {Q : Option Value → Shared → Prop} (X : K.In s.heap) (I : InstAt s.heap x ox C od) (hs : findIn K (.ref C) name = some (some (.builtin id))) (hbind : ∀ self, bindSpecial (.builtin id) self = pure (.builtin id, [self]))
    (h : wpAny M A (call (.builtin id) (.ref x :: args)) (fun v => Q (some v)) E s) : wpAny M A (callSpecialIfBound? (.ref x) name args) Q E s := by
  simp only [callSpecialIfBound?, bindSpecialIfBound?]
  refine wpAny_holding (wpAny_bind (wpAny_bind (wpAny_bind (I.type.here ((looks_findIn X hs).here ?_)))))
  simp only [hbind]
  refine wpAny_bind (wpAny_askSetting (wpAny_ite ?_))
  have fin : wpAny M A (call (.builtin id) ([.ref x] ++ args) >>= fun v => pure (some v)) Q E s := wpAny_bind (wpAny_mono h (fun v s' h' => wpAny_pure h') fun _ _ h' => h')
  split
  · exact wpAny_bind (wpAny_pure (wpAny_pure fin))
  · exact wpAny_tryCatch (wpAny_bind (wpAny_pure (wpAny_pure fin)))
theorem ne_K {Q : Value → Shared → Prop} (hu : A.units + 1 < cLine) (Fq : Fr h₀ L s.heap m) (X₀ : K.In h₀) (I : InstAt s.heap x ox C od) (J : InstAt s.heap y oy C od')
    (hn : findIn K (.ref C) "__ne__" = some (some (.builtin "object.__ne__"))) (hs : findIn K (.ref C) "__eq__" = some (some (.ref f))) (hf : isFn K (.ref f) = true) (hp : plainOver K C = true)
    (h : wpAny (model prog w) A.in1 (call (.ref f) [.ref x, .ref y]) (fun v s' => ∃ b, v = .bool b ∧ Q (.bool (!b)) s') E s) : wpAny (model prog w) A (richCompare .NotEq (.ref x) (.ref y)) Q E s := by
  have X := X₀.keeps Fq.keep
  have sub : Looks (model prog w) s.heap (isInstance (.ref x) (.type "object")) true := by
    obtain ⟨cd, hc, ho⟩ := any_some hp
    have ne : cd.mro.isEmpty = false := by cases q : cd.mro with | nil => rw [q] at ho; cases ho | cons _ _ => rfl
    exact I.type.andThen (looks_mroIn X (by unfold mroIn; rw [hc, Option.bind_some, if_neg (by rw [ne]; decide), only_has ho]))
  have one : wpAny (model prog w) A (tryCompare (.ref x) (cmpInfo .NotEq).2.1 (.ref y)) (fun r s' => ∃ v, r = some v ∧ Q v s') E s := by
    unfold tryCompare
    refine wpAny_bind (ifBound_KB X I hn PySem.F.cmp_object.ne.bind ?_)
    refine wpAny_call (codeAny_call_builtin PySem.F.cmp_object.ne.plain PySem.F.cmpEntry_ne (@check_slot (model prog w) _ _ s "object.__ne__" "object" "__ne__" (.ref x) [.ref y] [] _ PySem.F.cmpKind_ne PySem.F.cmpSplit_ne sub (PySem.F.cmpArgs_ne _ _) ?_))
    unfold Builtin.«object.__ne__»
    obtain ⟨hp', g, d, t, os⟩ := s
    repeat (first
      | with_reducible refine wpAny_cRoomFor hu ?_
      | (refine wpAny_bind (m := callSpecialIfBound? (.ref x) (Str.ofString "__eq__") [.ref y])
          (ifBound_K X I hs hf (wpAny_mono h (fun r s' hr => by
            obtain ⟨b, rfl, hq⟩ := hr
            repeat (first | exact ⟨_, rfl, hq⟩ | exact hq | exact wpAny_pure hq | (refine wpAny_bind (m := truthy (.bool _)) (wpAny_truthy_bool ?_)) | wp_step)) fun _ _ e => e)))
      | wp_step)
  unfold richCompare
  simp only [oneThing_ref]
  refine wpAny_holding (wpAny_bind (wpAny_cRoomFor (Nat.lt_of_succ_lt hu) ?_))
  refine wpAny_bind (I.type.here (wpAny_bind (J.type.here ?_)))
  rw [show (Value.ref C != Value.ref C) = false from by simp]
  simp only [Bool.false_eq_true, if_false]
  refine wpAny_bind (wpAny_pure ?_)
  simp only [Bool.false_eq_true, if_false]
  refine wpAny_bind (wpAny_mono one (fun r s' z => ?_) fun _ _ e => e)
  obtain ⟨v, rfl, hq⟩ := z
  exact wpAny_pure hq
end
end PySem.W
namespace R
open PySem PySem.Spec PyProof.Rows L2
/-- x == y, x != y for two of the class at C -/
def rOwn (C : Addr) (sp : Sp) (E : XK) (g : Bool → Bool) : R2 := fun x y H Q => ∃ a b dx dy fs gs, x = .ref a ∧ y = .ref b ∧ H a = some (.ins C dx fs) ∧ H b = some (.ins C dy gs) ∧ sp [.ref a, .ref b] H (fun v H' => ∃ r, v = .bl r ∧ Q (.bl (g r)) H') E
section
variable {X : Cx} {C : Addr} {m qual : Str} {st : Stmt} {ps : List Str} {k : Nat} {sp : Sp} {E : XK}
theorem env0_in1 {P : Program} {w : World} {K : PySem.W.Frag} {mg : Str → Option Value} {base : Heap} {A : Around} {st : List Env} {s : Shared} {H : Hp} (e : Env0 P w K mg base A st s H) : Env0 P w K mg base A.in1 st s H := ⟨e.frames, e.mod, e.bs, e.bsz, e.funs, e.frf, e.hok, e.bare⟩
theorem own_run (d : MT X.K C m qual st ps) (G : FnOk X.prog X.w X.K X.mg X.base (L2.CX X.prog X.w) k d.f d.fd ps sp) {A : Around} (hr : Room k A) {pins : List (Addr × Obj)} {s : Shared} {σ : L2.St} {H : Hp} (I : Inv X pins σ H s) (e0 : Env0 X.prog X.w X.K X.mg X.base A X.stack s H) (hx : Passes (L2.CX X.prog X.w) X E)
    {a b : Addr} {Q : VK} {R : Value → Shared → Prop} (hsp : sp [.ref a, .ref b] H Q E) (hq : ∀ v u H' s', Inv X pins σ H' s' → RelV v u → Q v H' → R u s') : wpAny (model X.prog X.w) A (call (.ref d.f) [.ref a, .ref b]) R X.xe s := by
  have hl := G.len _ _ _ _ hsp
  have r2 : Vals [V.ref a, V.ref b] [Value.ref a, Value.ref b] := .cons rfl (.cons rfl .nil)
  refine wpAny_call (codeAny_mono (G.run A X.stack s H ⟨[.ref a, .ref b], []⟩ [.ref a, .ref b] [.ref a, .ref b] _ E hr e0 (by
    have := d.b s [.ref a, .ref b] I.kIn (by simpa using hl)
    simpa using this) r2 hsp) fun r s' z => ?_)
  cases r with
  | error e => exact hx pins σ H s e s' I z
  | ok fl =>
    cases fl with
    | ret w =>
      obtain ⟨v, H', I', rz, q⟩ := I.after z
      exact hq v w H' s' I' rz q
    | next => exact False.elim z
    | brk => exact False.elim z
    | cont => exact False.elim z
theorem op_ownEq (d : MT X.K C m qual st ps) (q : EQ X.K C d.f) (G : FnOk X.prog X.w X.K X.mg X.base (L2.CX X.prog X.w) k d.f d.fd ps sp) (hr : Room (k + 1) X.A) (hx : Passes (L2.CX X.prog X.w) X E) : OpR X (compareOp .Eq) (rOwn C sp E id) := by
  intro pins s σ H x y v u Q I rx ry h
  obtain ⟨a, b, dx, dy, fs, gs, rfl, rfl, ha, hb, hs⟩ := h
  cases rx
  cases ry
  obtain ⟨mA, J, _⟩ := ins_get I.hok ha
  obtain ⟨mB, J', _⟩ := ins_get I.hok hb
  obtain ⟨od, J, _⟩ := J.look
  obtain ⟨od', J', _⟩ := J'.look
  obtain ⟨m0, hF⟩ := I.fr
  show wpAny (model X.prog X.w) X.A (richCompare .Eq (.ref a) (.ref b)) (EP X pins σ Q) X.xe s
  refine PySem.W.cmp_K (op := .Eq) (tb := .ref C) hr.units0 hF I.ok.mod.kin J J'.type (by simp [PySem.W.notFirst]) q.eq q.fn ?_
  refine own_run d G (hr.mono (by omega)) I I.env0 hx hs fun v u H' s' I' r z => ?_
  obtain ⟨c, rfl, z⟩ := z
  cases r
  exact ⟨.bl c, H', I', rfl, z⟩
theorem op_ownNe (d : MT X.K C m qual st ps) (q : EQ X.K C d.f) (G : FnOk X.prog X.w X.K X.mg X.base (L2.CX X.prog X.w) k d.f d.fd ps sp) (hr : Room (k + 1) X.A) (hx : Passes (L2.CX X.prog X.w) X E) : OpR X (compareOp .NotEq) (rOwn C sp E not) := by
  intro pins s σ H x y v u Q I rx ry h
  obtain ⟨a, b, dx, dy, fs, gs, rfl, rfl, ha, hb, hs⟩ := h
  cases rx
  cases ry
  obtain ⟨mA, J, _⟩ := ins_get I.hok ha
  obtain ⟨mB, J', _⟩ := ins_get I.hok hb
  obtain ⟨od, J, _⟩ := J.look
  obtain ⟨od', J', _⟩ := J'.look
  obtain ⟨m0, hF⟩ := I.fr
  show wpAny (model X.prog X.w) X.A (richCompare .NotEq (.ref a) (.ref b)) (EP X pins σ Q) X.xe s
  refine PySem.W.ne_K (by have := hr.units; omega) hF I.ok.mod.kin J J' q.ne q.eq q.fn q.pl ?_
  refine own_run d G hr.in1 I (env0_in1 I.env0) hx hs fun v u H' s' I' r z => ?_
  obtain ⟨c, rfl, z⟩ := z
  cases r
  exact ⟨c, rfl, .bl (!c), H', I', rfl, z⟩
end
end R

/-! the text by places -/
namespace R
open PySem PySem.Spec PyProof.Rows L2
def top (i : Nat) : Stmt := PySem.Challenge.pw_rowring_k23_sum_bounds.main.body.getD i (.Pass ⟨0, 0, 0, 0⟩)
abbrev s_check_modulus : Stmt := top 8
abbrev N_check_modulus : List Str := ["modulus"]
abbrev P_check_modulus : List Str := ["modulus"]
abbrev s_sum_bound : Stmt := top 11
abbrev N_sum_bound : List Str := ["modulus", "states", "result", "step"]
abbrev P_sum_bound : List Str := ["modulus", "states"]
abbrev s_source : Stmt := top 13
abbrev N_source : List Str := ["_law_script", "_law_seed", "_law_cell"]
abbrev P_source : List Str := ["_law_script"]
abbrev s_draw : Stmt := top 14
abbrev N_draw : List Str := ["_law_rng", "_law_many", "_law_cell", "_law_got", "_law_seed"]
abbrev P_draw : List Str := ["_law_rng", "_law_many"]
abbrev s_pick : Stmt := top 15
abbrev N_pick : List Str := ["_law_rng", "_law_items"]
abbrev P_pick : List Str := ["_law_rng", "_law_items"]
abbrev s_same : Stmt := top 16
abbrev N_same : List Str := ["_law_found", "_law_due", "_law_one", "_law_other"]
abbrev P_same : List Str := ["_law_found", "_law_due"]
abbrev s_field : Stmt := top 17
abbrev N_field : List Str := ["_law_e"]
abbrev P_field : List Str := ["_law_e"]
abbrev s_outcome : Stmt := top 18
abbrev N_outcome : List Str := ["_law_ask", "_law_e"]
abbrev P_outcome : List Str := ["_law_ask"]
abbrev s_modulus : Stmt := top 19
abbrev N_modulus : List Str := ["_law_rng"]
abbrev P_modulus : List Str := ["_law_rng"]
abbrev s_tag : Stmt := top 20
abbrev N_tag : List Str := ["_law_ask"]
abbrev P_tag : List Str := ["_law_ask"]
abbrev s_bad_modulus : Stmt := top 21
abbrev N_bad_modulus : List Str := ["_law_rng"]
abbrev P_bad_modulus : List Str := ["_law_rng"]
abbrev s_bound : Stmt := top 22
abbrev N_bound : List Str := ["_law_p", "_law_k"]
abbrev P_bound : List Str := ["_law_p", "_law_k"]
abbrev s_law : Stmt := top 23
abbrev N_law : List Str := ["_law_script", "_law_rng", "_law_turn", "_law_p", "_law_states", "_law_odd", "_law_far", "_law_tags"]
abbrev P_law : List Str := ["_law_script"]
theorem sc_check_modulus : FnScope N_check_modulus P_check_modulus (defScope s_check_modulus) := ⟨rfl, rfl, rfl, by decide +kernel, rfl, by decide +kernel, by decide +kernel⟩
theorem sc_sum_bound : FnScope N_sum_bound P_sum_bound (defScope s_sum_bound) := ⟨rfl, rfl, rfl, by decide +kernel, rfl, by decide +kernel, by decide +kernel⟩
theorem sc_source : FnScope N_source P_source (defScope s_source) := ⟨rfl, rfl, rfl, by decide +kernel, rfl, by decide +kernel, by decide +kernel⟩
theorem sc_draw : FnScope N_draw P_draw (defScope s_draw) := ⟨rfl, rfl, rfl, by decide +kernel, rfl, by decide +kernel, by decide +kernel⟩
theorem sc_pick : FnScope N_pick P_pick (defScope s_pick) := ⟨rfl, rfl, rfl, by decide +kernel, rfl, by decide +kernel, by decide +kernel⟩
theorem sc_same : FnScope N_same P_same (defScope s_same) := ⟨rfl, rfl, rfl, by decide +kernel, rfl, by decide +kernel, by decide +kernel⟩
theorem sc_field : FnScope N_field P_field (defScope s_field) := ⟨rfl, rfl, rfl, by decide +kernel, rfl, by decide +kernel, by decide +kernel⟩
theorem sc_outcome : FnScope N_outcome P_outcome (defScope s_outcome) := ⟨rfl, rfl, rfl, by decide +kernel, rfl, by decide +kernel, by decide +kernel⟩
theorem sc_modulus : FnScope N_modulus P_modulus (defScope s_modulus) := ⟨rfl, rfl, rfl, by decide +kernel, rfl, by decide +kernel, by decide +kernel⟩
theorem sc_tag : FnScope N_tag P_tag (defScope s_tag) := ⟨rfl, rfl, rfl, by decide +kernel, rfl, by decide +kernel, by decide +kernel⟩
theorem sc_bad_modulus : FnScope N_bad_modulus P_bad_modulus (defScope s_bad_modulus) := ⟨rfl, rfl, rfl, by decide +kernel, rfl, by decide +kernel, by decide +kernel⟩
theorem sc_bound : FnScope N_bound P_bound (defScope s_bound) := ⟨rfl, rfl, rfl, by decide +kernel, rfl, by decide +kernel, by decide +kernel⟩
theorem sc_law : FnScope N_law P_law (defScope s_law) := ⟨rfl, rfl, rfl, by decide +kernel, rfl, by decide +kernel, by decide +kernel⟩
structure Txt (K : PySem.W.Frag) (mg : Str → Option Value) where
  b_all : mg "all" = none
  b_bool : mg "bool" = none
  b_int : mg "int" = none
  b_isinstance : mg "isinstance" = none
  b_len : mg "len" = none
  b_list : mg "list" = none
  b_range : mg "range" = none
  b_str : mg "str" = none
  b_tuple : mg "tuple" = none
  b_zip : mg "zip" = none
  a_MODULI : Addr
  c_MODULI : GV mg "MODULI" (.ref a_MODULI)
  t_MODULI : ∀ H, SqT K H a_MODULI [.int 2, .int 3, .int 5]
  c_MAX_TOTAL : GV mg "MAX_TOTAL" (.int 200)
  e_InvalidModulus : EX K mg "InvalidModulus" "InvalidModulus.__init__" (top 2) ["self"]
  e_InvalidCount : EX K mg "InvalidCount" "InvalidCount.__init__" (top 3) ["self"]
  x_RingError : Addr
  n_RingError : mg "RingError" = some (.ref x_RingError)
  x_UndefinedName : Addr
  n_UndefinedName : mg "UndefinedName" = some (.ref x_UndefinedName)
  x_EmptyHistory : Addr
  n_EmptyHistory : mg "EmptyHistory" = some (.ref x_EmptyHistory)
  h_InvalidModulus : PySem.W.exmAny K (.ref e_InvalidModulus.C) [.ref x_RingError, .ref x_UndefinedName, .ref x_EmptyHistory] = some true
  f_InvalidModulus : XfC K e_InvalidModulus.C
  h_InvalidCount : PySem.W.exmAny K (.ref e_InvalidCount.C) [.ref x_RingError, .ref x_UndefinedName, .ref x_EmptyHistory] = some true
  f_InvalidCount : XfC K e_InvalidCount.C
  check_modulus : DF K mg "check_modulus" s_check_modulus P_check_modulus
  sum_bound : DF K mg "sum_bound" s_sum_bound P_sum_bound
  source : DF K mg "_law_source" s_source P_source
  draw : DF K mg "_law_draw" s_draw P_draw
  pick : DF K mg "_law_pick" s_pick P_pick
  same : DF K mg "_law_same" s_same P_same
  field : DF K mg "_law_field" s_field P_field
  outcome : DF K mg "_law_outcome" s_outcome P_outcome
  modulus : DF K mg "_law_modulus" s_modulus P_modulus
  tag : DF K mg "_law_tag" s_tag P_tag
  bad_modulus : DF K mg "_law_bad_modulus" s_bad_modulus P_bad_modulus
  bound : DF K mg "_law_bound" s_bound P_bound
  law : DF K mg "law" s_law P_law
end R

/-! the errors of the text -/
namespace R
open PySem PySem.Spec PyProof.Rows L2
section
variable {P : Program} {w : World} {K : PySem.W.Frag} {mg : Str → Option Value} {base : Heap}
theorem sci_InvalidModulus : FnScope ["self"] ["self"] (defScope (inClass (top 2) 0)) := ⟨rfl, rfl, rfl, by decide +kernel, rfl, by decide +kernel, by decide +kernel⟩
def sp_InvalidModulus (T : Txt K mg) : Sp := spErr T.e_InvalidModulus.C (fun ws => [("tag", .str "InvalidModulus")]) 0
theorem ei_InvalidModulus (T : Txt K mg) : FnOk P w K mg base (L2.CX P w) 1 T.e_InvalidModulus.fI T.e_InvalidModulus.fd ["self"] (sp_InvalidModulus T) := by
  refine T.e_InvalidModulus.F.okX sci_InvalidModulus (fun vs H Q E h => ?_) (fun cdv A outer s H vs Q E hr h => ?_)
  · obtain ⟨a, ws, rfl, hn, _⟩ := h
    show ws.length + 1 = 1
    omega
  · obtain ⟨a, ws, rfl, hn, ha, k⟩ := h
    obtain rfl : ws = [] := List.length_eq_zero_iff.mp hn
    refine ⟨_, pss_one (ps_ost (pv 0) pe_str), ?_⟩
    refine ⟨_, rfl, ei_end (C := T.e_InvalidModulus.C) (Q := Q) T.e_InvalidModulus.cls (T.e_InvalidModulus.no _ (by decide +kernel)) ha fun dx nd ne => ?_⟩
    exact k dx _ nd upd_same ((upd_ne ne).trans upd_same) fun b o e nb => (upd_ne nb).trans ((upd_ne (ne_of_none e nd)).trans e)
theorem sci_InvalidCount : FnScope ["self"] ["self"] (defScope (inClass (top 3) 0)) := ⟨rfl, rfl, rfl, by decide +kernel, rfl, by decide +kernel, by decide +kernel⟩
def sp_InvalidCount (T : Txt K mg) : Sp := spErr T.e_InvalidCount.C (fun ws => [("tag", .str "InvalidCount")]) 0
theorem ei_InvalidCount (T : Txt K mg) : FnOk P w K mg base (L2.CX P w) 1 T.e_InvalidCount.fI T.e_InvalidCount.fd ["self"] (sp_InvalidCount T) := by
  refine T.e_InvalidCount.F.okX sci_InvalidCount (fun vs H Q E h => ?_) (fun cdv A outer s H vs Q E hr h => ?_)
  · obtain ⟨a, ws, rfl, hn, _⟩ := h
    show ws.length + 1 = 1
    omega
  · obtain ⟨a, ws, rfl, hn, ha, k⟩ := h
    obtain rfl : ws = [] := List.length_eq_zero_iff.mp hn
    refine ⟨_, pss_one (ps_ost (pv 0) pe_str), ?_⟩
    refine ⟨_, rfl, ei_end (C := T.e_InvalidCount.C) (Q := Q) T.e_InvalidCount.cls (T.e_InvalidCount.no _ (by decide +kernel)) ha fun dx nd ne => ?_⟩
    exact k dx _ nd upd_same ((upd_ne ne).trans upd_same) fun b o e nb => (upd_ne nb).trans ((upd_ne (ne_of_none e nd)).trans e)
end
end R

/-! # S: the reading's steps as one word, "sx"; facts of the heap, "hp"; addresses apart, "ne" -/
local macro_rules | `(tactic| walk_at "ne") => `(tactic| with_reducible first
  | assumption
  | (apply Ne.symm; assumption)
  | (apply R.ne_none; assumption; walk_at "hp")
  | (apply Ne.symm; apply R.ne_none; assumption; walk_at "hp"))
local macro_rules | `(tactic| walk_at "hp") => `(tactic| with_reducible first
  | assumption
  | exact L2.upd_same
  | (apply R.ne_at; (walk_at "ne"); walk_at "hp")
  | (apply R.ex_at; assumption; walk_at "hp")
  | (apply R.kp_at; assumption; (walk_at "hp"); walk_at "ne"))
local macro_rules | `(tactic| walk_at "sl") => `(tactic| with_reducible first
  | assumption
  | (apply R.sq_of; walk_at "hp")
  | (apply R.sq_ex; assumption; walk_at "sl")
  | (apply R.sq_ex; (apply R.Ex.new; assumption); walk_at "sl")
  | (apply R.sq_kp; assumption; (walk_at "sl"); walk_at "ne"))
local macro_rules | `(tactic| walk_at "st") => `(tactic| with_reducible first
  | assumption
  | (apply R.st_of; walk_at "hp")
  | (apply R.st_ex; assumption; walk_at "st")
  | (apply R.st_ex; (apply R.Ex.new; assumption); walk_at "st")
  | (apply R.st_kp; assumption; (walk_at "st"); walk_at "ne"))
local macro_rules | `(tactic| walk_at "sq") => `(tactic| with_reducible first
  | assumption
  | (apply R.sq_l; walk_at "sl")
  | (apply R.sq_t; walk_at "st")
  | (apply R.Sq.ex; assumption; walk_at "sq")
  | (apply R.Sq.ex; (apply R.Ex.new; assumption); walk_at "sq"))
local macro_rules | `(tactic| walk_at "sx") => `(tactic| repeat (first
  | with_reducible refine R.x_seq ?_
  | with_reducible refine L2.iteT ?_
  | with_reducible refine L2.iteF ?_
  | with_reducible refine R.x_cut ?_
  | with_reducible refine R.x_asg ?_
  | with_reducible refine R.x_ifS ?_
  | with_reducible refine R.x_ret ?_
  | with_reducible refine R.x_drop ?_
  | with_reducible refine R.x_for ?_
  | with_reducible refine R.x_par ?_
  | with_reducible refine R.x_two ?_
  | with_reducible refine R.x_next ?_
  | with_reducible refine R.x_c ?_
  | ((with_reducible apply R.x_var); rfl)
  | with_reducible refine R.x_op ?_
  | with_reducible refine R.x_un ?_
  | with_reducible refine R.x_cons ?_
  | with_reducible refine R.x_nil ?_
  | with_reducible refine R.x_call ?_
  | with_reducible refine R.x_callD ?_
  | with_reducible refine R.x_cb ?_
  | with_reducible refine R.x_tup ?_
  | with_reducible refine R.x_lst ?_
  | with_reducible refine R.x_if ?_
  | with_reducible refine R.x_test ?_
  | with_reducible refine R.x_tB ?_
  | with_reducible refine R.x_bl ?_
  | with_reducible refine R.x_and ?_
  | with_reducible refine R.x_or ?_
  | with_reducible refine R.x_not ?_
  | with_reducible refine R.x_andV ?_
  | with_reducible refine R.x_orV ?_
  | with_reducible refine R.x_notV ?_
  | with_reducible refine R.x_sl ?_
  | with_reducible refine R.x_nopart ?_
  | with_reducible refine R.x_part ?_
  | with_reducible refine R.x_int ?_
  | with_reducible refine R.x_s ?_
  | with_reducible refine R.x_r1 ?_
  | with_reducible refine R.x_r2 ?_
  | with_reducible refine R.x_bm ?_
  | with_reducible refine R.x_bm0 ?_
  | with_reducible refine R.x_sub ?_
  | with_reducible refine R.x_gcons ?_
  | with_reducible refine R.x_gnil ?_
  | ((with_reducible apply R.x_name); (first | (simp only [List.set_cons_succ, List.set_cons_zero]; done) | (simp only [List.set_cons_succ, List.set_cons_zero]; exact rfl) | exact rfl))
  | with_reducible refine R.z_addI ?_
  | with_reducible refine R.z_sub ?_
  | with_reducible refine R.z_neg ?_
  | with_reducible refine R.z_intI ?_
  | with_reducible refine R.z_intB ?_
  | with_reducible refine R.z_strS ?_
  | with_reducible refine R.z_abs ?_
  | ((with_reducible refine R.z_mod ?_ ?_); omega)
  | ((with_reducible refine R.z_div ?_ ?_ ?_); omega; omega)
  | ((with_reducible refine R.z_mulR ?_ ?_); omega)
  | ((with_reducible refine R.z_mulL ?_ ?_); omega)
  | with_reducible refine R.z_lt ?_
  | with_reducible refine R.z_le ?_
  | with_reducible refine R.z_gt ?_
  | with_reducible refine R.z_ge ?_
  | with_reducible refine R.z_eqI ?_
  | with_reducible refine R.z_eqS ?_
  | with_reducible refine R.z_eqB ?_
  | with_reducible refine R.z_neI ?_
  | with_reducible refine R.z_neS ?_
  | with_reducible refine R.z_neB ?_
  | with_reducible refine R.x_lc ?_
  | with_reducible refine R.x_m1 ?_
  | with_reducible refine R.x_isstr ?_
  | with_reducible refine R.x_chain ?_
  | with_reducible refine R.x_meth ?_
  | with_reducible refine R.x_make ?_
  | with_reducible refine R.x_makeK' ?_
  | with_reducible refine R.x_fld ?_
  | with_reducible refine R.x_sfld ?_
  | with_reducible refine R.x_callN ?_
  | with_reducible refine R.x_rs ?_
  | with_reducible refine R.x_enum ?_
  | with_reducible refine R.x_yes ?_
  | with_reducible refine R.x_zip ?_
  | with_reducible refine R.y_yesV ?_
  | with_reducible refine R.y_ff ?_
  | with_reducible refine R.y_tx ?_
  | with_reducible refine R.y_ft ?_
  | with_reducible refine R.y_nt ?_
  | with_reducible refine R.y_nf ?_
  | with_reducible refine R.y_dyes ?_
  | with_reducible refine R.y_dno ?_
  | ((with_reducible refine R.y_noV ?_ ?_); focus (intro q; cases q; done))
  | with_reducible refine R.z_is ?_
  | with_reducible refine R.z_isnot ?_))
local macro_rules | `(tactic| walk_at "ki") => `(tactic| first
  | exact R.ki_bool_list
  | exact R.ki_bool_tuple
  | exact R.ki_bool_bool
  | exact R.ki_bool_int
  | exact R.ki_bool_str
  | exact R.ki_int_list
  | exact R.ki_int_tuple
  | exact R.ki_int_bool
  | exact R.ki_int_int
  | exact R.ki_int_str
  | exact R.ki_str_list
  | exact R.ki_str_tuple
  | exact R.ki_str_bool
  | exact R.ki_str_int
  | exact R.ki_str_str
  | exact R.ki_list_list
  | exact R.ki_list_tuple
  | exact R.ki_list_bool
  | exact R.ki_list_int
  | exact R.ki_list_str
  | exact R.ki_tuple_list
  | exact R.ki_tuple_tuple
  | exact R.ki_tuple_bool
  | exact R.ki_tuple_int
  | exact R.ki_tuple_str
  | exact R.ki_NoneType_list
  | exact R.ki_NoneType_tuple
  | exact R.ki_NoneType_bool
  | exact R.ki_NoneType_int
  | exact R.ki_NoneType_str)
local macro_rules | `(tactic| walk_at "isi") => `(tactic| ((with_reducible apply R.z_isi); (walk_at "ty"); (walk_at "ki")))
local macro_rules | `(tactic| walk_at "ty") => `(tactic| first
  | exact L2.TyX.base (L2.TyOf.bl _)
  | exact L2.TyX.base (L2.TyOf.int _)
  | exact L2.TyX.base (L2.TyOf.str _)
  | exact L2.TyX.base L2.TyOf.non
  | (apply R.tyx_l; walk_at "sl")
  | (apply R.tyx_t; walk_at "st"))

/-! # O1: try: body, except (x1, x2, x3) as n: suite -/
namespace R
open PySem PySem.Spec PyProof.Rows L2
theorem flyingZ_keeps {B h h' : Heap} {l : List Env} {e : Addr} {Z : Obj → Prop} (R : HandSPX.FlyingZ B l e Z h) (k : ∀ b o, h.get? b = some o → h'.get? b = some o) : HandSPX.FlyingZ B l e Z h' := by
  obtain ⟨f1, f2, f3, oe, ws, T, oT, ts, he, hc, hd, h1, hn, hne, hT, hdT, h3⟩ := R
  exact ⟨fun b o q => k b o (f1 b o q), f2, f3.of_keeps fun b o q _ => ⟨o, k b o q, rfl⟩, oe, ws, T, oT, ts, k _ _ he, hc, hd, h1, hn, hne, k _ _ hT, hdT, h3⟩
/-- what the clause wishes of an exception of the body: it matches -/
def wAs3 (K : PySem.W.Frag) (cs : List Value) (i : Nat) (ts : Addr → Value → Option Addr → TS) (D : Ends) : WX := fun cls d σ H =>
  PySem.W.exmAny K cls cs = some true ∧ ∀ a, H a = none → ts a cls d { nx := fun σ' H' => D.nx (σ'.set i none) H', rt := D.rt, bk := fun σ' H' => D.bk (σ'.set i none) H', ct := fun σ' H' => D.ct (σ'.set i none) H' } (σ.set i (some (.ref a))) H
section
variable {X : Cx} {x1 x2 x3 n : Str} {c1 c2 c3 : Value} {i kk : Nat} {body suite : List Stmt} {b₀ : Stmt} {p1 p2 p3 tpos pos pos' : Pos} {tb : WX → TS} {ts : Addr → Value → Option Addr → TS}
theorem ps_try_as3 (hs : X.stack = X.env :: X.outer) (hf : X.env.frame = some X.env.locals) (hN : X.N.Nodup) (hi : X.N[i]? = some n) (hln : X.env.kindOf n = some .local) (n1 : Names X x1 c1) (n2 : Names X x2 c2) (n3 : Names X x3 c3)
    (hb : ∀ (W : WX) (pn : List (Addr × Obj)) (xe : Value → Shared → Prop), Takes (X.tr pn xe) W → PassesOwn (model X.prog X.w) X.A X.env xe → PSs (X.tr pn xe) body (tb W))
    (hsu : ∀ (a : Addr) (oe : Obj) (cls : Value) (d : Option Addr) (pn : List (Addr × Obj)), Zc cls d oe → (∃ vs, oe.data = .fields vs) → PSs (X.suite a ((a, oe) :: pn)) (b₀ :: suite) (ts a cls d)) :
    PS X (.Try body [.ExceptHandler (some (.Tuple [.Name x1 p1, .Name x2 p2, .Name x3 p3] kk tpos)) (some n) (b₀ :: suite) pos'] [] [] pos) (fun D σ H => tb (wAs3 X.K [c1, c2, c3] i ts D) D σ H) := by
  refine ⟨fun pins s σ H D I h => ?_⟩
  have ok := I.ok
  have hfr : X.A.frames = some (X.env :: X.outer) := by rw [ok.frames, hs]
  have hloc : Loc X.env.scope n := .inl hln
  refine wpAny_Try_except ?_
  refine wpAny_mono ((hb (wAs3 X.K [c1, c2, c3] i ts D) (X.pn ++ pins) (fun e s₁ => wpAny (model X.prog X.w) X.A (noteFrame e X.env) (fun _ s₂ => wpAny (model X.prog X.w) X.A (setFlight e none) (fun _ s₃ =>
    wpAny (model X.prog X.w) X.A (handleBy e X.env [.ExceptHandler (some (.Tuple [.Name x1 p1, .Name x2 p2, .Name x3 p3] kk tpos)) (some n) (b₀ :: suite) pos']) (SP X pins D) X.xe s₃) X.xe s₂) X.xe s₁) (fun u s' xx => ?_) PassesOwn.looking).run [] s σ H D (I.toTry _) h) (fun f s1 hsp => ?_) (fun e s1 he => he)
  · -- the catch
    obtain ⟨a, B, sI, pins', σ', H', cls, d, rfl, J', nb, up, sky, na, os, ag, hb1, hyes⟩ := xx
    have J : Inv X pins σ' H' sI := J'.ofTry ok
    have sky' : Sky B (X.env :: X.outer) a (Zc cls d) X.env.locals s'.heap := by rw [← hs]; exact sky
    show wpAny (model X.prog X.w) X.A (noteFrame (.ref a) X.env) _ _ _
    refine Sky.land Zc.steady hfr hf sky' fun h3 fl3 up3 => ?_
    obtain ⟨oe3, vs3, he3, hz3, hd3⟩ := fl3.there
    have notFr : ∀ {h : Heap} {o : Obj} {vs : Array Value}, h.FunFrames B (X.env :: X.outer) → h.get? a = some o → o.data = .fields vs → a ∉ frs (X.env :: X.outer) := fun {h o vs} ff e dd hm => by
      obtain ⟨_, o', e', hnf⟩ := ff.mem hm
      rw [e] at e'; cases e'
      exact hnf _ dd
    have nfr := notFr fl3.2.2.1 he3 hd3
    have nL : a ≠ X.env.locals := fun z => nfr (List.mem_filterMap.mpr ⟨X.env, List.mem_cons_self, by rw [hf, z]⟩)
    have nF : a ∉ X.fs := fun hm => by
      obtain ⟨e, he, q⟩ := List.mem_filterMap.mp hm
      exact nfr (List.mem_filterMap.mpr ⟨e, List.mem_cons_of_mem _ he, q⟩)
    have J3 : Inv X pins σ' H' { s' with heap := h3 } := J.landed nb fl3.1 (up.trans up3) os ag
    have S3 := J3.suite he3 hd3 na nL nF
    refine wpAny_handleBy_cons (codeAny_handlers_test ?_) (by intro q; cases q)
    have LT : PySem.W.Looks (model X.prog X.w) h3 (typeOf (.ref a)) cls := fun A Q E s k q => wpAny_typeOf_ref (k _ _ he3) (by rw [hz3.1]; exact q)
    have one : ∀ {x : Str} {c : Value} {p : Pos}, Names X x c → ∀ {Q : Value → Shared → Prop} {E : Value → Shared → Prop}, Q c { s' with heap := h3 } → wpAny (model X.prog X.w) (X.A.mark (some (.ref a))) (eval (.Name x p) X.env) Q E { s' with heap := h3 } := fun {x c p} hc {Q E} q => by
      obtain ⟨hg, hdbg, hm | ⟨hm, hv, hnn⟩⟩ := hc
      · exact ld_glob (X := X.suite a ((a, oe3) :: (X.pn ++ pins))) S3 hg hm q hdbg
      · exact ld_blt (X := X.suite a ((a, oe3) :: (X.pn ++ pins))) S3 hg hm hv q hnn hdbg
    refine wpAny_Tuple (PySem.wpAny_items_cons (one n1 ?_))
    refine PySem.wpAny_items_cons (one n2 ?_)
    refine PySem.wpAny_items_cons (one n3 ?_)
    refine PySem.wpAny_items_nil ⟨by size_fits, ?_⟩
    have kp : ∀ q o, h3.get? q = some o → (h3.push { cls := .type "tuple", data := .seq [c1, c2, c3].toArray }).get? q = some o := fun _ _ z => Heap.get?_push_of_some _ z
    refine (PySem.W.exm_tup3 (J3.kIn.keeps kp) (LT.keeps kp) (Heap.get?_push_size h3 rfl) hb1).here ?_
    generalize h3.push { cls := .type "tuple", data := .seq [c1, c2, c3].toArray } = h3' at kp
    have fl3' := flyingZ_keeps fl3 kp
    have up3' := (up.trans up3).trans (Heap.UpToSlots.of_keeps kp)
    refine codeAny_handlers_suite_as ?_
    refine HandSPX.lands_againZ fl3' fun h4 fl4 up4 => ?_
    have J4 : Inv X pins σ' H' { s' with heap := h4 } := J.landed nb fl4.1 (up3'.trans up4) os ag
    obtain ⟨oe4, vs4, he4, hz4, hd4⟩ := fl4.there
    have S4 := J4.suite he4 hd4 na nL nF
    refine store_ok (X := X.suite a ((a, oe4) :: (X.pn ++ pins))) (v := .ref a) S4 hN hi hloc rfl (fun s5 S5 => ?_) (.inr hln)
    refine wpAny_mono ((hsu a oe4 cls d (X.pn ++ pins) hz4 ⟨_, hd4⟩).run [] s5 _ H' _ S5 (hyes a na)) (fun f s6 hsp => ?_) (fun _ _ z => False.elim z)
    have end_ : ∀ {σ6 : L2.St} {H6 : Hp} {Q : Shared → Prop}, Inv (X.suite a ((a, oe4) :: (X.pn ++ pins))) [] σ6 H6 s6 → (∀ s7, Inv X pins (σ6.set i none) H6 s7 → Q s7) →
        wpAny (model X.prog X.w) X.A (do bindName X.env n .none; unbindBehindTheSuite X.env n pos') (fun _ s7 => Q s7) X.xe s6 := fun {σ6 H6 Q} S6 hq => gone_ok (S6.unsuite ok) hN hi hln hq
    cases f with
    | next =>
      obtain ⟨σ6, H6, S6, q6⟩ := hsp
      exact end_ S6 fun s7 J7 => ⟨_, _, J7, q6⟩
    | brk =>
      obtain ⟨σ6, H6, S6, q6⟩ := hsp
      exact end_ S6 fun s7 J7 => ⟨_, _, J7, q6⟩
    | cont =>
      obtain ⟨σ6, H6, S6, q6⟩ := hsp
      exact end_ S6 fun s7 J7 => ⟨_, _, J7, q6⟩
    | ret u =>
      obtain ⟨v6, σ6, H6, S6, r6, q6⟩ := hsp
      exact end_ S6 fun s7 J7 => ⟨_, _, _, J7, r6, q6⟩
  · cases f with
    | next =>
      obtain ⟨σ', H', J', q⟩ := hsp
      exact wpAny_execs_nil ⟨σ', H', J'.ofTry ok, q⟩
    | brk =>
      obtain ⟨σ', H', J', q⟩ := hsp
      exact ⟨σ', H', J'.ofTry ok, q⟩
    | cont =>
      obtain ⟨σ', H', J', q⟩ := hsp
      exact ⟨σ', H', J'.ofTry ok, q⟩
    | ret u =>
      obtain ⟨v, σ', H', J', r, q⟩ := hsp
      exact ⟨v, σ', H', J'.ofTry ok, r, q⟩
end
end R

/-! # O2: a lambda called any frames deeper -/
namespace R
open PySem PySem.Spec PyProof.Rows L2 LamX
section
variable {X : Cx} {pins : List (Addr × Obj)} {σ : L2.St} {H HZ : Hp} {s s1 : Shared}
theorem lam_start3 {fs : List Addr} {A : Around} {outer : List Env} {E : XK} {scope : Scope} {f c' : Addr} {h₁ : Heap} {tk : Nat} (I : Inv X pins σ H s) (L : LamS X.env.scope scope) (e0 : Env0 X.prog X.w X.K X.mg X.base A outer s1 HZ) (hd : A.handled = none)
    (un : Un fs [] H HZ s.heap s1.heap) (hns : h₁.Ns s1.heap.objs.size fun y => ([] : List (Str × Value)).reverse.lookup y) (kp : ∀ b o, s1.heap.get? b = some o → h₁.get? b = some o) :
    Inv (lamCx X A outer s1 HZ E scope f c') [] σ HZ { s1 with heap := h₁, toks := tk } := by
  have hfree := L.has I.ok
  have cm : ∀ {y c}, (cloFrom X.env.cells scope.names []).lookup y = some c → X.env.cells.lookup y = some c := fun {y c} e => by
    rcases cloFrom_mem (PySem.mem_of_lookup e) with hm | ⟨h1, h2⟩
    · cases hm
    · obtain ⟨c1, hc⟩ := hfree _ h1 rfl
      have hc : X.env.cells.lookup y = some c1 := hc
      have e2 : c = c1 := by
        rw [h2, hc] <;> rfl
      rw [e2]
      exact hc
  have look : ∀ {y}, scope.names.lookup y = some .free → ∃ c, (cloFrom X.env.cells scope.names []).lookup y = some c := fun {y} hl => by
    have hy : (y, NameKind.free) ∈ scope.names := PySem.mem_of_lookup hl
    exact mem_lookup (cloFrom_has (cells := X.env.cells) (acc := []) hy)
  have cellK : ∀ {c : Addr} {v : Option Value}, H c = none → s.heap.IsCell c v → h₁.IsCell c v := fun {c v} n ⟨o, ho, hd⟩ => by
    obtain ⟨sl, q⟩ := un.any ho n (by simp)
    exact ⟨_, kp _ _ q, hd⟩
  have noA : ∀ b : Addr, b ∉ (lamCx X A outer s1 HZ E scope f c').ex := fun b z => absurd (show b ∈ ([] : List Addr) from z) (by simp)
  refine ⟨⟨e0.mod, L.kind, rfl, rfl, Nat.le_refl _, fun y z c e1 e2 => I.ok.inj y z c (cm e1) (cm e2), fun y hy => ?_, fun y c z _ => ?_, fun _ => hd, Around.frames_deeper e0.frames, .inr ⟨rfl, rfl⟩, fun b z => absurd z (noA b), e0.bs, e0.bsz, fun b _ _ => noA b,
      fun b z => absurd z (noA b), e0.funs, e0.frf⟩,
    rfl, e0.bare, Un.kept kp, ⟨_, hns, fun i y v e1 e2 e3 => ?_⟩, fun y c e => ?_, e0.hok.fresh (Nat.le_refl _), fun y c e => ?_, fun q hq => absurd (show q ∈ ([] : List (Addr × Obj)) ++ [] from hq) (by simp), e0.hok.kept kp, I.len⟩
  · have hy : scope.names.lookup y = some .cell ∨ scope.names.lookup y = some .free := hy
    rcases hy with hy | hy
    · exact absurd rfl (L.own _ (PySem.mem_of_lookup hy)).2
    · exact look hy
  · have z : false = true := z
    cases z
  · have e3 : Vis scope y := e3
    rcases e3 with k | k | k
    · exact absurd rfl (L.own _ (PySem.mem_of_lookup k)).1
    · exact absurd rfl (L.own _ (PySem.mem_of_lookup k)).2
    · obtain ⟨m, hn, hl⟩ := I.loc
      have hvis : Vis X.env.scope y := (L.free _ (PySem.mem_of_lookup k) rfl).elim (fun k => .inr (.inl k)) (fun k => .inr (.inr k))
      obtain ⟨w', r, q⟩ := hl i y v e1 e2 hvis
      obtain ⟨c2, h2⟩ := look k
      refine ⟨w', r, .inr ⟨.inr k, c2, h2, ?_⟩⟩
      have c1 := cm h2
      rcases q with ⟨k', _⟩ | ⟨_, c3, e', z⟩
      · have k' : X.env.scope.names.lookup y = some .local := k'
        rcases L.free _ (PySem.mem_of_lookup k) rfl with k2 | k2 <;> rw [show X.env.scope.names.lookup y = _ from k2] at k' <;> cases k'
      · rw [c1] at e'
        cases e'
        exact cellK (I.freeC y _ c1) z
  · obtain ⟨w', z⟩ := I.cell y c (cm e)
    exact ⟨w', cellK (I.freeC y c (cm e)) z⟩
  · obtain ⟨v, o, ho, hd⟩ := I.cell y c (cm e)
    exact un.free c o ho (I.freeC y c (cm e)) (by simp)
/-- a lambda made in the frame X, as it stands -/
structure LamAt (X : Cx) (pins : List (Addr × Obj)) (σ : L2.St) (H : Hp) (s : Shared) (params : Arguments) (body : Expr) (scope : Scope) (f c' : Addr) (pm ctv : Value) : Prop where
  inv : Inv X pins σ H s
  lam : LamS X.env.scope scope
  obj : s.heap.get? f = some (PySem.W.kla_obj "<lambda>" (X.env.qual ++ "<lambda>") params body scope (cloFrom X.env.cells scope.names []) pm c' ctv)
  new : H f = none
  bind : bindArgs (PySem.W.kla_fn "<lambda>" (X.env.qual ++ "<lambda>") params body scope (cloFrom X.env.cells scope.names []) pm (.ref c') ctv) ⟨[], []⟩ = pure []
/-- x() in a frame entered at s2, H2 -/
theorem pe_act2 {CXg : CXT} {Eg : XK} {Ng : List Str} {qg : Str} {sg : Scope} {g f c' : Addr} {cdg pm ctv : Value} {params : Arguments} {body : Expr} {scope : Scope} {k i : Nat} {a : Str} {pn : List (Addr × Obj)} {xe : Value → Shared → Prop} {W : WX} {E : XK} {tb : TE} {p1 p2 : Pos}
    {A2 : Around} {outer2 : List Env} {s2 : Shared} {H2 : Hp} (la : LamAt X pins σ H s params body scope f c' pm ctv) (un0 : Un (frs outer2) [] H H2 s.heap s2.heap) (hfr : f ∉ frs outer2)
    (tk : Takes ((cxOf CXg X.prog X.w X.K X.mg X.base Ng qg sg g cdg A2 outer2 s2 H2 Eg).tr pn xe) W) (hW : ∀ cls d (σ' : L2.St) H', σ'.length = Ng.length → E cls d H' → W cls d σ' H') (hr : Room (k + 1) (A2.deeper (envOfC qg sg s2.heap.objs.size g cdg)))
    (hbody : ∀ (A : Around) (outer : List Env) (s' : Shared) (H' : Hp), Room k (A.deeper (lamEnv X scope s'.heap.objs.size f c')) → PE (lamCx X A outer s' H' E scope f c') body tb)
    (hN : Ng[i]? = some a) (hv : Vis sg a) (hd : (a == ("__debug__" : Str)) = false := by decide) (hcd : (a == ("__classdict__" : Str)) = false := by decide) :
    PE ((cxOf CXg X.prog X.w X.K X.mg X.base Ng qg sg g cdg A2 outer2 s2 H2 Eg).tr pn xe) (.Call (.Name a p1) [] [] p2)
      (fun σZ HZ Q => σZ[i]? = some (some (.ref f)) ∧ HZ c' = some (CodeO c' (X.env.qual ++ "<lambda>")) ∧ tb σ HZ Q) := by
  obtain ⟨I, L, hf, hfn, hbind⟩ := la
  refine ⟨fun pinsZ sZ σZ HZ Q IZ h => ?_⟩
  obtain ⟨hs, hc, ht⟩ := h
  refine wpAny_Call_Name_kw (thn ((pe_var (pos := p1) (i := i) hN hv hd hcd).run pinsZ sZ σZ HZ (fun v H1 => v = .ref f ∧ H1 = HZ) IZ ⟨.ref f, hs, rfl, rfl⟩) fun u s1 ⟨v, H1, I1, r1, q1⟩ => ?_)
  obtain ⟨ev, eH⟩ := q1
  subst ev
  rw [eH] at I1
  obtain rfl : u = Value.ref f := r1
  have un : Un (frs outer2) [] H HZ s.heap s1.heap := un0.trans I1.base
  have of1 : s1.heap.get? f = some (PySem.W.kla_obj "<lambda>" (X.env.qual ++ "<lambda>") params body scope (cloFrom X.env.cells scope.names []) pm c' ctv) := un.keep f _ hf hfn hfr (fun z => nomatch (show f ∈ ([] : List Addr) from z))
  refine PySem.W.callWith_F0 ⟨_, _, _, _, of1⟩ ?_
  obtain ⟨⟨oc, vs, t, hoc, hdc, hvc⟩, _, _⟩ := I1.hok c' _ hc
  have rc : codeAny (model X.prog X.w) (A2.deeper (envOfC qg sg s2.heap.objs.size g cdg)) (.call (.ref f) ⟨[], []⟩) (CR (L2.CX X.prog X.w) (envOfC qg sg s2.heap.objs.size g cdg :: outer2) X.prog X.w HZ s1 Q E) s1 := by
    refine PySem.W.kla_callFunE hr.depth of1 rfl L.co L.gen rfl ⟨c', oc, vs, t, rfl, hoc, hdc, hvc⟩ ?_
    rw [hbind]
    refine wpAny_pure (wpAny_newFunctionEnv (fun y hy => (L.own y hy).2) (fun y hy => absurd hy (by simp)) (fun h₁ hns hsb => ⟨I1.nolimit.fresh _ hsb, ?_⟩) L.kind)
    show codeAny _ _ (.expr body (lamEnv X scope s1.heap.objs.size f c')) _ _
    have kp : ∀ b o, s1.heap.get? b = some o → h₁.get? b = some o := fun b o e => hsb.extBut b o (Nat.ne_of_lt (Heap.lt_size e)) (Heap.get?_push_of_some _ e)
    have J : Inv (lamCx X (A2.deeper (envOfC qg sg s2.heap.objs.size g cdg)) (envOfC qg sg s2.heap.objs.size g cdg :: outer2) s1 HZ E scope f c') [] σ HZ { s1 with heap := h₁, toks := s1.toks + ([] : List (Str × Value)).length } :=
      lam_start3 I L I1.env0 hr.hd un hns kp
    refine PySem.W.kla_codeExpr (wpAny_mono ((hbody _ _ s1 HZ (hr.deeper _)).run [] _ _ HZ Q J ht) (fun v s' hq => ?_) fun e s' hq => hq)
    obtain ⟨w', H', J', rv, q⟩ := hq
    exact ⟨w', H', J'.os, J'.bare, J'.base, J'.hok, rv, q⟩
  refine wpAny_call (codeAny_mono rc fun r s' hq => ?_)
  cases r with
  | error e => exact tk e s' (XE.of_call I1 (fun cls d H' h => hW cls d σZ H' I1.len h) hq)
  | ok fl =>
    cases fl with
    | ret u => exact I1.after hq
    | next => exact False.elim hq
    | brk => exact False.elim hq
    | cont => exact False.elim hq
end
end R

/-! # D1: the law's draws -/
namespace R
open PySem PySem.Spec PyProof.Rows L2
/-- the law's source of numbers stands at r, the script's part at l -/
def Rng (H : Hp) (r l : Addr) : Prop := ∃ (ns : List Int) (i c s : Int), H r = some (.lst [.ref l, .int i, .int c, .int s]) ∧ H l = some (.lst (ns.map V.int)) ∧ l ≠ r ∧ ns.length ≤ 63 ∧ 0 ≤ i ∧ 0 ≤ c ∧ 0 ≤ s ∧ s < 2147483563
theorem Rng.ex {H H' : Hp} {r l : Addr} (h : Rng H r l) (e : Ex H H') : Rng H' r l := by
  obtain ⟨ns, i, c, s, h1, h2, h3⟩ := h
  exact ⟨ns, i, c, s, e _ _ h1, e _ _ h2, h3⟩
theorem Rng.kp {H H' : Hp} {r l q : Addr} (h : Rng H r l) (e : Kp q H H') (n : q ≠ r) (m : q ≠ l) : Rng H' r l := by
  obtain ⟨ns, i, c, s, h1, h2, h3⟩ := h
  exact ⟨ns, i, c, s, e _ _ h1 (Ne.symm n), e _ _ h2 (Ne.symm m), h3⟩
theorem Rng.upd {H : Hp} {r l q : Addr} {o : HO} (h : Rng H r l) (n : q ≠ r) (m : q ≠ l) : Rng (upd H q o) r l := h.kp Kp.set n m
theorem Rng.ne {H : Hp} {r l p : Addr} (h : Rng H r l) (n : H p = none) : p ≠ r := by
  obtain ⟨ns, i, c, s, h1, h2, h3⟩ := h
  exact Ne.symm (ne_of_none h1 n)
theorem Rng.nel {H : Hp} {r l p : Addr} (h : Rng H r l) (n : H p = none) : p ≠ l := by
  obtain ⟨ns, i, c, s, h1, h2, h3⟩ := h
  exact Ne.symm (ne_of_none h2 n)
def spSource (K : PySem.W.Frag) : Sp := fun vs H Q _ => ∃ (a : Addr) (ns : List Int), vs = [.ref a] ∧ SqL K H a (ns.map V.int) ∧ ∀ (H' : Hp) (r l : Addr), Ex H H' → H r = none → H l = none → Rng H' r l → Q (.ref r) H'
def spDraw : Sp := fun vs H Q _ => ∃ (r l : Addr) (m : Int), vs = [.ref r, .int m] ∧ Rng H r l ∧ 0 < m ∧ m < 2 ^ 200 ∧ ∀ (n : Int) (H' : Hp), 0 ≤ n → n < m → Kp r H H' → Rng H' r l → Q (.int n) H'
theorem cut63 (ns : List Int) : ∃ ms : List Int, cutV (ns.map V.int) none (some 63) = ms.map V.int ∧ ms.length ≤ 63 := by
  refine ⟨(ns.drop (HT.sIx (ns.map V.int).length 0 none)).take (HT.sIx (ns.map V.int).length (ns.map V.int).length (some 63) - HT.sIx (ns.map V.int).length 0 none), ?_, ?_⟩
  · unfold cutV
    rw [List.map_take, List.map_drop]
  · rw [List.length_take]
    have : HT.sIx (ns.map V.int).length (ns.map V.int).length (some 63) ≤ 63 := by
      unfold HT.sIx
      simp only [Option.getD_some]
      try split
      all_goals omega
    omega
theorem atN {α : Type} {xs : List α} {i : Int} (h0 : 0 ≤ i) (h1 : i < (xs.length : Int)) : ∃ v, xs[i.toNat]? = some v ∧ atI xs i = some v := by
  have h2 : i.toNat < xs.length := by omega
  refine ⟨xs[i.toNat], List.getElem?_eq_getElem h2, ?_⟩
  have e : ((i.toNat : Nat) : Int) = i := by omega
  have q := atI_nat (List.getElem?_eq_getElem h2)
  rw [e] at q
  exact q
theorem atM {xs : List V} {i : Int} (h0 : 0 ≤ i) (h1 : i < (xs.length : Int)) : ∃ v, v ∈ xs ∧ atI xs i = some v := by
  obtain ⟨v, h2, h3⟩ := atN h0 h1
  exact ⟨v, List.mem_of_getElem? h2, h3⟩
section
variable {P : Program} {w : World} {K : PySem.W.Frag} {mg : Str → Option Value} {base : Heap}
theorem ok_source (T : Txt K mg) : Ok P w K mg base 2 T.source (spSource K) := by
  refine ok_of T.source sc_source (fun vs H Q E h => ?_) (fun cdv A outer s H vs Q E hr h => ?_)
  · obtain ⟨a, ns, rfl, _⟩ := h
    rfl
  · obtain ⟨a, ns, rfl, hS, k⟩ := h
    refine ⟨_, ((pss_cons (ps_set (i := 1) sc_source.nd rfl (by first | exact Or.inl rfl | exact Or.inr rfl) (pe_op op_sAdd pe_int (pe_callB call_sLen (by rfl) T.b_len (by decide +kernel) (pa_cons (pe_slice sl_s (pv 0) po_none (po_some pe_int)) pa_nil))))
  (pss_cons (ps_for ownE rfl (pi_s (pe_slice sl_s (pv 0) po_none (po_some pe_int))) (pg_name (i := 2) sc_source.nd rfl (by first | exact Or.inl rfl | exact Or.inr rfl))
  (pss_one (ps_set (i := 1) sc_source.nd rfl (by first | exact Or.inl rfl | exact Or.inr rfl) (pe_op op_sMod (pe_op op_sAdd (pe_op op_sAdd (pe_op op_sMul (pv 1) pe_int) (pe_op op_sMod (pv 2) pe_int)) pe_int) pe_int))))
  (pss_one (ps_ret (pe_lst (pa_cons (pe_callTy call_sList (by rfl) T.b_list (by decide +kernel) (pa_cons (pe_slice sl_s (pv 0) po_none (po_some pe_int)) pa_nil)) (pa_cons pe_int (pa_cons pe_int (pa_cons (pv 1) pa_nil)))))))))), ?_⟩
    refine go [some (.ref a), none, none] rfl ?_
    try dsimp only [L2.cxOf]
    walk_at "sx"
    refine z_slL (by walk_at "sl") fun p1 n1 => ?_
    obtain ⟨ms, e1, hms⟩ := cut63 ns
    rw [e1]
    have E1 := Ex.new (o := .lst (ms.map V.int)) n1
    walk_at "sx"
    refine z_len (by walk_at "sq") ?_
    walk_at "sx"
    refine z_slL (by walk_at "sl") fun p2 n2 => ?_
    rw [e1]
    walk_at "sx"
    have E2 := Ex.new (o := .lst (ms.map V.int)) n2
    refine z_sL (sq_of upd_same) ?_
    refine for_list (K := K) (a := p2) (xs := ms.map V.int) (fun i σ H' => ∃ (s : Int) (v : Option V), σ = [some (.ref a), some (.int s), v] ∧ Ex (upd (upd H p1 (.lst (ms.map V.int))) p2 (.lst (ms.map V.int))) H' ∧ 0 ≤ s ∧ s < 2147483563)
      ⟨_, none, rfl, Same.refl _, by omega, by rw [List.length_map]; omega⟩ (fun i σ H' _ ⟨_, _, _, e2, _⟩ => sq_of (e2 _ _ upd_same)) ?_ ?_
    · rintro i y σ H' hi ⟨s, v, rfl, e2, h0, h1⟩
      obtain ⟨z, rfl⟩ : ∃ z, y = V.int z := by
        rw [List.getElem?_map] at hi
        cases q : ms[i]? with
        | none => rw [q] at hi; cases hi
        | some z => rw [q] at hi; exact ⟨z, (Option.some.inj hi).symm⟩
      walk_at "sx"
      exact ⟨_, _, rfl, e2, Int.emod_nonneg _ (by decide), Int.emod_lt_of_pos _ (by decide)⟩
    · rintro σ H' ⟨s, v, rfl, e2, h0, h1⟩
      walk_at "sx"
      refine z_slL (by walk_at "sl") fun p3 n3 => ?_
      rw [e1]
      walk_at "sx"
      refine z_list (sq_l (sq_of upd_same)) fun p4 n4 => ?_
      walk_at "sx"
      refine z_lst fun p5 n5 => ?_
      have a1 := upd_none n4
      have a2 := upd_none n5
      have a3 := upd_none a2.2
      refine k _ p5 p4 ?_ ?_ ?_ ⟨ms, 0, 0, s, upd_same, ?_, Ne.symm a2.1, hms, by decide, by decide, h0, h1⟩
      · exact ((((E1.trans E2).trans e2).trans (Ex.new n3)).trans (Ex.new n4)).trans (Ex.new n5)
      · exact E1.none (E2.none (e2.none a3.2))
      · exact E1.none (E2.none (e2.none a1.2))
      · rw [upd_ne (Ne.symm a2.1)]
        exact upd_same
theorem ok_draw (T : Txt K mg) : Ok P w K mg base 1 T.draw spDraw := by
  refine ok_of T.draw sc_draw (fun vs H Q E h => ?_) (fun cdv A outer s H vs Q E hr h => ?_)
  · obtain ⟨r, l, m, rfl, _⟩ := h
    rfl
  · obtain ⟨r, l, m, rfl, ⟨ns, i, c, sd, h1, h2, nlr, hl, hi, hc, hs0, hs1⟩, hm, hm2, k⟩ := h
    refine ⟨_, ((C8.pss_cut (ps_if (PW.pt (pw_and (pt_cmpR (op_sEq hr.units) (pe_ix ix_s (pv 0) pe_int (fun _ _ => rfl)) pe_int (nomark _)) (pw_and1 (pt_cmpR op_sLt (pe_ix ix_s (pv 0) pe_int (fun _ _ => rfl)) (pe_callB call_sLen (by rfl) T.b_len (by decide +kernel) (pa_cons (pe_ix ix_s (pv 0) pe_int (fun _ _ => rfl)) pa_nil)) (nomark _)))))
  (pss_cons (ps_set (i := 2) sc_draw.nd rfl (by first | exact Or.inl rfl | exact Or.inr rfl) (pe_ix ix_s (pe_ix ix_s (pv 0) pe_int (fun _ _ => rfl)) (pe_ix ix_s (pv 0) pe_int (fun _ _ => rfl)) (fun _ _ => rfl)))
  (pss_cons (ps_asg (pe_op op_sAdd (pe_ix ix_s (pv 0) pe_int (fun _ _ => rfl)) pe_int) (pg_sub (pv 0) pe_int set_list))
  (pss_one (ps_if (pt_cmpR op_sGe (pv 2) (pe_op op_sPow pe_int pe_int) (nomark _))
  (pss_one (ps_asg (pv 2) (pg_sub (pv 0) pe_int set_list)))
  (pss_one (ps_asg (pe_op op_sMod (pe_op op_sAdd (pe_op op_sAdd (pe_op op_sMul (pe_ix ix_s (pv 0) pe_int (fun _ _ => rfl)) pe_int) (pe_op op_sMul (pe_op op_sMod (pv 2) pe_int) pe_int)) pe_int) pe_int) (pg_sub (pv 0) pe_int set_list)))))))
  pss_nil)
  (pss_cons (ps_if (pt_cmpR op_sGt (pe_ix ix_s (pv 0) pe_int (fun _ _ => rfl)) pe_int (nomark _))
  (pss_cons (ps_set (i := 3) sc_draw.nd rfl (by first | exact Or.inl rfl | exact Or.inr rfl) (pe_op op_sMod (pe_ix ix_s (pv 0) pe_int (fun _ _ => rfl)) (pv 1)))
  (pss_cons (ps_asg (pe_op op_sDiv (pe_ix ix_s (pv 0) pe_int (fun _ _ => rfl)) (pv 1)) (pg_sub (pv 0) pe_int set_list))
  (pss_one (ps_ret (pv 3)))))
  pss_nil)
  (pss_cons (ps_set (i := 4) sc_draw.nd rfl (by first | exact Or.inl rfl | exact Or.inr rfl) (pe_ix ix_s (pv 0) pe_int (fun _ _ => rfl)))
  (pss_cons (ps_asg (pe_op op_sMod (pe_op op_sAdd (pe_op op_sAdd (pe_op op_sMul (pv 4) (pe_op op_sAdd (pe_op op_sMod (pv 4) pe_int) pe_int)) (pe_op op_sMul (pv 4) pe_int)) pe_int) pe_int) (pg_sub (pv 0) pe_int set_list))
  (pss_one (ps_ret (pe_op op_sMod (pe_op op_sAdd (pe_op op_sDiv (pe_ix ix_s (pv 0) pe_int (fun _ _ => rfl)) pe_int) (pe_op op_sMul (pe_op op_sMod (pe_ix ix_s (pv 0) pe_int (fun _ _ => rfl)) pe_int) pe_int)) (pv 1))))))))), ?_⟩
    refine go [some (.ref r), some (.int m), none, none, none] rfl ?_
    try dsimp only [L2.cxOf]
    walk_at "sx"
    refine ⟨fun σ' H' => ∃ (i c sd : Int) (v : Option V), σ' = [some (.ref r), some (.int m), v, none, none] ∧ Kp r H H' ∧ H' r = some (.lst [.ref l, .int i, .int c, .int sd]) ∧ 0 ≤ i ∧ 0 ≤ c ∧ 0 ≤ sd ∧ sd < 2147483563, ?_, ?_⟩
    · walk_at "sx"
      refine z_ix (by walk_at "sq") (v := .int c) rfl ?_
      walk_at "sx"
      refine y_ite (fun c0 => ?_) (fun c0 => ?_)
      · walk_at "sx"
        refine z_ix (by walk_at "sq") (v := .int i) rfl ?_
        walk_at "sx"
        refine z_ix (by walk_at "sq") (v := .ref l) rfl ?_
        walk_at "sx"
        refine z_len (by walk_at "sq") ?_
        walk_at "sx"
        refine y_ite (fun c1 => ?_) (fun c1 => ?_)
        · walk_at "sx"
          refine z_ix (by walk_at "sq") (v := .ref l) rfl ?_
          walk_at "sx"
          refine z_ix (by walk_at "sq") (v := .int i) rfl ?_
          walk_at "sx"
          obtain ⟨y, hy, hat⟩ := atM hi c1
          obtain ⟨z, -, rfl⟩ := List.mem_map.mp hy
          refine z_ix (by walk_at "sq") hat ?_
          walk_at "sx"
          refine z_ix (by walk_at "sq") (v := .int i) rfl ?_
          walk_at "sx"
          refine z_setL (j := 1) (by walk_at "hp") rfl ?_
          walk_at "sx"
          refine z_pow ⟨by decide, by decide, by decide⟩ ?_
          walk_at "sx"
          refine y_ite (fun c2 => ?_) (fun c2 => ?_)
          · walk_at "sx"
            refine z_setL (j := 2) (by walk_at "hp") rfl ?_
            refine ⟨i + 1, z, sd, _, rfl, Kp.set.trans Kp.set, upd_same, by omega, ?_, hs0, hs1⟩
            have : (0 : Int) ≤ 10 ^ (18 : Int).toNat := by decide
            omega
          · walk_at "sx"
            refine z_ix (by walk_at "sq") (v := .int sd) rfl ?_
            walk_at "sx"
            refine z_setL (j := 3) (by walk_at "hp") rfl ?_
            exact ⟨i + 1, c, _, _, rfl, Kp.set.trans Kp.set, upd_same, by omega, hc, Int.emod_nonneg _ (by decide), Int.emod_lt_of_pos _ (by decide)⟩
        · walk_at "sx"
          exact ⟨i, c, sd, none, rfl, Kp.refl _ _, h1, hi, hc, hs0, hs1⟩
      · walk_at "sx"
        exact ⟨i, c, sd, none, rfl, Kp.refl _ _, h1, hi, hc, hs0, hs1⟩
    · clear h1 hi hc hs0 hs1
      rintro σ' H' ⟨i, c, sd, v, rfl, kp, h1, hi, hc, hs0, hs1⟩
      have h2' := kp _ _ h2 nlr
      walk_at "sx"
      refine z_ix (by walk_at "sq") (v := .int c) rfl ?_
      walk_at "sx"
      refine y_ite (fun c0 => ?_) (fun c0 => ?_)
      · walk_at "sx"
        refine z_ix (by walk_at "sq") (v := .int c) rfl ?_
        walk_at "sx"
        refine z_ix (by walk_at "sq") (v := .int c) rfl ?_
        walk_at "sx"
        refine z_setL (j := 2) (by walk_at "hp") rfl ?_
        walk_at "sx"
        refine k _ _ (Int.emod_nonneg _ (by omega)) (Int.emod_lt_of_pos _ hm) (kp.trans Kp.set) ⟨ns, i, c / m, sd, upd_same, ?_, nlr, hl, hi, Int.ediv_nonneg hc (by omega), hs0, hs1⟩
        rw [upd_ne nlr]
        exact h2'
      · walk_at "sx"
        refine z_ix (by walk_at "sq") (v := .int sd) rfl ?_
        walk_at "sx"
        refine z_setL (j := 3) (by walk_at "hp") rfl ?_
        walk_at "sx"
        refine z_ix (sq_l (sq_of upd_same)) (v := .int ((sd * (sd % 65521 + 7) + sd * 39373 + 80021) % 2147483563)) rfl ?_
        walk_at "sx"
        refine z_ix (sq_l (sq_of upd_same)) (v := .int ((sd * (sd % 65521 + 7) + sd * 39373 + 80021) % 2147483563)) rfl ?_
        walk_at "sx"
        refine k _ _ (Int.emod_nonneg _ (by omega)) (Int.emod_lt_of_pos _ hm) (kp.trans Kp.set) ⟨ns, i, c, _, upd_same, ?_, nlr, hl, hi, hc, Int.emod_nonneg _ (by decide), Int.emod_lt_of_pos _ (by decide)⟩
        rw [upd_ne nlr]
        exact h2'
end
end R

/-! # D2: the law's pick and its sameness -/
namespace R
open PySem PySem.Spec PyProof.Rows L2
section
variable {H : Hp} {Q : VK} {E : XK} {r l : Addr} {m : Int} {K : PySem.W.Frag}
theorem use_draw (h : Rng H r l) (k : ∀ (n : Int) (H' : Hp), 0 ≤ n → n < m → Kp r H H' → Rng H' r l → Q (.int n) H') (h0 : 0 < m := by omega) (h1 : m < 2 ^ 200 := by omega) : spDraw [.ref r, .int m] H Q E := ⟨r, l, m, rfl, h, h0, h1, k⟩
/-- pick(rng, items): one of the items -/
def spPick (K : PySem.W.Frag) : Sp := fun vs H Q _ => ∃ (r l : Addr) (x : V), vs = [.ref r, x] ∧ Rng H r l ∧
  ((∃ p xs, x = .ref p ∧ Sq K H p xs ∧ p ≠ r ∧ 0 < xs.length ∧ xs.length ≤ 1000000 ∧ ∀ (v : V) (H' : Hp), v ∈ xs → Kp r H H' → Rng H' r l → Q v H') ∨
   (∃ z : Str, x = .str z ∧ 0 < z.length ∧ z.length ≤ 1000000 ∧ ∀ (c : Nat) (H' : Hp), c ∈ z.cps.toList → Kp r H H' → Rng H' r l → Q (.str ⟨#[c]⟩) H'))
theorem use_pick {p : Addr} {xs : List V} (h : Rng H r l) (hs : Sq K H p xs) (n : p ≠ r) (k : ∀ (v : V) (H' : Hp), v ∈ xs → Kp r H H' → Rng H' r l → Q v H') (h0 : 0 < xs.length := by exact Nat.le_of_ble_eq_true rfl) (h1 : xs.length ≤ 1000000 := by exact Nat.le_of_ble_eq_true rfl) : spPick K [.ref r, .ref p] H Q E :=
  ⟨r, l, .ref p, rfl, h, .inl ⟨p, xs, rfl, hs, n, h0, h1, k⟩⟩
theorem use_pickS {z : Str} (h : Rng H r l) (k : ∀ (c : Nat) (H' : Hp), c ∈ z.cps.toList → Kp r H H' → Rng H' r l → Q (.str ⟨#[c]⟩) H') (h0 : 0 < z.length := by decide +kernel) (h1 : z.length ≤ 1000000 := by decide +kernel) : spPick K [.ref r, .str z] H Q E :=
  ⟨r, l, .str z, rfl, h, .inr ⟨z, rfl, h0, h1, k⟩⟩
end
/-- x and y are the same data, of a depth of at most n -/
inductive Sc : V → Prop
  | non : Sc .non
  | bl (b : Bool) : Sc (.bl b)
  | int (i : Int) : Sc (.int i)
  | str (s : Str) : Sc (.str s)
def Tre (K : PySem.W.Frag) (H : Hp) : Nat → V → V → Prop
  | 0, x, y => x = y ∧ Sc x
  | n + 1, x, y => (x = y ∧ Sc x) ∨ ∃ p q xs ys, x = .ref p ∧ y = .ref q ∧ ((SqL K H p xs ∧ SqL K H q ys) ∨ (SqT K H p xs ∧ SqT K H q ys)) ∧ (xs.length = ys.length ∧ xs.length ≤ 900000) ∧ ∀ (i : Nat) (a b : V), xs[i]? = some a → ys[i]? = some b → Tre K H n a b
theorem Tre.sc {K : PySem.W.Frag} {H : Hp} {x : V} (h : Sc x) : ∀ {n : Nat}, Tre K H n x x
  | 0 => ⟨rfl, h⟩
  | _ + 1 => .inl ⟨rfl, h⟩
theorem Tre.int {K : PySem.W.Frag} {H : Hp} {i j : Int} {n : Nat} (h : i = j) : Tre K H n (.int i) (.int j) := by
  subst h
  exact .sc (.int i)
theorem Tre.bl {K : PySem.W.Frag} {H : Hp} {i j : Bool} {n : Nat} (h : i = j) : Tre K H n (.bl i) (.bl j) := by
  subst h
  exact .sc (.bl i)
theorem Tre.ex {K : PySem.W.Frag} {H H' : Hp} (e : Ex H H') : ∀ {n : Nat} {x y : V}, Tre K H n x y → Tre K H' n x y
  | 0, _, _, h => h
  | n + 1, _, _, h => by
    rcases h with h | ⟨p, q, xs, ys, h1, h2, h3, h4, h5⟩
    · exact .inl h
    · exact .inr ⟨p, q, xs, ys, h1, h2, h3.imp (fun h => ⟨sq_ex e h.1, sq_ex e h.2⟩) (fun h => ⟨st_ex e h.1, st_ex e h.2⟩), h4, fun i a b ha hb => Tre.ex e (h5 i a b ha hb)⟩
theorem Tre.mono {K : PySem.W.Frag} {H : Hp} : ∀ {n m : Nat} {x y : V}, n ≤ m → Tre K H n x y → Tre K H m x y
  | 0, 0, _, _, _, h => h
  | 0, _ + 1, _, _, _, h => .inl h
  | _ + 1, 0, _, _, h, _ => absurd h (by omega)
  | n + 1, m + 1, _, _, l, h => by
    rcases h with h | ⟨p, q, xs, ys, h1, h2, h3, h4, h5⟩
    · exact .inl h
    · exact .inr ⟨p, q, xs, ys, h1, h2, h3, h4, fun i a b ha hb => Tre.mono (by omega) (h5 i a b ha hb)⟩
theorem Tre.lst {K : PySem.W.Frag} {H : Hp} {n : Nat} {p q : Addr} {xs ys : List V} (h1 : SqL K H p xs) (h2 : SqL K H q ys) (h3 : xs.length = ys.length) (h4 : xs.length ≤ 900000) (h : ∀ (i : Nat) (a b : V), xs[i]? = some a → ys[i]? = some b → Tre K H n a b) : Tre K H (n + 1) (.ref p) (.ref q) :=
  .inr ⟨p, q, xs, ys, rfl, rfl, .inl ⟨h1, h2⟩, ⟨h3, h4⟩, h⟩
theorem Tre.tup {K : PySem.W.Frag} {H : Hp} {n : Nat} {p q : Addr} {xs ys : List V} (h1 : SqT K H p xs) (h2 : SqT K H q ys) (h3 : xs.length = ys.length) (h4 : xs.length ≤ 900000) (h : ∀ (i : Nat) (a b : V), xs[i]? = some a → ys[i]? = some b → Tre K H n a b) : Tre K H (n + 1) (.ref p) (.ref q) :=
  .inr ⟨p, q, xs, ys, rfl, rfl, .inr ⟨h1, h2⟩, ⟨h3, h4⟩, h⟩
theorem tre_all {K : PySem.W.Frag} {H : Hp} {n : Nat} {xs : List V} (h : ∀ x ∈ xs, Sc x) : ∀ (i : Nat) (a b : V), xs[i]? = some a → xs[i]? = some b → Tre K H n a b := fun i a b ha hb => by
  rw [ha] at hb
  cases hb
  exact .sc (h _ (List.mem_of_getElem? ha))
def spSame (K : PySem.W.Frag) (n : Nat) : Sp := fun vs H Q _ => ∃ x y, vs = [x, y] ∧ Tre K H n x y ∧ ∀ H', Ex H H' → Q (.bl true) H'
theorem use_same {K : PySem.W.Frag} {n : Nat} {H : Hp} {Q : VK} {E : XK} {x y : V} (h : Tre K H n x y) (k : ∀ H', Ex H H' → Q (.bl true) H') : spSame K n [x, y] H Q E := ⟨x, y, rfl, h, k⟩
section
variable {P : Program} {w : World} {K : PySem.W.Frag} {mg : Str → Option Value} {base : Heap}
theorem ok_pick (T : Txt K mg) : Ok P w K mg base 2 T.pick (spPick K) := by
  refine ok_of T.pick sc_pick (fun vs H Q E h => ?_) (fun cdv A outer s H vs Q E hr h => ?_)
  · obtain ⟨r, l, x, rfl, _⟩ := h
    rfl
  · obtain ⟨r, l, x, rfl, hR, h⟩ := h
    refine ⟨_, ((pss_one (ps_ret (pe_ix ix_s (pv 1) (pcall T.draw (ok_draw T) (hr.mono (by omega)) passE (pa_cons (pv 0) (pa_cons (pe_callB call_sLen (by rfl) T.b_len (by decide +kernel) (pa_cons (pv 1) pa_nil)) pa_nil))) (fun _ _ => rfl))))), ?_⟩
    refine go [some (.ref r), some x] rfl ?_
    try dsimp only [L2.cxOf]
    rcases h with ⟨p, xs, rfl, hS, n, h0, h1, k⟩ | ⟨z, rfl, h0, h1, k⟩
    · walk_at "sx"
      refine z_len (by walk_at "sq") ?_
      walk_at "sx"
      refine use_draw hR fun m H' m0 m1 kp hR' => ?_
      obtain ⟨v, hv, hat⟩ := atM m0 m1
      refine z_ix (hS.imp (fun h => sq_kp kp h n) (fun h => st_kp kp h n)) hat ?_
      exact k v H' hv kp hR'
    · walk_at "sx"
      refine z_lenS (sz_of h1) ?_
      walk_at "sx"
      refine use_draw hR fun m H' m0 m1 kp hR' => ?_
      have e : z.length = z.cps.toList.length := by simp [Str.length]
      obtain ⟨c, hc, hat⟩ := atN (xs := z.cps.toList) m0 (by omega)
      refine z_ixS (sz_of h1) hat ?_
      exact k c H' (List.mem_of_getElem? hc) kp hR'
def spS (K : PySem.W.Frag) : Nat → Sp
  | 0 => fun _ _ _ _ => False
  | n + 1 => spSame K n
theorem spS_succ (n : Nat) : spS K (n + 1) = spSame K n := rfl
theorem step_same (T : Txt K mg) (n : Nat) (ih : Ok P w K mg base (n + 1) T.same (spS K n)) : Ok P w K mg base (n + 2) T.same (spSame K n) := by
  refine ok_of T.same sc_same (fun vs H Q E h => ?_) (fun cdv A outer s H vs Q E hr h => ?_)
  · obtain ⟨x, y, rfl, _⟩ := h
    rfl
  · obtain ⟨x, y, rfl, h, k⟩ := h
    have ok_same := fun (_ : Txt K mg) => ih
    refine ⟨_, ((pss_cons (ps_if (PW.pt (pw_or (pt_cmpR op_sIs (pv 1) pe_non (nomark _)) (pw_or1 (pt_cmpR op_sIs (pv 0) pe_non (nomark _)))))
  (pss_one (ps_ret (pe_and (pe_cmpR op_sIs (pv 0) pe_non (nomark _)) (pe_one (pe_cmpR op_sIs (pv 1) pe_non (nomark _))))))
  pss_nil)
  (pss_cons (ps_if (pt_val (pe_callB call_isiT (by rfl) T.b_isinstance (by decide +kernel) (pa_cons (pv 1) (pa_cons (pe_tup (pa_cons (pe_bltn (v := .ty "list") (by rfl) T.b_list (by decide +kernel) rfl) (pa_cons (pe_bltn (v := .ty "tuple") (by rfl) T.b_tuple (by decide +kernel) rfl) pa_nil))) pa_nil))))
  (pss_cons (ps_if (PW.pt (pw_or (pt_cmpR (op_sNe hr.units) (pe_callB call_isi (by rfl) T.b_isinstance (by decide +kernel) (pa_cons (pv 0) (pa_cons (pe_bltn (v := .ty "list") (by rfl) T.b_list (by decide +kernel) rfl) pa_nil))) (pe_callB call_isi (by rfl) T.b_isinstance (by decide +kernel) (pa_cons (pv 1) (pa_cons (pe_bltn (v := .ty "list") (by rfl) T.b_list (by decide +kernel) rfl) pa_nil))) (nomark _)) (pw_or1 (pt_cmpR (op_sNe hr.units) (pe_callB call_isi (by rfl) T.b_isinstance (by decide +kernel) (pa_cons (pv 0) (pa_cons (pe_bltn (v := .ty "tuple") (by rfl) T.b_tuple (by decide +kernel) rfl) pa_nil))) (pe_callB call_isi (by rfl) T.b_isinstance (by decide +kernel) (pa_cons (pv 1) (pa_cons (pe_bltn (v := .ty "tuple") (by rfl) T.b_tuple (by decide +kernel) rfl) pa_nil))) (nomark _)))))
  (pss_one (ps_ret pe_bl))
  pss_nil)
  (pss_one (ps_ret (pe_and (pe_cmpR (op_sEq hr.units) (pe_callB call_sLen (by rfl) T.b_len (by decide +kernel) (pa_cons (pv 0) pa_nil)) (pe_callB call_sLen (by rfl) T.b_len (by decide +kernel) (pa_cons (pv 1) pa_nil)) (nomark _)) (pe_one (pe_callB (call_sAll (by rfl)) (by rfl) T.b_all (by decide +kernel) (pa_cons (pe_lc (own := [("_law_one", 2), ("_law_other", 3)]) (g := (gTup K 2 (gCons (gName 2) (gCons (gName 3) gNil)))) (tt := tYes) (te := (tCall _ [] E0 (tCons (tVar 2) (tCons (tVar 3) tNil)))) (by rfl) sc_same.nd (RZ.pi_zipA (by rfl) T.b_zip (pa_cons (pv 0) (pa_cons (pv 1) pa_nil))) (blkOk_by (own := [("_law_one", 2), ("_law_other", 3)]) (N := N_same) (sc := defScope s_same) (by decide +kernel)) (fun _ _ _ _ _ => by exact (pg_tup rfl (pgs_cons (pg_name (i := 2) sc_same.nd rfl (by first | exact Or.inl rfl | exact Or.inr rfl)) (pgs_cons (pg_name (i := 3) sc_same.nd rfl (by first | exact Or.inl rfl | exact Or.inr rfl)) pgs_nil)))) (fun _ _ _ _ _ => by exact pts_nil) (fun _ _ _ _ _ => by exact (pcall T.same (ok_same T) (hr.mono (by omega)) passL (pa_cons (pv 2) (pa_cons (pv 3) pa_nil))))) pa_nil)))))))
  pss_nil)
  (pss_cons (ps_if (PW.pt (pw_or (pt_cmpR (op_sNe hr.units) (pe_callB call_isi (by rfl) T.b_isinstance (by decide +kernel) (pa_cons (pv 0) (pa_cons (pe_bltn (v := .ty "bool") (by rfl) T.b_bool (by decide +kernel) rfl) pa_nil))) (pe_callB call_isi (by rfl) T.b_isinstance (by decide +kernel) (pa_cons (pv 1) (pa_cons (pe_bltn (v := .ty "bool") (by rfl) T.b_bool (by decide +kernel) rfl) pa_nil))) (nomark _)) (pw_or1 (pt_cmpR (op_sNe hr.units) (pe_callB call_isi (by rfl) T.b_isinstance (by decide +kernel) (pa_cons (pv 0) (pa_cons (pe_bltn (v := .ty "int") (by rfl) T.b_int (by decide +kernel) rfl) pa_nil))) (pe_callB call_isi (by rfl) T.b_isinstance (by decide +kernel) (pa_cons (pv 1) (pa_cons (pe_bltn (v := .ty "int") (by rfl) T.b_int (by decide +kernel) rfl) pa_nil))) (nomark _)))))
  (pss_one (ps_ret pe_bl))
  pss_nil)
  (pss_one (ps_ret (pe_and (pe_cmpR (op_sEq hr.units) (pe_callB call_isi (by rfl) T.b_isinstance (by decide +kernel) (pa_cons (pv 0) (pa_cons (pe_bltn (v := .ty "str") (by rfl) T.b_str (by decide +kernel) rfl) pa_nil))) (pe_callB call_isi (by rfl) T.b_isinstance (by decide +kernel) (pa_cons (pv 1) (pa_cons (pe_bltn (v := .ty "str") (by rfl) T.b_str (by decide +kernel) rfl) pa_nil))) (nomark _)) (pe_one (pe_cmpR (op_sEq hr.units) (pv 0) (pv 1) (nomark _)))))))))), ?_⟩
    refine go [some x, some y, none, none] rfl ?_
    try dsimp only [L2.cxOf]
    have hc : (x = y ∧ Sc x) ∨ ∃ m, n = m + 1 ∧ ∃ p q xs ys, x = .ref p ∧ y = .ref q ∧ ((SqL K H p xs ∧ SqL K H q ys) ∨ (SqT K H p xs ∧ SqT K H q ys)) ∧ (xs.length = ys.length ∧ xs.length ≤ 900000) ∧ ∀ (i : Nat) (a b : V), xs[i]? = some a → ys[i]? = some b → Tre K H m a b := by
      cases n with
      | zero => exact .inl h
      | succ m => exact h.imp id fun h => ⟨m, rfl, h⟩
    rcases hc with ⟨rfl, hs⟩ | ⟨m, rfl, p, q, xs, ys, rfl, rfl, hq, hl, hrec⟩
    · cases hs with
      | non =>
        walk_at "sx"
        exact k _ (Same.refl _)
      | bl b =>
        walk_at "sx"
        refine z_tup fun p1 n1 => ?_
        walk_at "sx"
        refine z_isiT upd_same (.base (.bl b)) (by walk_at "ki") (by walk_at "ki") ?_
        walk_at "sx"
        walk_at "isi"
        walk_at "sx"
        walk_at "isi"
        walk_at "sx"
        walk_at "isi"
        walk_at "sx"
        walk_at "isi"
        walk_at "sx"
        walk_at "isi"
        walk_at "sx"
        walk_at "isi"
        walk_at "sx"
        rw [decide_eq_true rfl]
        exact k _ (Ex.new n1)
      | int i =>
        walk_at "sx"
        refine z_tup fun p1 n1 => ?_
        walk_at "sx"
        refine z_isiT upd_same (.base (.int i)) (by walk_at "ki") (by walk_at "ki") ?_
        walk_at "sx"
        walk_at "isi"
        walk_at "sx"
        walk_at "isi"
        walk_at "sx"
        walk_at "isi"
        walk_at "sx"
        walk_at "isi"
        walk_at "sx"
        walk_at "isi"
        walk_at "sx"
        walk_at "isi"
        walk_at "sx"
        rw [decide_eq_true rfl]
        exact k _ (Ex.new n1)
      | str z =>
        walk_at "sx"
        refine z_tup fun p1 n1 => ?_
        walk_at "sx"
        refine z_isiT upd_same (.base (.str z)) (by walk_at "ki") (by walk_at "ki") ?_
        walk_at "sx"
        walk_at "isi"
        walk_at "sx"
        walk_at "isi"
        walk_at "sx"
        walk_at "isi"
        walk_at "sx"
        walk_at "isi"
        walk_at "sx"
        walk_at "isi"
        walk_at "sx"
        walk_at "isi"
        walk_at "sx"
        rw [decide_eq_true rfl]
        exact k _ (Ex.new n1)
    · rcases hq with ⟨h1, h2⟩ | ⟨h1, h2⟩
      · walk_at "sx"
        refine z_tup fun p1 n1 => ?_
        walk_at "sx"
        have E1 := Ex.new (o := .tup [.ty "list", .ty "tuple"]) n1
        refine z_isiT upd_same (tyx_l (sq_ex E1 h2)) (by walk_at "ki") (by walk_at "ki") ?_
        walk_at "sx"
        walk_at "isi"
        walk_at "sx"
        walk_at "isi"
        walk_at "sx"
        walk_at "isi"
        walk_at "sx"
        walk_at "isi"
        walk_at "sx"
        refine z_len (by walk_at "sq") ?_
        walk_at "sx"
        refine z_len (by walk_at "sq") ?_
        walk_at "sx"
        refine y_yes (by omega) ?_
        walk_at "sx"
        refine z_zipL (sq_ex E1 h1) (sq_ex E1 h2) ?_
        intro D hD
        refine lc_it (n := xs.length) (walk_zip (xs := xs) (ys := ys) (by omega)) (LcP D fun i zs H' => Ex H H' ∧ zs = (List.replicate i true).map V.bl) (lc0 ⟨E1.trans (Ex.new hD), rfl⟩) (fun i H' hi ⟨zs, _, _, e, _⟩ => ⟨sq_ex e h1, sq_ex e h2⟩) ?_ ?_
        · rintro i x H1 H2 hi ⟨zs, hz, hzl, e, ez⟩ ⟨T1, a, b, rfl, hT, rfl, ha, hb⟩
          refine x_gtup (st_of upd_same) rfl ?_
          walk_at "sx"
          refine ⟨rfl, ?_⟩
          walk_at "sx"
          rw [spS_succ]
          refine use_same ((hrec i a b ha hb).ex (e.trans (Ex.new hT))) fun H3 e3 => ?_
          refine lc_put (e3 _ _ (Ex.new hT _ _ hz)) hzl hi hl.2 ⟨Ex.mut ((e.trans (Ex.new hT)).trans e3) (E1.none hD), ?_⟩
          rw [ez, ← List.map_singleton, ← List.map_append, ← List.replicate_succ']
        · rintro H1 ⟨zs, hz, _, e, ez⟩
          rw [ez] at hz
          walk_at "sx"
          refine z_all (sq_of hz) ?_
          have : (List.replicate xs.length true).all id = true := by simp
          rw [this]
          exact k _ e
      · walk_at "sx"
        refine z_tup fun p1 n1 => ?_
        walk_at "sx"
        have E1 := Ex.new (o := .tup [.ty "list", .ty "tuple"]) n1
        refine z_isiT upd_same (tyx_t (st_ex E1 h2)) (by walk_at "ki") (by walk_at "ki") ?_
        walk_at "sx"
        walk_at "isi"
        walk_at "sx"
        walk_at "isi"
        walk_at "sx"
        walk_at "isi"
        walk_at "sx"
        walk_at "isi"
        walk_at "sx"
        refine z_len (by walk_at "sq") ?_
        walk_at "sx"
        refine z_len (by walk_at "sq") ?_
        walk_at "sx"
        refine y_yes (by omega) ?_
        walk_at "sx"
        refine z_zipT (st_ex E1 h1) (st_ex E1 h2) ?_
        intro D hD
        refine lc_it (n := xs.length) (walk_zipT (xs := xs) (ys := ys) (by omega)) (LcP D fun i zs H' => Ex H H' ∧ zs = (List.replicate i true).map V.bl) (lc0 ⟨E1.trans (Ex.new hD), rfl⟩) (fun i H' hi ⟨zs, _, _, e, _⟩ => ⟨st_ex e h1, st_ex e h2⟩) ?_ ?_
        · rintro i x H1 H2 hi ⟨zs, hz, hzl, e, ez⟩ ⟨T1, a, b, rfl, hT, rfl, ha, hb⟩
          refine x_gtup (st_of upd_same) rfl ?_
          walk_at "sx"
          refine ⟨rfl, ?_⟩
          walk_at "sx"
          rw [spS_succ]
          refine use_same ((hrec i a b ha hb).ex (e.trans (Ex.new hT))) fun H3 e3 => ?_
          refine lc_put (e3 _ _ (Ex.new hT _ _ hz)) hzl hi hl.2 ⟨Ex.mut ((e.trans (Ex.new hT)).trans e3) (E1.none hD), ?_⟩
          rw [ez, ← List.map_singleton, ← List.map_append, ← List.replicate_succ']
        · rintro H1 ⟨zs, hz, _, e, ez⟩
          rw [ez] at hz
          walk_at "sx"
          refine z_all (sq_of hz) ?_
          have : (List.replicate xs.length true).all id = true := by simp
          rw [this]
          exact k _ e
theorem ok_same (T : Txt K mg) : ∀ n, Ok P w K mg base (n + 2) T.same (spSame K n)
  | 0 => step_same T 0 ⟨fun _ _ _ _ h => h.elim, fun _ _ _ _ _ _ _ _ _ _ _ _ _ h => h.elim⟩
  | n + 1 => step_same T (n + 1) (ok_same T n)
end
end R

/-! # DQ: data in the heap, away from the law's source r -/
namespace R
open PySem PySem.Spec PyProof.Rows L2
/-- a list, a tuple in the heap itself -/
abbrev RL (H : Hp) (a : Addr) (xs : List V) : Prop := Rd H a (.lst xs)
abbrev RT (H : Hp) (a : Addr) (xs : List V) : Prop := Rd H a (.tup xs)
abbrev RQ (H : Hp) (a : Addr) (xs : List V) : Prop := RL H a xs ∨ RT H a xs
theorem rl_of {H : Hp} {a : Addr} {xs : List V} (h : H a = some (.lst xs)) : RL H a xs := .inl h
theorem rt_of {H : Hp} {a : Addr} {xs : List V} (h : H a = some (.tup xs)) : RT H a xs := .inl h
theorem RQ.sq {K : PySem.W.Frag} {H : Hp} {a : Addr} {xs : List V} (h : RQ H a xs) : Sq K H a xs := h.imp .inl .inl
theorem RQ.kp {r : Addr} {H H' : Hp} {a : Addr} {xs : List V} (h : RQ H a xs) (e : Kp r H H') (n : a ≠ r) : RQ H' a xs := h.imp (fun h => rd_kp e h n) (fun h => rd_kp e h n)
theorem RQ.ex {H H' : Hp} {a : Addr} {xs : List V} (h : RQ H a xs) (e : Ex H H') : RQ H' a xs := h.imp (rd_ex e) (rd_ex e)
theorem Rd.ne {H : Hp} {a p : Addr} {u : HO} (h : Rd H a u) (n : H p = none) : a ≠ p := by
  rintro rfl
  rcases h with h | ⟨o, h⟩
  all_goals
    rw [n] at h
    cases h
theorem RQ.ne {H : Hp} {a p : Addr} {xs : List V} (h : RQ H a xs) (n : H p = none) : a ≠ p := h.elim (fun h => Rd.ne h n) (fun h => Rd.ne h n)
theorem rt_ne_l {H : Hp} {a r : Addr} {xs zs : List V} (h : RT H a xs) (h2 : H r = some (.lst zs)) : a ≠ r := by
  rintro rfl
  rcases h with h | ⟨o, h⟩
  all_goals
    rw [h2] at h
    cases h
theorem rq_ne_ins {H : Hp} {a x : Addr} {xs : List V} {C dx : Addr} {fs : List (Str × V)} (h : RQ H a xs) (hx : H x = some (.ins C dx fs)) : a ≠ x := by
  rintro rfl
  rcases h with (h | ⟨o, h⟩) | (h | ⟨o, h⟩)
  all_goals
    rw [hx] at h
    cases h
mutual
inductive Dq (r : Addr) (H : Hp) : V → PyData → Prop
  | non : Dq r H .non .none
  | bl (b : Bool) : Dq r H (.bl b) (.bool b)
  | int (i : Int) : Dq r H (.int i) (.int i)
  | str (x : Str) : Dq r H (.str x) (.str x)
  | lst {a : Addr} {xs : List V} {ds : List PyData} : RL H a xs → a ≠ r → xs.length ≤ 900000 → DqAll r H xs ds → Dq r H (.ref a) (.list ds)
  | tup {a : Addr} {xs : List V} {ds : List PyData} : RT H a xs → a ≠ r → xs.length ≤ 900000 → DqAll r H xs ds → Dq r H (.ref a) (.tuple ds)
inductive DqAll (r : Addr) (H : Hp) : List V → List PyData → Prop
  | nil : DqAll r H [] []
  | cons {v : V} {vs : List V} {d : PyData} {ds : List PyData} : Dq r H v d → DqAll r H vs ds → DqAll r H (v :: vs) (d :: ds)
end
section
variable {K : PySem.W.Frag} {r : Addr} {H H' : Hp}
mutual
theorem Dq.kp (e : Kp r H H') : ∀ (d : PyData) (v : V), Dq r H v d → Dq r H' v d
  | .none, _, h => by cases h; exact .non
  | .bool _, _, h => by cases h; exact .bl _
  | .int _, _, h => by cases h; exact .int _
  | .str _, _, h => by cases h; exact .str _
  | .list ds, _, h => by
    cases h with
    | lst h1 h2 h3 h4 => exact .lst (rd_kp e h1 h2) h2 h3 (DqAll.kp e ds _ h4)
  | .tuple ds, _, h => by
    cases h with
    | tup h1 h2 h3 h4 => exact .tup (rd_kp e h1 h2) h2 h3 (DqAll.kp e ds _ h4)
  | .dict _, _, h => by cases h
theorem DqAll.kp (e : Kp r H H') : ∀ (ds : List PyData) (vs : List V), DqAll r H vs ds → DqAll r H' vs ds
  | [], _, h => by cases h; exact .nil
  | d :: ds, _, h => by
    cases h with
    | cons h1 h2 => exact .cons (Dq.kp e d _ h1) (DqAll.kp e ds _ h2)
end
theorem Dq.ex {d : PyData} {v : V} (e : Ex H H') (h : Dq r H v d) : Dq r H' v d := Dq.kp e.kp d v h
theorem DqAll.ex {ds : List PyData} {vs : List V} (e : Ex H H') (h : DqAll r H vs ds) : DqAll r H' vs ds := DqAll.kp e.kp ds vs h
mutual
theorem Dq.dp : ∀ (d : PyData) (v : V), Dq r H v d → Dp K H v d
  | .none, _, h => by cases h; exact .non
  | .bool _, _, h => by cases h; exact .bl _
  | .int _, _, h => by cases h; exact .int _
  | .str _, _, h => by cases h; exact .str _
  | .list ds, _, h => by
    cases h with
    | lst h1 h2 h3 h4 => exact .lst (.inl h1) (DqAll.dp ds _ h4)
  | .tuple ds, _, h => by
    cases h with
    | tup h1 h2 h3 h4 => exact .tup (.inl h1) (DqAll.dp ds _ h4)
  | .dict _, _, h => by cases h
theorem DqAll.dp : ∀ (ds : List PyData) (vs : List V), DqAll r H vs ds → DpAll K H vs ds
  | [], _, h => by cases h; exact .nil
  | d :: ds, _, h => by
    cases h with
    | cons h1 h2 => exact .cons (Dq.dp d _ h1) (DqAll.dp ds _ h2)
end
theorem DqAll.len : ∀ {ds : List PyData} {vs : List V}, DqAll r H vs ds → vs.length = ds.length
  | [], _, h => by cases h; rfl
  | d :: ds, _, h => by
    cases h with
    | cons h1 h2 => exact congrArg Nat.succ (DqAll.len h2)
theorem DqAll.get : ∀ {ds : List PyData} {vs : List V} {i : Nat} {v : V} {d : PyData}, DqAll r H vs ds → vs[i]? = some v → ds[i]? = some d → Dq r H v d
  | [], _, i, v, d, h, h1, h2 => by cases h; simp at h1
  | e :: ds, _, 0, v, d, h, h1, h2 => by
    cases h with
    | cons a b =>
      simp at h1 h2
      subst h1 h2
      exact a
  | e :: ds, _, i + 1, v, d, h, h1, h2 => by
    cases h with
    | cons a b => exact DqAll.get b (by simpa using h1) (by simpa using h2)
theorem DqAll.app : ∀ {ds es : List PyData} {vs ws : List V}, DqAll r H vs ds → DqAll r H ws es → DqAll r H (vs ++ ws) (ds ++ es)
  | [], _, _, _, h, g => by cases h; exact g
  | d :: ds, _, _, _, h, g => by
    cases h with
    | cons a b => exact .cons a (DqAll.app b g)
theorem DqAll.snoc {ds : List PyData} {vs : List V} {v : V} {d : PyData} (h : DqAll r H vs ds) (g : Dq r H v d) : DqAll r H (vs ++ [v]) (ds ++ [d]) := h.app (.cons g .nil)
theorem DqAll.ints (f : Int → PyData) : ∀ {xs : List Int}, DqAll r H (xs.map V.int) (xs.map PyData.int)
  | [] => .nil
  | x :: xs => .cons (.int x) (DqAll.ints f)
/-- an item of a list, of a tuple -/
theorem DqAll.at {ds : List PyData} {vs : List V} {i : Nat} {d : PyData} (h : DqAll r H vs ds) (hd : ds[i]? = some d) : ∃ v, vs[i]? = some v ∧ Dq r H v d := by
  have hi : i < ds.length := (List.getElem?_eq_some_iff.mp hd).1
  have hv : i < vs.length := by rw [h.len]; exact hi
  exact ⟨vs[i], List.getElem?_eq_getElem hv, h.get (List.getElem?_eq_getElem hv) hd⟩
end
/-! the same data twice -/
mutual
theorem Dq.tre {K : PySem.W.Frag} {r q : Addr} {H : Hp} : ∀ (d : PyData) (v w : V), Dq r H v d → Dq q H w d → Tre K H d.depth v w
  | .none, _, _, h, g => by cases h; cases g; exact .sc .non
  | .bool _, _, _, h, g => by cases h; cases g; exact .sc (.bl _)
  | .int _, _, _, h, g => by cases h; cases g; exact .sc (.int _)
  | .str _, _, _, h, g => by cases h; cases g; exact .sc (.str _)
  | .list ds, _, _, h, g => by
    cases h with
    | lst h1 h2 h3 h4 =>
      cases g with
      | lst g1 g2 g3 g4 =>
        rw [PyData.depth]
        exact .lst (.inl h1) (.inl g1) (h4.len.trans g4.len.symm) h3 (DqAll.tre ds _ _ h4 g4)
  | .tuple ds, _, _, h, g => by
    cases h with
    | tup h1 h2 h3 h4 =>
      cases g with
      | tup g1 g2 g3 g4 =>
        rw [PyData.depth]
        exact .tup (.inl h1) (.inl g1) (h4.len.trans g4.len.symm) h3 (DqAll.tre ds _ _ h4 g4)
  | .dict _, _, _, h, _ => by cases h
theorem DqAll.tre {K : PySem.W.Frag} {r q : Addr} {H : Hp} : ∀ (ds : List PyData) (vs ws : List V), DqAll r H vs ds → DqAll q H ws ds → ∀ (i : Nat) (a b : V), vs[i]? = some a → ws[i]? = some b → Tre K H (PyData.depthAll ds) a b
  | [], _, _, h, g, i, a, b, ha, hb => by cases h; simp at ha
  | d :: ds, _, _, h, g, i, a, b, ha, hb => by
    cases h with
    | cons h1 h2 =>
      cases g with
      | cons g1 g2 =>
        rw [PyData.depthAll]
        cases i with
        | zero =>
          simp at ha hb
          subst ha hb
          exact (Dq.tre d _ _ h1 g1).mono (Nat.le_max_left _ _)
        | succ i => exact (DqAll.tre ds _ _ h2 g2 i a b (by simpa using ha) (by simpa using hb)).mono (Nat.le_max_right _ _)
end
/-! ### numbers, rows, lists of them as data -/
abbrev vN (n : Nat) : V := .int (n : Int)
abbrev dN (n : Nat) : PyData := .int (n : Int)
abbrev dL (xs : List Nat) : PyData := .list (xs.map dN)
abbrev dT (xs : List Nat) : PyData := .tuple (xs.map dN)
section
variable {K : PySem.W.Frag} {r : Addr} {H : Hp}
theorem dq_nats : ∀ (xs : List Nat), DqAll r H (xs.map vN) (xs.map dN)
  | [] => .nil
  | x :: xs => .cons (.int _) (dq_nats xs)
theorem DqAll.nats : ∀ {xs : List Nat} {vs : List V}, DqAll r H vs (xs.map dN) → vs = xs.map vN
  | [], _, h => by cases h; rfl
  | x :: xs, _, h => by
    cases h with
    | cons a b =>
      cases a
      rw [DqAll.nats b]
      rfl
theorem Dq.nat {n : Nat} {v : V} (h : Dq r H v (dN n)) : v = vN n := by cases h; rfl
theorem Dq.row {xs : List Nat} {v : V} (h : Dq r H v (dT xs)) : ∃ a, v = .ref a ∧ RT H a (xs.map vN) ∧ a ≠ r ∧ xs.length ≤ 900000 := by
  cases h with
  | tup h1 h2 h3 h4 =>
    have e := h4.nats
    subst e
    exact ⟨_, rfl, h1, h2, by simpa using h3⟩
theorem Dq.lis {xs : List Nat} {v : V} (h : Dq r H v (dL xs)) : ∃ a, v = .ref a ∧ RL H a (xs.map vN) ∧ a ≠ r ∧ xs.length ≤ 900000 := by
  cases h with
  | lst h1 h2 h3 h4 =>
    have e := h4.nats
    subst e
    exact ⟨_, rfl, h1, h2, by simpa using h3⟩
theorem Dq.rowI {xs : List Nat} {a : Addr} (h1 : RT H a (xs.map vN)) (h2 : a ≠ r) (h3 : xs.length ≤ 900000) : Dq r H (.ref a) (dT xs) := .tup h1 h2 (by simpa using h3) (dq_nats xs)
theorem Dq.lisI {xs : List Nat} {a : Addr} (h1 : RL H a (xs.map vN)) (h2 : a ≠ r) (h3 : xs.length ≤ 900000) : Dq r H (.ref a) (dL xs) := .lst h1 h2 (by simpa using h3) (dq_nats xs)
end
/-! ### == of such data is = -/
def Fai {α : Type} (f : α → PyData) [DecidableEq α] : Prop := ∀ x y, PyData.eqv (f x) (f y) = decide (x = y)
theorem fai_nat : Fai dN := fun x y => by
  unfold dN
  rw [PyData.eqv]
  by_cases h : x = y
  · subst h; simp
  · have : ¬ ((x : Int) = (y : Int)) := by omega
    rw [decide_eq_false h]
    simpa using this
theorem fai_int : Fai PyData.int := fun x y => by
  rw [PyData.eqv]
  by_cases h : x = y
  · subst h; simp
  · rw [decide_eq_false h]
    simpa using h
theorem fai_all {α : Type} [DecidableEq α] {f : α → PyData} (h : Fai f) : ∀ xs ys : List α, PyData.eqvAll (xs.map f) (ys.map f) = decide (xs = ys)
  | [], [] => by simp [PyData.eqvAll]
  | [], y :: ys => by simp [PyData.eqvAll]
  | x :: xs, [] => by simp [PyData.eqvAll]
  | x :: xs, y :: ys => by
    rw [List.map_cons, List.map_cons, PyData.eqvAll, h x y, fai_all h xs ys]
    by_cases h1 : x = y <;> by_cases h2 : xs = ys <;> simp [h1, h2]
theorem fai_list {α : Type} [DecidableEq α] {f : α → PyData} (h : Fai f) : Fai fun xs : List α => .list (xs.map f) := fun xs ys => by
  rw [PyData.eqv]
  exact fai_all h xs ys
theorem fai_tup {α : Type} [DecidableEq α] {f : α → PyData} (h : Fai f) : Fai fun xs : List α => .tuple (xs.map f) := fun xs ys => by
  rw [PyData.eqv]
  exact fai_all h xs ys
end R
namespace R
open PySem PySem.Spec PyProof.Rows L2
theorem map_at {α β : Type} {f : α → β} {xs : List α} {i : Nat} {x : β} (h : (xs.map f)[i]? = some x) : i < xs.length ∧ ∃ y, xs[i]? = some y ∧ x = f y := by
  rw [List.getElem?_map] at h
  cases q : xs[i]? with
  | none => rw [q] at h; cases h
  | some z =>
    rw [q] at h
    exact ⟨(List.getElem?_eq_some_iff.mp q).1, z, rfl, (Option.some.inj h).symm⟩
theorem getD_at {α : Type} {xs : List α} {i : Nat} {d : α} (h : i < xs.length) : xs[i]? = some (xs.getD i d) := by
  rw [List.getD_eq_getElem?_getD, List.getElem?_eq_getElem h]
  rfl
theorem DqAll.by {r : Addr} {H : Hp} : ∀ {ds : List PyData} {vs : List V}, vs.length = ds.length → (∀ (i : Nat) (d : PyData), ds[i]? = some d → ∃ v, vs[i]? = some v ∧ Dq r H v d) → DqAll r H vs ds
  | [], [], _, _ => .nil
  | d :: ds, v :: vs, hl, h => by
    refine .cons ?_ (DqAll.by (by simpa using hl) fun i d hd => ?_)
    · obtain ⟨v', h1, h2⟩ := h 0 d rfl
      simp at h1
      rw [h1]
      exact h2
    · have := h (i + 1) d (by simpa using hd)
      simpa using this
  | [], v :: vs, hl, _ => by simp at hl
  | d :: ds, [], hl, _ => by simp at hl
end R
/-! ### tuples made: one continuation for the same object and a new one -/
namespace R
open PySem PySem.Spec PyProof.Rows L2
section
variable {K : PySem.W.Frag} {H : Hp} {Q : VK} {p q : Addr} {xs zs : List V} {i : Int}
theorem z_mulTu (h1 : RT H p xs) (h0 : xs ≠ []) (h2 : 0 ≤ i ∧ i ≤ 1000) (h3 : xs.length ≤ 1000) (k : ∀ a H', Ex H H' → RT H' a (List.replicate i.toNat xs).flatten → (a = p ∨ H a = none) → Q (.ref a) H') : sMul K (.ref p) (.int i) H Q :=
  z_mulTup (.inl h1) h0 h2 h3 (fun e => k p H (Same.refl _) (by subst e; show RT H p (List.replicate 1 xs).flatten; simpa using h1) (.inl rfl)) fun _ a na => k a _ (Ex.new na) (rt_of upd_same) (.inr na)
theorem z_addTu (h1 : RT H p xs) (h2 : RT H q zs) (h3 : xs.length + zs.length ≤ 1000000) (k : ∀ a H', Ex H H' → RT H' a (xs ++ zs) → (a = p ∨ a = q ∨ H a = none) → Q (.ref a) H') : sAdd K (.ref p) (.ref q) H Q :=
  z_addT (.inl h1) (.inl h2) h3 (fun e => k q H (Same.refl _) (by rw [e]; exact h2) (.inr (.inl rfl))) (fun _ e => k p H (Same.refl _) (by rw [e, List.append_nil]; exact h1) (.inl rfl)) fun _ _ a na => k a _ (Ex.new na) (rt_of upd_same) (.inr (.inr na))
end
end R

/-! # O3: a def called in an except suite that raises nothing; the fields of the caught error -/
namespace R
open PySem PySem.Spec PyProof.Rows L2 L2H
theorem _root_.L2H.RoomH.units {k : Nat} {A : Around} (r : RoomH k A) : A.units + 64 < cLine := by have := r.un; omega
/-- the class at C is one whose instances' fields are read -/
abbrev Good (K : PySem.W.Frag) (C : Addr) : Prop := XfC K C ∧ ∀ f ∈ efs, PySem.W.findIn K (.ref C) f = some none
structure FnQ (P : Program) (w : World) (K : PySem.W.Frag) (mg : Str → Option Value) (base : Heap) (CX : CXT) (k : Nat) (f : Addr) (fd : FuncData) (ps : List Str) (sp : Addr → Value → Option Addr → Sp) : Prop where
  len : ∀ a cls d vs H Q E, sp a cls d vs H Q E → vs.length = ps.length
  run : ∀ (A : Around) (outer : List Env) (s : Shared) (H : Hp) (args : Args) (us : List Value) (vs : List V) (Q : VK) (E : XK) (p : Addr × Obj) (cls : Value) (d : Option Addr), Zc cls d p.2 → (∃ vs, p.2.data = .fields vs) → RoomH k A → PinOk outer H s p → Env0 P w K mg base A outer s H → BindsTo s fd args (ps.zip us) → Vals vs us → sp p.1 cls d vs H Q E →
    codeAny (model P w) A (.call (.ref f) args) (CR CX outer P w H s Q E) s
theorem fn_ofQ {CX : CXT} {P : Program} {w : World} {K : PySem.W.Frag} {mg : Str → Option Value} {base : Heap} {k : Nat} {f : Addr} {name qual : Str} {params : Arguments} {body : List Stmt} {scope : Scope} {dV kV doc pm cdv ct oc : Value} {an od : Option Addr}
    {osl : Array (Option Value)} {N ps : List Str} {sp : Addr → Value → Option Addr → Sp} (lk : K.lookup f = some ⟨oc, od, .func (PySem.W.fnOf name qual params body scope dV kV doc pm an cdv ct), osl⟩) (hcd : PySem.W.codeIn K cdv qual = true) (S : FnScope N ps scope)
    (len : ∀ a cls d vs H Q E, sp a cls d vs H Q E → vs.length = ps.length)
    (hbody : ∀ (A : Around) (outer : List Env) (s : Shared) (H : Hp) (vs : List V) (Q : VK) (E : XK) (p : Addr × Obj) (cls : Value) (d : Option Addr), Zc cls d p.2 → (∃ vs, p.2.data = .fields vs) → RoomH k (A.deeper (envOfC qual scope s.heap.objs.size f cdv)) → sp p.1 cls d vs H Q E →
      ∃ t, PSs (cxH CX P w K mg base N qual scope f cdv A outer s H E p) body t ∧ t { nx := fun _ H' => Q .non H', rt := Q } (L2.start N vs) H) :
    FnQ P w K mg base CX (k + 1) f (PySem.W.fnOf name qual params body scope dV kV doc pm an cdv ct) ps sp := by
  refine ⟨len, fun A outer s H args us vs Q E p cls d hz hf hr hpin e0 hb r hsp => ?_⟩
  have hl := len _ _ _ _ _ _ _ hsp
  have KX : K.In s.heap := e0.mod.kin.keeps fun b o e => (e0.bs b o e).1
  have lim : s.heap.NoLimit := e0.mod.nolimit.keeps fun b o e => (e0.bs b o e).1
  have hkind : ∀ y ∈ ps.zip us, scope.names.lookup y.1 = some .local ∨ (scope.names.lookup y.1 = some .cell ∧ ((cellsFrom (s.heap.objs.size + 1) scope.names []).lookup y.1).isSome = true) := fun ⟨n, v⟩ hy => by
    rcases S.par n (List.of_mem_zip hy).1 with q | q
    · exact .inl q
    · exact .inr ⟨q, PySem.W.cellsFrom_some _ _ _ (.inl q)⟩
  refine codeAny_call_function hr.depth (KX _ _ lk) rfl S.co S.gen rfl (PySem.W.codeRec_of KX hcd) (hb _ _ _ _ ?_)
  refine wpAny_newFunctionEnv_cells S.kind hkind fun env he s1 x => ?_
  subst he
  refine ⟨lim.keeps x.toInCall.keep, codeAny_func ?_⟩
  obtain ⟨t, ht, hq⟩ := hbody A outer s H vs Q E p cls d hz hf (hr.deeper _) hsp
  have I : Inv (cxH CX P w K mg base N qual scope f cdv A outer s H E p) [] (L2.start N vs) H s1 := inv_startH S hpin e0 hl r x
  refine wpAny_mono (ht.run [] s1 (L2.start N vs) H _ I hq) (fun fl s' hs => ?_) fun e s' hs => hs
  have fin : ∀ {σ' : L2.St} {H' : Hp} {v : V} {u : Value}, Inv (cxH CX P w K mg base N qual scope f cdv A outer s H E p) [] σ' H' s' → RelV v u → Q v H' → CE outer P w H s Q u s' :=
    fun {σ' H' v u} J rv q => ⟨v, H', J.os, J.bare, J.base, J.hok, rv, q⟩
  cases fl with
  | ret u =>
    obtain ⟨v, σ', H', J, rv, q⟩ := hs
    exact fin J rv q
  | next =>
    obtain ⟨σ', H', J, q⟩ := hs
    exact fin (v := V.non) (u := Value.none) J rfl q
  | brk =>
    obtain ⟨_, _, _, q⟩ := hs
    exact False.elim q
  | cont =>
    obtain ⟨_, _, _, q⟩ := hs
    exact False.elim q
section
variable {X : Cx} {k : Nat} {f : Addr} {fd : FuncData} {ps : List Str} {sp : Addr → Value → Option Addr → Sp} {x : Str} {q pos : Pos} {e : Expr} {es : List Expr} {t : TA} {p : Addr × Obj}
def tCallQ (sp : Addr → Value → Option Addr → Sp) (a : Addr) (cls : Value) (d : Option Addr) (t : TA) : TE := fun σ H Q => t σ H fun vs H1 => sp a cls d vs H1 Q fun _ _ _ => False
theorem pe_callQ {cls : Value} {d : Option Addr} {a : Addr} {oe : Obj} (hz : Zc cls d oe) (hf : ∃ vs, oe.data = .fields vs) (F : FnQ X.prog X.w X.K X.mg X.base (L2.CX X.prog X.w) k f fd ps sp) (hr : RoomH k X.A) (hp : (a, oe) ∈ X.pn) (hg : Gl X x) (hm : X.mg x = some (.ref f)) (hk : PySem.W.keepIn X.K (.ref f) = true) (hb : Binds X.K fd ps [])
    (ha : PA X (e :: es) t) (hdb : (x == ("__debug__" : Str)) = false := by decide) (he : starEach (e :: es) X.env = (false, eval e X.env) :: starEach es X.env := by rfl) (hpl : (backTo pos (starEach es X.env)).any (·.1) = false := by rfl) :
    PE X (.Call (.Name x q) (e :: es) [] pos) (tCallQ sp a cls d t) := by
  refine ⟨fun pins s σ H Q I h => ?_⟩
  refine wpAny_Call_Name_kw (ld_glob I hg hm ?_ hdb)
  refine PySem.W.callWith_K (h₀ := X.base) I.ok.mod.kin hk (thn (ha.run pos pins s σ H _ I h) fun us s1 ⟨vs, H1, I1, r, q⟩ => ⟨I1.kIn, ?_⟩) he hpl
  have hl : us.length = ps.length := by rw [← r.length]; exact F.len _ _ _ _ _ _ _ q
  have b := hb s1 us I1.kIn (by rw [List.append_nil]; exact hl)
  rw [List.append_nil] at b
  have P1 := I1.pin (a, oe) (List.mem_append_left _ hp)
  have hpin : PinOk X.stack H1 s1 (a, oe) := ⟨P1.1, P1.2.1, fun hm => (List.mem_cons.mp (I1.stkSub a hm)).elim P1.2.2.1 P1.2.2.2.1, P1.2.2.2.2⟩
  refine wpAny_call (codeAny_mono (F.run X.A X.stack s1 H1 ⟨us, []⟩ us vs Q _ (a, oe) cls d hz hf hr hpin I1.env0 b r q) fun r s' hq => ?_)
  cases r with
  | error e =>
    obtain ⟨_, _, _, _, _, _, _, _, _, _, _, _, z⟩ := hq
    exact z.elim
  | ok fl =>
    cases fl with
    | ret u => exact I1.after hq
    | next => exact False.elim hq
    | brk => exact False.elim hq
    | cont => exact False.elim hq
theorem pe_xfQ {a C : Addr} {oe : Obj} {cls : Value} {d : Option Addr} {te : TE} {n : Str} (hp : (a, oe) ∈ X.pn) (T : XfC X.K C) (hno : PySem.W.findIn X.K (.ref C) n = some none)
    (hz : Zc cls d oe) (hf : ∃ vs, oe.data = .fields vs) (he : PE X e te) (hb : attributeBase e n X.env (eval e X.env) = eval e X.env := by rfl) : PE X (.Attribute e n pos) (tXf a cls d C n te) := by
  refine ⟨fun pins s σ H Q I h => ?_⟩
  refine attr_of hb (thn (he.run pins s σ H _ I h) fun u s1 hh => ?_)
  obtain ⟨x, H1, I1, rx, ex, ec, dd, fs, v, ed, ea, l, q⟩ := hh
  subst ex
  obtain rfl : u = Value.ref a := rx
  subst ec
  subst ed
  obtain ⟨ha, _⟩ := I1.pin (a, oe) (List.mem_append_left _ hp)
  obtain ⟨vs, hd⟩ := hf
  have hx : ObjOk X.prog X.w H1 s1.heap dd (.xd fs) := I1.hok dd _ ea
  obtain ⟨mA, hns, hr⟩ := hx
  obtain ⟨od, ho, hl⟩ := lookIn_ns hns
  obtain ⟨u, hu, ru⟩ := RelO.some_of (v := v) (o := mA n) (by rw [← l]; exact hr n)
  have J : PySem.W.InstAt s1.heap a oe C (some od) := ⟨ha, hz.1, by unfold PySem.W.notCls; rw [hd] <;> rfl, by rw [hz.2]; exact ho⟩
  exact HandSPX.exc_get I1.kIn J T.ga T.gg T.exC (PySem.W.findObj_own T.hdC hno rfl (by rw [hl, hu])) (handed_of ru) ⟨v, H1, I1.tok _, ru, q⟩
theorem x_xf {a C dd : Addr} {f : Str} {te : TE} {σ : L2.St} {H : Hp} {Q : VK} {fs : List (Str × V)} {v : V} (h : te σ H fun x H1 => x = .ref a ∧ H1 dd = some (.xd fs) ∧ Q v H1) (hl : fs.lookup f = some v) (hm : ∀ {Q R : VK}, (∀ x H, Q x H → R x H) → te σ H Q → te σ H R) : tXf a (.ref C) (some dd) C f te σ H Q :=
  hm (fun x H1 ⟨e, h1, q⟩ => ⟨e, rfl, dd, fs, v, rfl, h1, hl, q⟩) h
theorem x_xfv {a C dd : Addr} {f : Str} {i : Nat} {σ : L2.St} {H : Hp} {Q : VK} {fs : List (Str × V)} {v : V} (hs : σ[i]? = some (some (.ref a))) (hd : H dd = some (.xd fs)) (hl : fs.lookup f = some v) (q : Q v H) : tXf a (.ref C) (some dd) C f (tVar i) σ H Q :=
  x_var hs ⟨rfl, rfl, dd, fs, v, rfl, hd, hl, q⟩
theorem pss_ex {α : Type} {body : List Stmt} {t : α → TS} (h : ∀ x, PSs X body (t x)) : PSs X body (fun D σ H => ∃ x, t x D σ H) := ⟨fun pins s σ H D I ⟨x, q⟩ => (h x).run pins s σ H D I q⟩
end
/-- the field that the law reads of an error -/
def fldAt (t : Str) : Option Str :=
  if t = "InvalidMachine" then some "state" else if t = "InvalidText" ∨ t = "InvalidCommand" then some "position"
  else if t = "DuplicateName" ∨ t = "InvalidName" ∨ t = "NotAState" ∨ t = "CircularProduct" ∨ t = "UndefinedName" then some "name" else if t = "InvalidDocument" then some "row" else none
def fldIs (fs : List (Str × V)) (v : V) : Option Str → Prop
  | some f => fs.lookup f = some v
  | none => v = .non
theorem z_inStr {K : PySem.W.Frag} {H : Hp} {Q : VK} {a : Str} {p : Addr} {xs : List V} (h1 : Sq K H p xs) (h2 : xs.all flatV = true) (h : Q (.bl (inV (.str a) xs)) H) : sIn K (.str a) (.ref p) H Q := ⟨xs, h1, rfl, h2, h⟩
theorem inV_str (t : Str) : ∀ xs : List Str, inV (.str t) (xs.map V.str) = decide (t ∈ xs)
  | [] => by simp [inV]
  | x :: xs => by
    have h := inV_str t xs
    unfold inV at h ⊢
    rw [List.map_cons, List.any_cons, h]
    unfold eqV
    rw [Bool.eq_iff_iff]
    simp only [Bool.or_eq_true, beq_iff_eq, decide_eq_true_eq, List.mem_cons]
    exact ⟨fun h => h.elim (fun h => .inl h.symm) .inr, fun h => h.elim (fun h => .inl h.symm) .inr⟩
section
variable {P : Program} {w : World} {K : PySem.W.Frag} {mg : Str → Option Value} {base : Heap}
def spField (K : PySem.W.Frag) : Addr → Value → Option Addr → Sp := fun a cls d vs H Q _ => ∃ (C dd : Addr) (fs : List (Str × V)) (t : Str) (v : V), vs = [.ref a] ∧ cls = .ref C ∧ d = some dd ∧ Good K C ∧ H dd = some (.xd fs) ∧ fs.lookup ("tag" : Str) = some (.str t) ∧ fldIs fs v (fldAt t) ∧ ∀ H', Ex H H' → Q v H'
theorem ok_field (T : Txt K mg) : FnQ P w K mg base (L2.CX P w) 1 T.field.f T.field.fd P_field (spField K) := by
  obtain ⟨oc, od, kV, doc, pm, an, cdv, ct, osl, e, lk, hcd⟩ := T.field.F.ex
  rw [e] at lk ⊢
  refine fn_ofQ lk hcd sc_field (fun a cls d vs H Q E h => ?_) fun A outer s H vs Q E p cls d hz hf hr h => ?_
  · obtain ⟨C, dd, fs, t, v, rfl, _⟩ := h
    rfl
  · obtain ⟨C, dd, fs, t, v, rfl, rfl, rfl, gC, hdd, htag, hv, k⟩ := h
    have hp : (p.1, p.2) ∈ (cxH (L2.CX P w) P w K mg base N_field "_law_field" (defScope s_field) T.field.f cdv A outer s H E p).pn := List.mem_singleton.mpr rfl
    refine ⟨_, ((pss_cons (ps_if (pt_cmpR (op_sEq hr.units) (pe_xfQ hp gC.1 (gC.2 _ (by decide)) hz hf (pv 0)) pe_str (nomark _))
  (pss_one (ps_ret (pe_xfQ hp gC.1 (gC.2 _ (by decide)) hz hf (pv 0))))
  pss_nil)
  (pss_cons (ps_if (pt_cmpR op_sIn (pe_xfQ hp gC.1 (gC.2 _ (by decide)) hz hf (pv 0)) (pe_tup (pa_cons pe_str (pa_cons pe_str pa_nil))) (by rfl))
  (pss_one (ps_ret (pe_xfQ hp gC.1 (gC.2 _ (by decide)) hz hf (pv 0))))
  pss_nil)
  (pss_cons (ps_if (pt_cmpR op_sIn (pe_xfQ hp gC.1 (gC.2 _ (by decide)) hz hf (pv 0)) (pe_tup (pa_cons pe_str (pa_cons pe_str (pa_cons pe_str (pa_cons pe_str (pa_cons pe_str pa_nil)))))) (by rfl))
  (pss_one (ps_ret (pe_xfQ hp gC.1 (gC.2 _ (by decide)) hz hf (pv 0))))
  pss_nil)
  (pss_one (ps_ret (pe_ifExp (pt_cmpR (op_sEq hr.units) (pe_xfQ hp gC.1 (gC.2 _ (by decide)) hz hf (pv 0)) pe_str (nomark _)) (pe_xfQ hp gC.1 (gC.2 _ (by decide)) hz hf (pv 0)) pe_non))))))), ?_⟩
    refine go [some (.ref p.1)] rfl ?_
    try dsimp only [L2.cxOf, L2H.cxH]
    unfold fldAt at hv
    walk_at "sx"
    refine x_xfv rfl hdd htag ?_
    walk_at "sx"
    refine y_ite (fun c1 => ?_) (fun c1 => ?_)
    · walk_at "sx"
      rw [if_pos c1] at hv
      exact x_xfv rfl hdd hv (k H (Same.refl _))
    · walk_at "sx"
      rw [if_neg c1] at hv
      refine x_xfv rfl hdd htag ?_
      walk_at "sx"
      refine z_tup fun p1 n1 => ?_
      have e1 := Ex.new (o := .tup [.str "InvalidText", .str "InvalidCommand"]) n1
      refine z_inStr (sq_t (st_of upd_same)) rfl ?_
      walk_at "sx"
      have i1 : inV (.str t) [.str "InvalidText", .str "InvalidCommand"] = decide (t = "InvalidText" ∨ t = "InvalidCommand") := by
        exact (inV_str t ["InvalidText", "InvalidCommand"]).trans (decide_eq_decide.mpr (by simp only [List.mem_cons, List.not_mem_nil, or_false]))
      rw [i1]
      refine y_ite (fun c2 => ?_) (fun c2 => ?_)
      · walk_at "sx"
        rw [if_pos c2] at hv
        exact x_xfv rfl (e1 _ _ hdd) hv (k _ e1)
      · walk_at "sx"
        rw [if_neg c2] at hv
        refine x_xfv rfl (e1 _ _ hdd) htag ?_
        walk_at "sx"
        refine z_tup fun p2 n2 => ?_
        have e2 := e1.trans (Ex.new (o := .tup [.str "DuplicateName", .str "InvalidName", .str "NotAState", .str "CircularProduct", .str "UndefinedName"]) n2)
        refine z_inStr (sq_t (st_of upd_same)) rfl ?_
        walk_at "sx"
        have i2 : inV (.str t) [.str "DuplicateName", .str "InvalidName", .str "NotAState", .str "CircularProduct", .str "UndefinedName"] = decide (t = "DuplicateName" ∨ t = "InvalidName" ∨ t = "NotAState" ∨ t = "CircularProduct" ∨ t = "UndefinedName") := by
          exact (inV_str t ["DuplicateName", "InvalidName", "NotAState", "CircularProduct", "UndefinedName"]).trans (decide_eq_decide.mpr (by simp only [List.mem_cons, List.not_mem_nil, or_false]))
        rw [i2]
        refine y_ite (fun c3 => ?_) (fun c3 => ?_)
        · walk_at "sx"
          rw [if_pos c3] at hv
          exact x_xfv rfl (e2 _ _ hdd) hv (k _ e2)
        · walk_at "sx"
          rw [if_neg c3] at hv
          refine x_xfv rfl (e2 _ _ hdd) htag ?_
          walk_at "sx"
          refine y_ite (fun c4 => ?_) (fun c4 => ?_)
          · walk_at "sx"
            rw [if_pos c4] at hv
            exact x_xfv rfl (e2 _ _ hdd) hv (k _ e2)
          · walk_at "sx"
            rw [if_neg c4] at hv
            obtain rfl : v = .non := hv
            exact k _ e2
end
end R

/-! # O4: the law's outcome and tag of a lambda -/
namespace R
open PySem PySem.Spec PyProof.Rows L2 L2H LamX
/-- the three classes of the clause -/
abbrev cs3 {K : PySem.W.Frag} {mg : Str → Option Value} (T : Txt K mg) : List Value := [.ref T.x_RingError, .ref T.x_UndefinedName, .ref T.x_EmptyHistory]
/-- what the clause asks of an error: its tag t, the field v -/
def hitX {K : PySem.W.Frag} {mg : Str → Option Value} (T : Txt K mg) (Q : VK) : XK := fun cls d H' => ∃ (C dd : Addr) (fs : List (Str × V)) (t : Str) (v : V), cls = .ref C ∧ d = some dd ∧ Good K C ∧ PySem.W.exmAny K (.ref C) (cs3 T) = some true ∧ H' dd = some (.xd fs) ∧
  fs.lookup ("tag" : Str) = some (.str t) ∧ fldIs fs v (fldAt t) ∧ ∀ H'', Ex H' H'' → mkT [.str t, v] H'' Q
def TOut {K : PySem.W.Frag} {mg : Str → Option Value} (T : Txt K mg) (tl : XK → Hp → VK → Prop) (H : Hp) (Q : VK) : Prop := tl (hitX T Q) H fun v H' => mkT [.str "", v] H' Q
section
variable {X : Cx} {pins : List (Addr × Obj)} {σ : L2.St} {H : Hp} {s : Shared} {params : Arguments} {body : Expr} {scope : Scope} {f c' : Addr} {pm ctv : Value} {k : Nat} {t : XK → TE}
theorem outcome_run (T : Txt X.K X.mg) (la : LamAt X pins σ H s params body scope f c' pm ctv) {A2 : Around} {outer2 : List Env} {s2 : Shared} {H2 : Hp} {Q : VK} (un0 : Un (frs outer2) [] H H2 s.heap s2.heap) (hfr : f ∉ frs outer2) (e0 : Env0 X.prog X.w X.K X.mg X.base A2 outer2 s2 H2) (hr : Room (k + 3) A2)
    (hbody : ∀ (A : Around) (outer : List Env) (s' : Shared) (H' : Hp) (E : XK), Room k (A.deeper (lamEnv X scope s'.heap.objs.size f c')) → PE (lamCx X A outer s' H' E scope f c') body (t E))
    (hc : H2 c' = some (CodeO c' (X.env.qual ++ "<lambda>"))) (h : TOut T (fun E H' Q' => t E σ H' Q') H2 Q) :
    codeAny (model X.prog X.w) A2 (.call (.ref T.outcome.f) ⟨[.ref f], []⟩) (CR (L2.CX X.prog X.w) outer2 X.prog X.w H2 s2 Q fun _ _ _ => False) s2 := by
  obtain ⟨oc, od, kV, doc, pm0, an, cdv, ct, osl, e, lk, hcd⟩ := T.outcome.F.ex
  have KI : X.K.In s2.heap := e0.mod.kin.keeps fun b o q => (e0.bs b o q).1
  have hb := T.outcome.b s2 [.ref f] KI rfl
  rw [e] at lk hb
  refine run_ofS (N := N_outcome) (ps := P_outcome) (us := [.ref f]) (vs := [.ref f]) lk hcd sc_outcome hr e0 hb (.cons rfl .nil) rfl fun hr' => ?_
  refine ⟨_, pss_one (ps_try_as3 (i := 1) rfl rfl sc_outcome.nd rfl rfl ⟨rfl, by decide, .inl T.n_RingError⟩ ⟨rfl, by decide, .inl T.n_UndefinedName⟩ ⟨rfl, by decide, .inl T.n_EmptyHistory⟩
    (fun W pn xe tk _ => pss_ex fun Ech : {E : XK // ∀ cls d (σ' : L2.St) H', σ'.length = N_outcome.length → E cls d H' → W cls d σ' H'} => pss_one (ps_ret (pe_tup (pa_cons pe_str (pa_cons (pe_act2 (i := 0) (k := k) la un0 hfr tk Ech.2 (hr'.mono (by omega)) (fun A outer s' H' hq => hbody A outer s' H' Ech.1 hq) rfl (by first | exact Or.inl rfl | exact Or.inr (Or.inl rfl))) pa_nil)))))
    (fun a oe cls d pn hz hf => pss_ex fun C : {C : Addr // Good X.K C} => pss_one (ps_ret (pe_tup (pa_cons (pe_xfQ (C := C.1) (n := "tag") List.mem_cons_self C.2.1 (C.2.2 _ (by decide)) hz hf (pv 1)) (pa_cons (pe_callQ (x := "_law_field") (X := Cx.suite (cxOf (L2.CX X.prog X.w) X.prog X.w X.K X.mg X.base N_outcome "_law_outcome" (defScope s_outcome) T.outcome.f cdv A2 outer2 s2 H2 fun _ _ _ => False) a ((a, oe) :: pn)) (k := 1) hz hf (ok_field T) ⟨(hr'.mono (by omega) : Room 1 _).dp, (hr'.mono (by omega) : Room 1 _).un⟩ List.mem_cons_self rfl T.field.g T.field.F.kp T.field.b (pa_cons (pv 1) pa_nil)) pa_nil)))))), ?_⟩
  refine ⟨⟨hitX T Q, fun cls d σ' H' hl hh => ?_⟩, ?_⟩
  · obtain ⟨C, dd, fs, tg, v, rfl, rfl, gC, hx, hdd, htag, hv, kk⟩ := hh
    obtain ⟨x0, x1, rfl⟩ : ∃ x0 x1, σ' = [x0, x1] := by
      match σ', hl with
      | [x0, x1], _ => exact ⟨x0, x1, rfl⟩
    refine ⟨hx, fun a na => ?_⟩
    refine ⟨⟨C, gC⟩, ?_⟩
    show tRet _ _ [x0, some (.ref a)] H'
    refine x_ret (x_tup (x_cons ?_))
    refine x_xfv rfl hdd htag ?_
    refine x_cons ?_
    refine x_cons (x_var rfl (x_nil ?_))
    refine ⟨C, dd, fs, tg, v, rfl, rfl, rfl, gC, hdd, htag, hv, fun H'' e => ?_⟩
    exact x_nil (kk H'' e)
  · refine x_ret (x_tup (x_cons (x_c (x_cons ?_))))
    exact ⟨rfl, hc, h⟩
end
end R

/-! # O5: _law_tag(lambda: ..), _law_outcome(lambda: ..) -/
namespace R
open PySem PySem.Spec PyProof.Rows L2 L2H LamX
theorem no_cx {P : Program} {w : World} {o : List Env} {H : Hp} {s : Shared} {e : Value} {s' : Shared} (h : L2.CX P w o H s (fun _ _ _ => False) e s') : False := by
  obtain ⟨_, _, _, _, _, _, _, _, _, _, _, _, z⟩ := h
  exact z
section
variable {X : Cx} {pins : List (Addr × Obj)} {σ : L2.St} {H : Hp} {s : Shared} {params : Arguments} {body : Expr} {scope : Scope} {f c' : Addr} {pm ctv : Value} {k : Nat} {t : XK → TE}
abbrev E0f : XK := fun _ _ _ => False
theorem pe_outIn (T : Txt X.K X.mg) {Ng : List Str} {qg : Str} {sg : Scope} {g : Addr} {cdg : Value} {i : Nat} {a : Str} {p1 p2 p3 : Pos} {A2 : Around} {outer2 : List Env} {s2 : Shared} {H2 : Hp} (la : LamAt X pins σ H s params body scope f c' pm ctv)
    (un0 : Un (frs outer2) [] H H2 s.heap s2.heap) (hfr : f ∉ frs outer2) (hr : Room (k + 3) (A2.deeper (envOfC qg sg s2.heap.objs.size g cdg)))
    (hbody : ∀ (A : Around) (outer : List Env) (s' : Shared) (H' : Hp) (E : XK), Room k (A.deeper (lamEnv X scope s'.heap.objs.size f c')) → PE (lamCx X A outer s' H' E scope f c') body (t E))
    (hg : Gl (cxOf (L2.CX X.prog X.w) X.prog X.w X.K X.mg X.base Ng qg sg g cdg A2 outer2 s2 H2 E0f) "_law_outcome") (hN : Ng[i]? = some a) (hv : Vis sg a) (hd : (a == ("__debug__" : Str)) = false) (hcd : (a == ("__classdict__" : Str)) = false) :
    PE (cxOf (L2.CX X.prog X.w) X.prog X.w X.K X.mg X.base Ng qg sg g cdg A2 outer2 s2 H2 E0f) (.Call (.Name "_law_outcome" p1) [.Name a p2] [] p3)
      (fun σZ HZ Q => σZ[i]? = some (some (.ref f)) ∧ HZ c' = some (CodeO c' (X.env.qual ++ "<lambda>")) ∧ TOut T (fun E H' Q' => t E σ H' Q') HZ Q) := by
  refine ⟨fun pinsZ sZ σZ HZ Q IZ h => ?_⟩
  obtain ⟨hs, hc, ht⟩ := h
  refine wpAny_Call_Name_kw (ld_glob IZ hg T.outcome.g ?_ (by decide))
  have ha : PA (cxOf (L2.CX X.prog X.w) X.prog X.w X.K X.mg X.base Ng qg sg g cdg A2 outer2 s2 H2 E0f) [.Name a p2] (tCons (tVar i) tNil) := pa_cons (pe_var hN hv hd hcd) pa_nil
  refine PySem.W.callWith_K (h₀ := X.base) IZ.ok.mod.kin T.outcome.F.kp (thn (ha.run p3 pinsZ sZ σZ HZ (fun vs H1 => vs = [.ref f] ∧ H1 = HZ) IZ (x_cons (x_var hs (x_nil ⟨rfl, rfl⟩)))) fun us s1 ⟨vs, H1, I1, r, e1, e2⟩ => ⟨I1.kIn, ?_⟩) (by rfl) (by rfl)
  subst e1 e2
  obtain rfl : us = [.ref f] := by
    cases r with
    | cons a b => cases b; cases a; rfl
  have un1 : Un (frs outer2) [] H H1 s.heap s1.heap := un0.trans I1.base
  have un2 : Un (frs (envOfC qg sg s2.heap.objs.size g cdg :: outer2)) [] H H1 s.heap s1.heap := un1.mono (fun b hb => by
    obtain ⟨e, he, q⟩ := List.mem_filterMap.mp hb
    exact List.mem_filterMap.mpr ⟨e, List.mem_cons_of_mem _ he, q⟩) (fun b hb => hb)
  have of2 := un0.keep f _ la.obj la.new hfr (fun z => nomatch (show f ∈ ([] : List Addr) from z))
  have hfr2 : f ∉ frs (envOfC qg sg s2.heap.objs.size g cdg :: outer2) := fun hm => by
    obtain ⟨e, he, q⟩ := List.mem_filterMap.mp hm
    rcases List.mem_cons.mp he with rfl | he
    · have q' : some s2.heap.objs.size = some f := q
      have : f < s2.heap.objs.size := Heap.lt_size of2
      exact absurd (Option.some.inj q') (Nat.ne_of_gt this)
    · exact hfr (List.mem_filterMap.mpr ⟨e, he, q⟩)
  refine wpAny_call (codeAny_mono (outcome_run T la un2 hfr2 I1.env0 hr hbody hc ht) fun r s' hq => ?_)
  cases r with
  | error e => exact (no_cx hq).elim
  | ok fl =>
    cases fl with
    | ret u => exact I1.after hq
    | next => exact False.elim hq
    | brk => exact False.elim hq
    | cont => exact False.elim hq
def TTag {K : PySem.W.Frag} {mg : Str → Option Value} (T : Txt K mg) (tl : XK → Hp → VK → Prop) (H : Hp) (Q : VK) : Prop := TOut T tl H fun v H' => sIx K v (.int 0) H' Q
theorem tag_run (T : Txt X.K X.mg) (la : LamAt X pins σ H s params body scope f c' pm ctv) {A2 : Around} {outer2 : List Env} {s2 : Shared} {H2 : Hp} {Q : VK} (un0 : Un (frs outer2) [] H H2 s.heap s2.heap) (hfr : f ∉ frs outer2) (e0 : Env0 X.prog X.w X.K X.mg X.base A2 outer2 s2 H2) (hr : Room (k + 4) A2)
    (hbody : ∀ (A : Around) (outer : List Env) (s' : Shared) (H' : Hp) (E : XK), Room k (A.deeper (lamEnv X scope s'.heap.objs.size f c')) → PE (lamCx X A outer s' H' E scope f c') body (t E))
    (hc : H2 c' = some (CodeO c' (X.env.qual ++ "<lambda>"))) (h : TTag T (fun E H' Q' => t E σ H' Q') H2 Q) :
    codeAny (model X.prog X.w) A2 (.call (.ref T.tag.f) ⟨[.ref f], []⟩) (CR (L2.CX X.prog X.w) outer2 X.prog X.w H2 s2 Q fun _ _ _ => False) s2 := by
  obtain ⟨oc, od, kV, doc, pm0, an, cdv, ct, osl, e, lk, hcd⟩ := T.tag.F.ex
  have KI : X.K.In s2.heap := e0.mod.kin.keeps fun b o q => (e0.bs b o q).1
  have hb := T.tag.b s2 [.ref f] KI rfl
  rw [e] at lk hb
  refine run_ofS (N := N_tag) (ps := P_tag) (us := [.ref f]) (vs := [.ref f]) lk hcd sc_tag hr e0 hb (.cons rfl .nil) rfl fun hr' => ?_
  exact ⟨_, pss_one (ps_ret (pe_ix ix_s (pe_outIn (i := 0) T la un0 hfr hr' hbody rfl rfl (by first | exact Or.inl rfl | exact Or.inr (Or.inl rfl)) (by decide) (by decide)) pe_int (fun _ _ => rfl))), rfl, hc, h⟩
/-- x(lambda: body) for a def x, its run told of the very state -/
theorem pe_lamG {TT : List (Addr × Str)} {x a : Str} {st : Stmt} {c P : Addr} {Rd0 : L2.St → Hp → VK → Prop} {p lpos pos : Pos} (d : DF X.K X.mg x st [a]) (hg : Gl X x)
    (TB : TabB X.base X.mg c P) (hcode : X.env.code = .ref c) (hmT : (P, X.env.qual ++ "<lambda>") ∈ TT) (hu : ∀ p ∈ TT, p.1 = P → p.2 = X.env.qual ++ "<lambda>") (L : LamS X.env.scope scope) (hdef : defaultsOf params X.env = ([], []))
    (hbind : ∀ (q : Str) (cl : List (Str × Addr)) (pm cv ctv : Value), bindArgs (PySem.W.kla_fn "<lambda>" q params body scope cl pm cv ctv) ⟨[], []⟩ = pure [])
    (hrun : ∀ (pins : List (Addr × Obj)) (σ : L2.St) (H : Hp) (s : Shared) (f c' : Addr) (pm ctv : Value) (Q : VK), LamAt X pins σ H s params body scope f c' pm ctv → f ∉ frs X.stack → H c' = some (CodeO c' (X.env.qual ++ "<lambda>")) → Rd0 σ H Q →
      codeAny (model X.prog X.w) X.A (.call (.ref d.f) ⟨[.ref f], []⟩) (CR (L2.CX X.prog X.w) X.stack X.prog X.w H s Q fun _ _ _ => False) s)
    (hdb : (x == ("__debug__" : Str)) = false := by decide) :
    PE X (.Call (.Name x p) [.Lambda params body scope lpos] [] pos) (fun σ H Q => Tabs TT H ∧ ∀ H1, ExtN H H1 → Tabs TT H1 → Rd0 σ H1 Q) := by
  refine ⟨fun pins s σ H Q I h => ?_⟩
  obtain ⟨hT, h⟩ := h
  refine wpAny_Call_Name_kw (ld_glob I hg d.g ?_ hdb)
  refine PySem.W.callWith_K (h₀ := X.base) I.ok.mod.kin d.F.kp ?_ (by rfl) (by rfl)
  show wpAny _ _ (spliced ((false, eval (.Lambda params body scope lpos) X.env) :: backTo pos (starEach [] X.env))) _ _ s
  refine Calls.spliced_cons (lam_make2 I TB hcode hmT hu hT hdef (L.has I.ok) fun f c' pm' ctv H1 s' I1 eN T1 hf hfn hfr hco => ?_)
  refine Calls.spliced_nil ⟨I1.kIn, ?_⟩
  refine wpAny_call (codeAny_mono (hrun pins σ H1 s' f c' pm' ctv Q ⟨I1, L, hf, hfn, hbind _ _ _ _ _⟩ hfr hco (h H1 eN T1)) fun r s2 hq => ?_)
  cases r with
  | error e => exact (no_cx hq).elim
  | ok fl =>
    cases fl with
    | ret u => exact I1.after hq
    | next => exact False.elim hq
    | brk => exact False.elim hq
    | cont => exact False.elim hq
/-- the reading of tag(lambda: t), outcome(lambda: t) -/
def tLamTag {K : PySem.W.Frag} {mg : Str → Option Value} (T : Txt K mg) (TT : List (Addr × Str)) (t : XK → TE) : TE := fun σ H Q => Tabs TT H ∧ ∀ H1, ExtN H H1 → Tabs TT H1 → TTag T (fun E H' Q' => t E σ H' Q') H1 Q
def tLamOut {K : PySem.W.Frag} {mg : Str → Option Value} (T : Txt K mg) (TT : List (Addr × Str)) (t : XK → TE) : TE := fun σ H Q => Tabs TT H ∧ ∀ H1, ExtN H H1 → Tabs TT H1 → TOut T (fun E H' Q' => t E σ H' Q') H1 Q
theorem pe_lamTag (T : Txt X.K X.mg) {TT : List (Addr × Str)} {c P : Addr} {p lpos pos : Pos} (hg : Gl X "_law_tag")
    (TB : TabB X.base X.mg c P) (hcode : X.env.code = .ref c) (hmT : (P, X.env.qual ++ "<lambda>") ∈ TT) (hu : ∀ p ∈ TT, p.1 = P → p.2 = X.env.qual ++ "<lambda>") (hr : Room (k + 4) X.A) (L : LamS X.env.scope scope) (hdef : defaultsOf params X.env = ([], []))
    (hbind : ∀ (q : Str) (cl : List (Str × Addr)) (pm cv ctv : Value), bindArgs (PySem.W.kla_fn "<lambda>" q params body scope cl pm cv ctv) ⟨[], []⟩ = pure [])
    (hbody : ∀ (A : Around) (outer : List Env) (s' : Shared) (H' : Hp) (E : XK) (f c' : Addr), Room k (A.deeper (lamEnv X scope s'.heap.objs.size f c')) → PE (lamCx X A outer s' H' E scope f c') body (t E)) :
    PE X (.Call (.Name "_law_tag" p) [.Lambda params body scope lpos] [] pos) (tLamTag T TT t) :=
  pe_lamG T.tag hg TB hcode hmT hu L hdef hbind fun _ _ _ _ f c' _ _ _ la hfr hc h => tag_run T la Un.refl hfr la.inv.env0 hr (fun A outer s' H' E q => hbody A outer s' H' E f c' q) hc h
theorem pe_lamOut (T : Txt X.K X.mg) {TT : List (Addr × Str)} {c P : Addr} {p lpos pos : Pos} (hg : Gl X "_law_outcome")
    (TB : TabB X.base X.mg c P) (hcode : X.env.code = .ref c) (hmT : (P, X.env.qual ++ "<lambda>") ∈ TT) (hu : ∀ p ∈ TT, p.1 = P → p.2 = X.env.qual ++ "<lambda>") (hr : Room (k + 4) X.A) (L : LamS X.env.scope scope) (hdef : defaultsOf params X.env = ([], []))
    (hbind : ∀ (q : Str) (cl : List (Str × Addr)) (pm cv ctv : Value), bindArgs (PySem.W.kla_fn "<lambda>" q params body scope cl pm cv ctv) ⟨[], []⟩ = pure [])
    (hbody : ∀ (A : Around) (outer : List Env) (s' : Shared) (H' : Hp) (E : XK) (f c' : Addr), Room k (A.deeper (lamEnv X scope s'.heap.objs.size f c')) → PE (lamCx X A outer s' H' E scope f c') body (t E)) :
    PE X (.Call (.Name "_law_outcome" p) [.Lambda params body scope lpos] [] pos) (tLamOut T TT t) :=
  pe_lamG T.outcome hg TB hcode hmT hu L hdef hbind fun _ _ _ _ f c' _ _ _ la hfr hc h => outcome_run T la Un.refl hfr la.inv.env0 (hr.mono (by omega)) (fun A outer s' H' E q => hbody A outer s' H' E f c' q) hc h
end
end R

/-! # M0: moduli -/
namespace R
open PySem PySem.Spec PyProof.Rows L2
/-- r stands somewhere (the law's source) -/
def Liv (H : Hp) (r : Addr) : Prop := ∃ o, H r = some o
theorem Liv.ne {H : Hp} {r p : Addr} (h : Liv H r) (n : H p = none) : p ≠ r := by
  obtain ⟨o, h⟩ := h
  exact Ne.symm (ne_of_none h n)
theorem Liv.ex {H H' : Hp} {r : Addr} (h : Liv H r) (e : Ex H H') : Liv H' r := by
  obtain ⟨o, h⟩ := h
  exact ⟨o, e _ _ h⟩
theorem Rng.liv {H : Hp} {r l : Addr} (h : Rng H r l) : Liv H r := by
  obtain ⟨ns, i, c, s, h1, _⟩ := h
  exact ⟨_, h1⟩
def okMod (p : Int) : Bool := inV (.int p) [.int 2, .int 3, .int 5]
theorem okMod_iff {p : Int} : okMod p = true ↔ p = 2 ∨ p = 3 ∨ p = 5 := by
  unfold okMod inV eqV
  simp only [List.any_cons, List.any_nil, Bool.or_false, Bool.or_eq_true, beq_iff_eq]
  constructor
  · rintro (h | h | h) <;> omega
  · rintro (h | h | h) <;> omega
theorem Er.back {E : XK} {C : Addr} {fs : List (Str × V)} {H H' : Hp} (h : Er E C fs H) (e : Ex H H') : Er E C fs H' := fun d H2 nd h2 e2 => h d H2 (e.none nd) h2 (e.trans e2)
section
variable {P : Program} {w : World} {K : PySem.W.Frag} {mg : Str → Option Value} {base : Heap}
def spCheckModulus (T : Txt K mg) : Sp := fun vs H Q E => ∃ p : Int, vs = [.int p] ∧ (okMod p = true → Q .non H) ∧ (okMod p = false → Er E T.e_InvalidModulus.C [("tag", .str "InvalidModulus")] H)
theorem ok_check_modulus (T : Txt K mg) : Ok P w K mg base 3 T.check_modulus (spCheckModulus T) := by
  refine ok_of T.check_modulus sc_check_modulus (fun vs H Q E h => ?_) (fun cdv A outer s H vs Q E hr h => ?_)
  · obtain ⟨p, rfl, _⟩ := h
    rfl
  · obtain ⟨p, rfl, k1, k2⟩ := h
    refine ⟨_, ((pss_one (ps_if (pt_cmpR op_sNotIn (pv 0) (pglob T.c_MODULI (by rfl)) (by rfl))
  (pss_one (praise0 T.e_InvalidModulus (ei_InvalidModulus T) (hr.mono (by omega)) rfl (takes_of rfl rfl rfl rfl)))
  pss_nil))), ?_⟩
    refine go [some (.int p)] rfl ?_
    try dsimp only [L2.cxOf]
    walk_at "sx"
    refine z_ninI (sq_t (T.t_MODULI H)) rfl ?_
    walk_at "sx"
    show if (!okMod p) = true then _ else _
    cases e : okMod p with
    | true =>
      walk_at "sx"
      exact k1 e
    | false =>
      walk_at "sx"
      exact z_rs rfl (by decide) (k2 e)
end
end R

/-! # O6: the law's def with its own code object -/
namespace R
open PySem PySem.Spec PyProof.Rows L2 LamX
section
variable {P : Program} {w : World} {K : PySem.W.Frag} {mg : Str → Option Value} {base : Heap}
theorem ok_ofL {x : Str} {st : Stmt} {ps N : List Str} {k : Nat} {sp : Sp} (d : DF K mg x st ps) {c : Addr} (hc : d.fd.code = .ref c) (S : FnScope N ps (defScope st)) (len : ∀ vs H Q E, sp vs H Q E → vs.length = ps.length)
    (hbody : ∀ (A : Around) (outer : List Env) (s : Shared) (H : Hp) (vs : List V) (Q : VK) (E : XK), Room k (A.deeper (envOfC x (defScope st) s.heap.objs.size d.f (.ref c))) → sp vs H Q E →
      ∃ t, PSs (cxOf (L2.CX P w) P w K mg base N x (defScope st) d.f (.ref c) A outer s H E) (defBody st) t ∧ t { nx := fun _ H' => Q .non H', rt := Q } (L2.start N vs) H) : Ok P w K mg base (k + 1) d sp := by
  obtain ⟨oc, od, kV, doc, pm, an, cdv, ct, osl, e, lk, hcd⟩ := d.F.ex
  rw [e] at lk hc
  have hc' : cdv = .ref c := hc
  subst hc'
  have := fn_of (CX := L2.CX P w) (P := P) (w := w) (mg := mg) (base := base) (k := k) (sp := sp) lk hcd S len hbody
  rw [← e] at this
  exact this
end
section
variable {X : Cx} {A : Around} {outer : List Env} {s : Shared} {H : Hp} {E : XK} {scope : Scope} {f c' : Addr}
/-- an error of a callee leaves the lambda -/
theorem passLam : Passes (L2.CX (lamCx X A outer s H E scope f c').prog (lamCx X A outer s H E scope f c').w) (lamCx X A outer s H E scope f c') E := passes_call (W := fun cls d _ H => E cls d H) (takes_of rfl rfl rfl rfl) (fun _ _ _ _ h => h)
end
/-! ### tables and what is kept -/
theorem TabS.kp {H H' : Hp} {P r : Addr} {q : Str} {zs : List V} (t : TabS H P q) (e : Kp r H H') (hr : H r = some (.lst zs)) : TabS H' P q := by
  obtain ⟨ps, h1, h2, h3⟩ := t
  refine ⟨ps, e _ _ h1 fun z => ?_, h2, fun pos cv hc => ?_⟩
  · subst z
    rw [hr] at h1
    cases h1
  · obtain ⟨c, e1, e2⟩ := h3 pos cv hc
    refine ⟨c, e1, e _ _ e2 fun z => ?_⟩
    subst z
    rw [hr] at e2
    unfold CodeO at e2
    cases e2
theorem Tabs.kp {T : List (Addr × Str)} {H H' : Hp} {r l : Addr} (t : Tabs T H) (e : Kp r H H') (R : Rng H r l) : Tabs T H' := fun p hp => by
  obtain ⟨ns, i, c, s, h1, _⟩ := R
  exact TabS.kp (t p hp) e h1
theorem Rng.en {H H' : Hp} {r l : Addr} (h : Rng H r l) (e : ExtN H H') : Rng H' r l := by
  obtain ⟨ns, i, c, s, h1, h2, h3⟩ := h
  exact ⟨ns, i, c, s, e _ _ h1 (fun _ z => by cases z), e _ _ h2 (fun _ z => by cases z), h3⟩
theorem Liv.en {H H' : Hp} {r l : Addr} (h : Rng H r l) (e : ExtN H H') : ∃ o, H' r = some o := by
  obtain ⟨ns, i, c, s, h1, _⟩ := h.en e
  exact ⟨_, h1⟩
theorem rd_en {H H' : Hp} {a : Addr} {u : HO} (e : ExtN H H') (h : Rd H a u) (n : ∀ ps, u ≠ .tbl ps) : Rd H' a u := by
  rcases h with h | ⟨o, h⟩
  · exact .inl (e a _ h n)
  · exact .inr ⟨o, e a _ h fun _ z => by cases z⟩
section
variable {K : PySem.W.Frag} {mg : Str → Option Value} {T : Txt K mg} {C : Addr} {fs : List (Str × V)} {t : Str} {v : V} {H : Hp} {Q : VK}
/-- the tag of an error that the clause catches -/
theorem use_hit (g : Good K C) (hx : PySem.W.exmAny K (.ref C) (cs3 T) = some true) (ht : fs.lookup ("tag" : Str) = some (.str t)) (hv : fldIs fs v (fldAt t)) (k : ∀ H'', Ex H H'' → Q (.str t) H'') : Er (hitX T fun v H' => sIx K v (.int 0) H' Q) C fs H := fun d H' nd hd e =>
  ⟨C, d, fs, t, v, rfl, rfl, g, hx, hd, ht, hv, fun H'' e2 => z_tup fun p np => z_ix (sq_t (st_of upd_same)) rfl (k _ ((e.trans e2).trans (Ex.new np)))⟩
/-- the pair of tag and field -/
theorem use_hitO (g : Good K C) (hx : PySem.W.exmAny K (.ref C) (cs3 T) = some true) (ht : fs.lookup ("tag" : Str) = some (.str t)) (hv : fldIs fs v (fldAt t)) (k : ∀ p H'', H p = none → Ex H H'' → H'' p = some (.tup [.str t, v]) → Q (.ref p) H'') : Er (hitX T Q) C fs H := fun d H' nd hd e =>
  ⟨C, d, fs, t, v, rfl, rfl, g, hx, hd, ht, hv, fun H'' e2 => z_tup fun p np => k p _ (Ex.none (e.trans e2) np) ((e.trans e2).trans (Ex.new np)) upd_same⟩
end
theorem x_lamTag {K : PySem.W.Frag} {mg : Str → Option Value} {T : Txt K mg} {TT : List (Addr × Str)} {t : XK → TE} {σ : L2.St} {H : Hp} {Q : VK} (h1 : Tabs TT H) (h : ∀ H1, ExtN H H1 → Tabs TT H1 → t (hitX T fun v H' => sIx K v (.int 0) H' Q) σ H1 fun v H' => mkT [.str "", v] H' fun v H' => sIx K v (.int 0) H' Q) : tLamTag T TT t σ H Q := ⟨h1, h⟩
theorem x_lamOut {K : PySem.W.Frag} {mg : Str → Option Value} {T : Txt K mg} {TT : List (Addr × Str)} {t : XK → TE} {σ : L2.St} {H : Hp} {Q : VK} (h1 : Tabs TT H) (h : ∀ H1, ExtN H H1 → Tabs TT H1 → t (hitX T Q) σ H1 fun v H' => mkT [.str "", v] H' Q) : tLamOut T TT t σ H Q := ⟨h1, h⟩
theorem fld_none {fs : List (Str × V)} {t : Str} (h : fldAt t = none) : fldIs fs .non (fldAt t) := by
  rw [h]
  rfl
theorem Tabs.set {T : List (Addr × Str)} {H : Hp} {q : Addr} {zs : List V} {o : HO} (t : Tabs T H) (h : H q = some (.lst zs)) : Tabs T (upd H q o) := fun p hp => TabS.kp (t p hp) Kp.set h
/-- the law's promise with a table at P -/
abbrev lamQ : Str := (envOfC "law" ⟨.function, [], false, false, []⟩ 0 0 .none).qual ++ "<lambda>"
end R

/-! # H0: comprehensions that draw -/
namespace R
open PySem PySem.Spec PyProof.Rows L2
/-- such data stands when a list is changed -/
def StB {α : Type} (r : Addr) (g : α → PyData) : Prop := ∀ (L : Addr) (H : Hp) (vs zs : List V) (xs : List α) (o : HO), DqAll r H vs (xs.map g) → H L = some (.lst zs) → DqAll r (upd H L o) vs (xs.map g)
theorem rows_upd {r L : Addr} {H : Hp} {vs zs : List V} {ts : List (List Nat)} {o : HO} (h : DqAll r H vs (ts.map dT)) (hL : H L = some (.lst zs)) : DqAll r (upd H L o) vs (ts.map dT) := by
  refine DqAll.by h.len fun i d hd => ?_
  obtain ⟨hi, t, ht, rfl⟩ := map_at hd
  obtain ⟨v, hv, h1⟩ := h.at hd
  obtain ⟨a, rfl, h2, h3, h4⟩ := h1.row
  exact ⟨_, hv, Dq.rowI (rd_kp Kp.set h2 (rt_ne_l h2 hL)) h3 h4⟩
theorem stT {r : Addr} : StB r dT := fun _ _ _ _ _ _ h hL => rows_upd h hL
theorem stN {r : Addr} : StB r dN := fun _ _ vs _ xs _ h _ => by
  have := h.nats
  subst this
  exact dq_nats xs
/-- the list made so far at D, by a source at r -/
def RndP {α : Type} (r l D : Addr) (H0 : Hp) (g : α → PyData) (ok : α → Prop) : Nat → Hp → Prop := LcP D fun i zs H' => Kp r H0 H' ∧ Rng H' r l ∧ ∃ xs : List α, xs.length = i ∧ (∀ x ∈ xs, ok x) ∧ DqAll r H' zs (xs.map g)
section
variable {α : Type} {r l D : Addr} {H0 H1 : Hp} {g : α → PyData} {ok : α → Prop} {i n : Nat}
theorem rnd0 (R : Rng H0 r l) (hD : H0 D = none) : RndP r l D H0 g ok 0 (upd H0 D (.lst [])) := lc0 ⟨Kp.new hD, R.ex (Ex.new hD), [], rfl, fun _ h => absurd h List.not_mem_nil, .nil⟩
theorem RndP.rng (h : RndP r l D H0 g ok i H1) : Rng H1 r l := by
  obtain ⟨_, _, _, _, h, _⟩ := h
  exact h
theorem RndP.kp (h : RndP r l D H0 g ok i H1) : Kp r H0 H1 := by
  obtain ⟨_, _, _, h, _⟩ := h
  exact h
theorem RndP.put (h : RndP r l D H0 g ok i H1) (R0 : Rng H0 r l) (hD : H0 D = none) (st : StB r g) (hi : i < 900000) {H4 : Hp} {y : V} {x : α} (K : Kp r H1 H4) (R4 : Rng H4 r l) (d : Dq r H4 y (g x)) (o : ok x) :
    ∃ acc, H4 D = some (.lst acc) ∧ acc.length < sizeLine ∧ RndP r l D H0 g ok (i + 1) (upd H4 D (.lst (acc ++ [y]))) := by
  obtain ⟨zs, h1, h2, K1, R1, xs, h3, h4, h5⟩ := h
  have nD := R0.ne hD
  have hz := K _ _ h1 nD
  refine ⟨zs, hz, sz_lt (by omega), zs ++ [y], upd_same, by rw [List.length_append, List.length_singleton]; omega, (K1.trans K).mut hD, R4.upd nD (R0.nel hD), xs ++ [x], by rw [List.length_append, h3]; rfl, ?_, ?_⟩
  · intro z hzz
    rcases List.mem_append.mp hzz with hzz | hzz
    · exact h4 z hzz
    · rw [List.mem_singleton.mp hzz]
      exact o
  · have h6 : DqAll r H4 (zs ++ [y]) ((xs ++ [x]).map g) := by
      rw [List.map_append]
      exact (DqAll.kp K _ _ h5).snoc d
    exact st D H4 _ zs _ _ h6 hz
theorem RndP.fin (h : RndP r l D H0 g ok n H1) : ∃ (xs : List α) (zs : List V), H1 D = some (.lst zs) ∧ xs.length = n ∧ (∀ x ∈ xs, ok x) ∧ DqAll r H1 zs (xs.map g) ∧ Kp r H0 H1 ∧ Rng H1 r l := by
  obtain ⟨zs, h1, h2, K1, R1, xs, h3, h4, h5⟩ := h
  exact ⟨xs, zs, h1, h3, h4, h5, K1, R1⟩
end
section
variable {H : Hp} {Q : VK} {E : XK} {r l : Addr} {m : Int} {K : PySem.W.Frag}
theorem use_drawN {k : Nat} (h : Rng H r l) (c : ∀ (n : Nat) (H' : Hp), n < k → Kp r H H' → Rng H' r l → Q (vN n) H') (hm : m = k := by omega) (h0 : 0 < k := by omega) (h1 : k ≤ 1000000 := by omega) : spDraw [.ref r, .int m] H Q E := by
  subst hm
  refine use_draw h (fun n H' n0 n1 kp R => ?_) (by omega) (by omega)
  obtain ⟨j, rfl⟩ : ∃ j : Nat, n = j := ⟨n.toNat, by omega⟩
  exact c j H' (by omega) kp R
end
def isP (p : Nat) : Prop := p = 2 ∨ p = 3 ∨ p = 5
theorem isP.pos {p : Nat} (h : isP p) : 2 ≤ p ∧ p ≤ 5 := by unfold isP at h; omega
section
variable {P : Program} {w : World} {K : PySem.W.Frag} {mg : Str → Option Value} {base : Heap}
def spModulus : Sp := fun vs H Q _ => ∃ (r l : Addr), vs = [.ref r] ∧ Rng H r l ∧ ∀ (p : Nat) (H' : Hp), isP p → Kp r H H' → Rng H' r l → Q (vN p) H'
theorem ok_modulus (T : Txt K mg) : Ok P w K mg base 3 T.modulus spModulus := by
  refine ok_of T.modulus sc_modulus (fun vs H Q E h => ?_) (fun cdv A outer s H vs Q E hr h => ?_)
  · obtain ⟨r, l, rfl, _⟩ := h
    rfl
  · obtain ⟨r, l, rfl, R0, k⟩ := h
    refine ⟨_, ((pss_one (ps_ret (pcall T.pick (ok_pick T) (hr.mono (by omega)) passE (pa_cons (pv 0) (pa_cons (pe_lst (pa_cons pe_int (pa_cons pe_int (pa_cons pe_int (pa_cons pe_int (pa_cons pe_int (pa_cons pe_int pa_nil))))))) pa_nil)))))), ?_⟩
    refine go [some (.ref r)] rfl ?_
    try dsimp only [L2.cxOf]
    walk_at "sx"
    refine z_lst fun p n => ?_
    walk_at "sx"
    refine use_pick (R0.ex (Ex.new n)) (sq_l (sq_of upd_same)) (R0.ne n) fun v H' hv kp R => ?_
    simp only [List.mem_cons, List.not_mem_nil, or_false] at hv
    have k2 : ∀ q : Nat, isP q → Q (vN q) H' := fun q hq => k q H' hq ((Kp.new n).trans kp) R
    rcases hv with rfl | rfl | rfl | rfl | rfl | rfl
    · exact k2 2 (.inl rfl)
    · exact k2 2 (.inl rfl)
    · exact k2 2 (.inl rfl)
    · exact k2 3 (.inr (.inl rfl))
    · exact k2 3 (.inr (.inl rfl))
    · exact k2 5 (.inr (.inr rfl))
theorem use_modulus {H : Hp} {Q : VK} {E : XK} {r l : Addr} (h : Rng H r l) (k : ∀ (p : Nat) (H' : Hp), isP p → Kp r H H' → Rng H' r l → Q (vN p) H') : spModulus [.ref r] H Q E := ⟨r, l, rfl, h, k⟩
end
end R

/-! # SH: data that == takes -/
namespace R
open PySem PySem.Spec PyProof.Rows L2
/-- data of depth at most n, for == -/
def Shp (n : Nat) (d : PyData) : Prop := d.canLay0 = true ∧ d.depth ≤ n
theorem Shp.shaped {n : Nat} {d : PyData} (h : Shp n d) (hn : n ≤ 64) : SeqAt.shaped d = true := by
  unfold SeqAt.shaped
  rw [h.1, decide_eq_true (by have := h.2; omega)]
  rfl
theorem Shp.int {n : Nat} (i : Int) : Shp n (.int i) := ⟨by simp [PyData.canLay0], by simp [PyData.depth]⟩
theorem Shp.str {n : Nat} {x : Str} (h : PyData.strOk x = true) : Shp n (.str x) := ⟨by simp [PyData.canLay0, h], by simp [PyData.depth]⟩
theorem Shp.bool {n : Nat} (b : Bool) : Shp n (.bool b) := ⟨by simp [PyData.canLay0], by simp [PyData.depth]⟩
theorem Shp.none {n : Nat} : Shp n .none := ⟨by simp [PyData.canLay0], by simp [PyData.depth]⟩
theorem shp_all {n : Nat} : ∀ {ds : List PyData}, (∀ d ∈ ds, Shp n d) → PyData.canLayAll0 ds = true ∧ PyData.depthAll ds ≤ n
  | [], _ => ⟨by simp [PyData.canLayAll0], by simp [PyData.depthAll]⟩
  | d :: ds, h => by
    have h1 := h d (.head _)
    have h2 := shp_all (ds := ds) fun e he => h e (.tail _ he)
    exact ⟨by rw [PyData.canLayAll0, h1.1, h2.1]; rfl, by rw [PyData.depthAll]; exact Nat.max_le.mpr ⟨h1.2, h2.2⟩⟩
theorem Shp.list {n : Nat} {ds : List PyData} (h : ∀ d ∈ ds, Shp n d) : Shp (n + 1) (.list ds) := ⟨by rw [PyData.canLay0]; exact (shp_all h).1, by rw [PyData.depth]; have := (shp_all h).2; omega⟩
theorem Shp.tuple {n : Nat} {ds : List PyData} (h : ∀ d ∈ ds, Shp n d) : Shp (n + 1) (.tuple ds) := ⟨by rw [PyData.canLay0]; exact (shp_all h).1, by rw [PyData.depth]; have := (shp_all h).2; omega⟩
theorem Shp.map {α : Type} {n : Nat} {f : α → PyData} (h : ∀ x, Shp n (f x)) (xs : List α) : ∀ d ∈ xs.map f, Shp n d := fun d hd => by
  obtain ⟨x, _, rfl⟩ := List.mem_map.mp hd
  exact h x
theorem Shp.two {n : Nat} {a b : PyData} (h1 : Shp n a) (h2 : Shp n b) : ∀ d ∈ [a, b], Shp n d := fun d hd => by
  simp only [List.mem_cons, List.not_mem_nil, or_false] at hd
  rcases hd with rfl | rfl <;> assumption
theorem shp_dL (xs : List Nat) : Shp 1 (dL xs) := .list (.map (fun x => .int _) xs)
theorem shp_dT (xs : List Nat) : Shp 1 (dT xs) := .tuple (.map (fun x => .int _) xs)
theorem shp_rows (xs : List (List Nat)) : Shp 2 (.list (xs.map dT)) := .list (.map shp_dT xs)
/-! == and != of such data -/
section
variable {K : PySem.W.Frag} {H : Hp} {Q : VK} {x y : V} {d e : PyData} {n m : Nat}
theorem z_eqD {p q : Addr} (h1 : Dp K H (.ref p) d) (h2 : Dp K H (.ref q) e) (s1 : Shp n d) (s2 : Shp m e) (h : Q (.bl (PyData.eqv d e)) H) (hn : n ≤ 64 := by decide) (hm : m ≤ 64 := by decide) : sEq K (.ref p) (.ref q) H Q := z_eqR ⟨d, e, h1, h2, s1.shaped hn, s2.shaped hm, h⟩
theorem z_neD {p q : Addr} (h1 : Dp K H (.ref p) d) (h2 : Dp K H (.ref q) e) (s1 : Shp n d) (s2 : Shp m e) (h : Q (.bl (!PyData.eqv d e)) H) (hn : n ≤ 64 := by decide) (hm : m ≤ 64 := by decide) : sNe K (.ref p) (.ref q) H Q := z_neR ⟨d, e, h1, h2, s1.shaped hn, s2.shaped hm, h⟩
theorem z_isiC {C a dx : Addr} {fs : List (Str × V)} {f : Addr} (h : H a = some (.ins C dx fs)) (c : Cls K C) (q : EQ K C f) (k : Q (.bl true) H) : rIsi K [.ref a, .ref C] H Q :=
  ⟨.ref a, .ref C, .ref C, .ref C, true, rfl, .own C, .base (.ins h c q.ca q.cn q.ct q.cm), by unfold PySem.W.kitOne; rw [if_pos (by simp)], k⟩
theorem z_isiN {C f : Addr} {t : String} (ty : TyX K H x (.type t)) (q : EQ K C f) (ht : t ∈ (["NoneType", "tuple", "str"] : List String)) (k : Q (.bl false) H) : rIsi K [x, .ref C] H Q :=
  ⟨x, .ref C, .type t, .ref C, false, rfl, .own C, ty, q.ki t ht, k⟩
end
theorem eqv_pair (a b c d : Int) : PyData.eqv (.tuple [.int a, .int b]) (.tuple [.int c, .int d]) = (decide (a = c) && decide (b = d)) := by
  have : Fai fun xs : List Int => .tuple (xs.map PyData.int) := fai_tup fai_int
  have := this [a, b] [c, d]
  simp only [List.map_cons, List.map_nil] at this
  rw [this]
  simp
end R
namespace R
open PySem PySem.Spec PyProof.Rows L2
theorem use_sameD {K : PySem.W.Frag} {r q : Addr} {n : Nat} {H : Hp} {Q : VK} {E : XK} {x y : V} {d : PyData} (h1 : Dq r H x d) (h2 : Dq q H y d) (hs : Shp n d) (k : ∀ H', Ex H H' → Q (.bl true) H') : spSame K n [x, y] H Q E := use_same ((Dq.tre d x y h1 h2).mono hs.2) k
end R

/-! # law k23 -/
namespace R
open PySem PySem.Spec PyProof.Rows L2 L2H LamX
/-- the bound, step by step -/
def sumStep (s : Int) : Nat → Int
  | 0 => 1
  | n + 1 => sumStep s n * (s + n) / (n + 1)
def sumB (p s : Int) : Int := if p = 2 then s else if p = 3 then s * (s + 1) / 2 else s * (s + 1) * (s + 2) * (s + 3) / 24
theorem sumStep_nat : ∀ s : Fin 201, sumStep (s.val : Int) 1 = sumB 2 s.val ∧ sumStep (s.val : Int) 2 = sumB 3 s.val ∧ sumStep (s.val : Int) 4 = sumB 5 s.val := by decide +kernel
theorem sumStep_ok {p : Nat} {s : Int} (hp : isP p) (h0 : 0 ≤ s) (h1 : s ≤ 200) : sumStep s (p - 1) = sumB p s := by
  have := sumStep_nat ⟨s.toNat, by omega⟩
  have hs : ((s.toNat : Nat) : Int) = s := by omega
  simp only [hs] at this
  rcases hp with rfl | rfl | rfl
  · exact this.1
  · exact this.2.1
  · exact this.2.2
theorem sumStep_abs (s : Int) (h0 : 0 ≤ s) (h1 : s ≤ 200) : ∀ n : Nat, n ≤ 4 → 0 ≤ sumStep s n ∧ sumStep s n < 2 ^ 40 := by
  have : ∀ s : Fin 201, ∀ n : Fin 5, 0 ≤ sumStep (s.val : Int) n.val ∧ sumStep (s.val : Int) n.val < 2 ^ 40 := by decide +kernel
  intro n hn
  have := this ⟨s.toNat, by omega⟩ ⟨n, by omega⟩
  have hs : ((s.toNat : Nat) : Int) = s := by omega
  simp only [hs] at this
  exact this
section
variable {P : Program} {w : World} {K : PySem.W.Frag} {mg : Str → Option Value} {base : Heap}
def spSumBound (T : Txt K mg) : Sp := fun vs H Q E => ∃ p s : Int, vs = [.int p, .int s] ∧ (∀ n : Nat, p = n → isP n → 0 ≤ s → s ≤ 200 → Q (.int (sumB p s)) H) ∧
  (okMod p = false → Er E T.e_InvalidModulus.C [("tag", .str "InvalidModulus")] H) ∧ (okMod p = true → ¬(0 ≤ s ∧ s ≤ 200) → Er E T.e_InvalidCount.C [("tag", .str "InvalidCount")] H)
theorem ok_sum_bound (T : Txt K mg) : Ok P w K mg base 4 T.sum_bound (spSumBound T) := by
  refine ok_of T.sum_bound sc_sum_bound (fun vs H Q E h => ?_) (fun cdv A outer s H vs Q E hr h => ?_)
  · obtain ⟨p, s, rfl, _⟩ := h
    rfl
  · obtain ⟨p, s, rfl, k1, k2, k3⟩ := h
    refine ⟨_, ((pss_cons (ps_expr (pcall T.check_modulus (ok_check_modulus T) (hr.mono (by omega)) passE (pa_cons (pv 0) pa_nil)))
  (pss_cons (ps_if (pt_not (pt_chain op_sLe op_sLe pe_int (pv 1) (pglob T.c_MAX_TOTAL (by rfl))))
  (pss_one (praise0 T.e_InvalidCount (ei_InvalidCount T) (hr.mono (by omega)) rfl (takes_of rfl rfl rfl rfl)))
  pss_nil)
  (pss_cons (ps_set (i := 2) sc_sum_bound.nd rfl (by first | exact Or.inl rfl | exact Or.inr rfl) pe_int)
  (pss_cons (ps_for ownE rfl (pi_range1 (by rfl) T.b_range (pa_cons (pe_op op_sSub (pv 0) pe_int) pa_nil)) (pg_name (i := 3) sc_sum_bound.nd rfl (by first | exact Or.inl rfl | exact Or.inr rfl))
  (pss_one (ps_set (i := 2) sc_sum_bound.nd rfl (by first | exact Or.inl rfl | exact Or.inr rfl) (pe_op op_sDiv (pe_op op_sMul (pv 2) (pe_op op_sAdd (pv 1) (pv 3))) (pe_op op_sAdd (pv 3) pe_int)))))
  (pss_one (ps_ret (pv 2)))))))), ?_⟩
    refine go [some (.int p), some (.int s), none, none] rfl ?_
    try dsimp only [L2.cxOf]
    walk_at "sx"
    refine ⟨p, rfl, fun hp => ?_, k2⟩
    obtain ⟨n, rfl⟩ : ∃ n : Nat, p = n := ⟨p.toNat, by have := okMod_iff.mp hp; omega⟩
    have hn : isP n := by have := okMod_iff.mp hp; unfold isP; omega
    have hn5 := isP.pos hn
    walk_at "sx"
    refine y_ite (fun c1 => ?_) (fun c1 => ?_)
    · walk_at "sx"
      refine y_iteN (fun c2 => ?_) (fun c2 => ?_)
      · walk_at "sx"
        exact z_rs rfl (by decide) (k3 hp (by omega))
      · walk_at "sx"
        refine z_r1 (by omega) (by omega) ?_
        refine for_it (n := n - 1) (by have : ((n : Int) - 1).toNat = n - 1 := by omega
                                       rw [this]; exact walk_range) (fun i σ H' => H' = H ∧ ∃ t, σ = [some (.int (n : Nat)), some (.int s), some (.int (sumStep s i)), t]) ⟨rfl, _, rfl⟩ (fun _ _ _ _ _ => trivial) ?_ ?_
        · rintro i y σ H2 H3 hi ⟨rfl, t, rfl⟩ ⟨rfl, rfl⟩
          have hb := sumStep_abs s c1 (by omega) i (by omega)
          walk_at "sx"
          have hv : sumStep s i * (s + (0 + (i : Int))) / (0 + (i : Int) + 1) = sumStep s (i + 1) := by
            show _ = sumStep s i * (s + (i : Int)) / ((i : Int) + 1)
            rw [Int.zero_add]
          rw [hv]
          exact ⟨rfl, _, rfl⟩
        · rintro σ H2 ⟨rfl, t, rfl⟩
          walk_at "sx"
          rw [sumStep_ok hn c1 (by omega)]
          exact k1 n rfl hn c1 (by omega)
    · walk_at "sx"
      exact z_rs rfl (by decide) (k3 hp (by omega))
def spBadMod : Sp := fun vs H Q _ => ∃ (r l : Addr), vs = [.ref r] ∧ Rng H r l ∧ ∀ (v : Int) (H' : Hp), okMod v = false → Kp r H H' → Rng H' r l → Q (.int v) H'
theorem ok_bad_modulus (T : Txt K mg) : Ok P w K mg base 3 T.bad_modulus spBadMod := by
  refine ok_of T.bad_modulus sc_bad_modulus (fun vs H Q E h => ?_) (fun cdv A outer s H vs Q E hr h => ?_)
  · obtain ⟨r, l, rfl, _⟩ := h
    rfl
  · obtain ⟨r, l, rfl, R0, k⟩ := h
    refine ⟨_, ((pss_one (ps_ret (pcall T.pick (ok_pick T) (hr.mono (by omega)) passE (pa_cons (pv 0) (pa_cons (pe_lst (pa_cons pe_int (pa_cons pe_int (pa_cons pe_int (pa_cons pe_int (pa_cons (pe_un un_neg pe_int) (pa_cons (pe_op op_sAdd (pe_op op_sPow pe_int pe_int) (pcall T.draw (ok_draw T) (hr.mono (by omega)) passE (pa_cons (pv 0) (pa_cons pe_int pa_nil)))) pa_nil))))))) pa_nil)))))), ?_⟩
    refine go [some (.ref r)] rfl ?_
    try dsimp only [L2.cxOf]
    walk_at "sx"
    refine z_pow (by decide) ?_
    walk_at "sx"
    refine use_drawN (k := 99) R0 fun n H1 hn k1 R1 => ?_
    walk_at "sx"
    refine z_lst fun p n1 => ?_
    walk_at "sx"
    refine use_pick (R1.ex (Ex.new n1)) (sq_l (sq_of upd_same)) (R1.ne n1) fun v H' hv kp R => ?_
    have k2 : ∀ q : Int, okMod q = false → Q (.int q) H' := fun q hq => k q H' hq (k1.trans ((Kp.new n1).trans kp)) R
    simp only [List.mem_cons, List.not_mem_nil, or_false] at hv
    have big : okMod (10 ^ (20 : Int).toNat + (n : Nat)) = false := by
      cases e : okMod (10 ^ (20 : Int).toNat + (n : Nat)) with
      | false => rfl
      | true =>
        have := okMod_iff.mp e
        have h20 : (10 : Int) ^ (20 : Int).toNat = 100000000000000000000 := by decide
        omega
    rcases hv with rfl | rfl | rfl | rfl | rfl | rfl
    · exact k2 _ (by decide)
    · exact k2 _ (by decide)
    · exact k2 _ (by decide)
    · exact k2 _ (by decide)
    · exact k2 _ (by decide)
    · exact k2 _ big
theorem use_bad_modulus {H : Hp} {Q : VK} {E : XK} {r l : Addr} (h : Rng H r l) (k : ∀ (v : Int) (H' : Hp), okMod v = false → Kp r H H' → Rng H' r l → Q (.int v) H') : spBadMod [.ref r] H Q E := ⟨r, l, rfl, h, k⟩
def spBound : Sp := fun vs H Q _ => ∃ (p : Nat) (s : Int), vs = [vN p, .int s] ∧ isP p ∧ 0 ≤ s ∧ s ≤ 200 ∧ Q (.int (sumB p s)) H
theorem ok_bound (T : Txt K mg) : Ok P w K mg base 1 T.bound spBound := by
  refine ok_of T.bound sc_bound (fun vs H Q E h => ?_) (fun cdv A outer s H vs Q E hr h => ?_)
  · obtain ⟨p, s, rfl, _⟩ := h
    rfl
  · obtain ⟨p, s, rfl, hp, h0, h1, k⟩ := h
    refine ⟨_, ((pss_cons (ps_if (pt_cmpR (op_sEq hr.units) (pv 0) pe_int (nomark _))
  (pss_one (ps_ret (pv 1)))
  pss_nil)
  (pss_one (ps_ret (pe_ifExp (pt_cmpR (op_sEq hr.units) (pv 0) pe_int (nomark _)) (pe_op op_sDiv (pe_op op_sMul (pv 1) (pe_op op_sAdd (pv 1) pe_int)) pe_int) (pe_op op_sDiv (pe_op op_sMul (pe_op op_sMul (pe_op op_sMul (pv 1) (pe_op op_sAdd (pv 1) pe_int)) (pe_op op_sAdd (pv 1) pe_int)) (pe_op op_sAdd (pv 1) pe_int)) pe_int)))))), ?_⟩
    refine go [some (vN p), some (.int s)] rfl ?_
    try dsimp only [L2.cxOf]
    unfold sumB at k
    walk_at "sx"
    refine y_ite (fun c => ?_) (fun c => ?_)
    · walk_at "sx"
      rw [if_pos c] at k
      exact k
    · rw [if_neg c] at k
      walk_at "sx"
      refine y_ite (fun c => ?_) (fun c => ?_)
      · walk_at "sx"
        rw [if_pos c] at k
        exact k
      · rw [if_neg c] at k
        walk_at "sx"
        exact k
def spLaw (K : PySem.W.Frag) (Pt : Addr) : Sp := fun vs H Q _ => ∃ (a : Addr) (ns : List Int), vs = [.ref a] ∧ SqL K H a (ns.map V.int) ∧ Tabs [(Pt, lamQ)] H ∧ ∀ H', Q (.bl true) H'
theorem ok_law (T : Txt K mg) {c Pt : Addr} (hc : T.law.fd.code = .ref c) (TB : TabB base mg c Pt) : Ok P w K mg base 10 T.law (spLaw K Pt) := by
  refine ok_ofL T.law hc sc_law (fun vs H Q E h => ?_) (fun A outer s H vs Q E hr h => ?_)
  · obtain ⟨a, ns, rfl, _⟩ := h
    rfl
  · obtain ⟨a, ns, rfl, hS, hT, k⟩ := h
    have ok_same := fun (T : Txt K mg) => ok_same (P := P) (w := w) (base := base) T 2
    refine ⟨_, ((pss_cons (ps_set (i := 1) sc_law.nd rfl (by first | exact Or.inl rfl | exact Or.inr rfl) (pcall T.source (ok_source T) (hr.mono (by omega)) passE (pa_cons (pv 0) pa_nil)))
  (pss_cons (ps_for ownE rfl (pi_range1 (by rfl) T.b_range (pa_cons pe_int pa_nil)) (pg_name (i := 2) sc_law.nd rfl (by first | exact Or.inl rfl | exact Or.inr rfl))
  (pss_cons (ps_asg (pe_tup (pa_cons (pcall T.modulus (ok_modulus T) (hr.mono (by omega)) passE (pa_cons (pv 1) pa_nil)) (pa_cons (pcall T.pick (ok_pick T) (hr.mono (by omega)) passE (pa_cons (pv 1) (pa_cons (pe_lst (pa_cons (pcall T.draw (ok_draw T) (hr.mono (by omega)) passE (pa_cons (pv 1) (pa_cons pe_int pa_nil))) (pa_cons pe_int (pa_cons pe_int (pa_cons pe_int pa_nil))))) pa_nil))) pa_nil))) (pg_tup rfl (pgs_cons (pg_name (i := 3) sc_law.nd rfl (by first | exact Or.inl rfl | exact Or.inr rfl)) (pgs_cons (pg_name (i := 4) sc_law.nd rfl (by first | exact Or.inl rfl | exact Or.inr rfl)) pgs_nil))))
  (pss_cons (ps_if (pt_not (pt_val (pcall T.same (ok_same T) (hr.mono (by omega)) passE (pa_cons (pcall T.sum_bound (ok_sum_bound T) (hr.mono (by omega)) passE (pa_cons (pv 3) (pa_cons (pv 4) pa_nil))) (pa_cons (pcall T.bound (ok_bound T) (hr.mono (by omega)) passE (pa_cons (pv 3) (pa_cons (pv 4) pa_nil))) pa_nil)))))
  (pss_one (ps_ret pe_bl))
  pss_nil)
  (pss_cons (ps_asg (pe_tup (pa_cons (pcall T.bad_modulus (ok_bad_modulus T) (hr.mono (by omega)) passE (pa_cons (pv 1) pa_nil)) (pa_cons (pcall T.pick (ok_pick T) (hr.mono (by omega)) passE (pa_cons (pv 1) (pa_cons (pe_lst (pa_cons (pe_un un_neg pe_int) (pa_cons pe_int (pa_cons (pe_op op_sPow pe_int pe_int) pa_nil)))) pa_nil))) pa_nil))) (pg_tup rfl (pgs_cons (pg_name (i := 5) sc_law.nd rfl (by first | exact Or.inl rfl | exact Or.inr rfl)) (pgs_cons (pg_name (i := 6) sc_law.nd rfl (by first | exact Or.inl rfl | exact Or.inr rfl)) pgs_nil))))
  (pss_cons (ps_set (i := 7) sc_law.nd rfl (by first | exact Or.inl rfl | exact Or.inr rfl) (pe_lst (pa_cons (pe_lamTag (k := 4) (t := fun E => (tCall _ [] E (tCons (tVar 5) (tCons (tVar 6) tNil)))) T (by rfl) TB (by rfl) (List.mem_singleton.mpr rfl) (fun p hp _ => congrArg Prod.snd (List.mem_singleton.mp hp)) (hr.mono (by omega)) (lamS_by (sc := defScope s_law) (by decide +kernel)) (by rfl) (fun _ _ _ _ _ => rfl) (fun A outer s' H' E f c' hr => by exact (pcall T.sum_bound (ok_sum_bound T) (hr.mono (by omega)) passLam (pa_cons (pv 5) (pa_cons (pv 6) pa_nil))))) pa_nil)))
  (pss_cons (ps_expr (pe_bm PySem.F.plainAttrs_list PySem.F.slot_list_append PySem.F.type_list_append mt_append (pv 7) (pa_cons (pe_lamTag (k := 4) (t := fun E => (tCall _ [] E (tCons (tVar 3) (tCons (tVar 6) tNil)))) T (by rfl) TB (by rfl) (List.mem_singleton.mpr rfl) (fun p hp _ => congrArg Prod.snd (List.mem_singleton.mp hp)) (hr.mono (by omega)) (lamS_by (sc := defScope s_law) (by decide +kernel)) (by rfl) (fun _ _ _ _ _ => rfl) (fun A outer s' H' E f c' hr => by exact (pcall T.sum_bound (ok_sum_bound T) (hr.mono (by omega)) passLam (pa_cons (pv 3) (pa_cons (pv 6) pa_nil))))) pa_nil)))
  (pss_one (ps_if (pt_cmpR (op_sNe hr.units) (pv 7) (pe_lst (pa_cons pe_str (pa_cons pe_str pa_nil))) (nomark _))
  (pss_one (ps_ret pe_bl))
  pss_nil))))))))
  (pss_one (ps_ret (pe_cmpR (op_sEq hr.units) (pe_lst (pa_cons (pcall T.sum_bound (ok_sum_bound T) (hr.mono (by omega)) passE (pa_cons pe_int (pa_cons pe_int pa_nil))) (pa_cons (pcall T.sum_bound (ok_sum_bound T) (hr.mono (by omega)) passE (pa_cons pe_int (pa_cons pe_int pa_nil))) (pa_cons (pcall T.sum_bound (ok_sum_bound T) (hr.mono (by omega)) passE (pa_cons pe_int (pa_cons pe_int pa_nil))) pa_nil)))) (pe_lst (pa_cons pe_int (pa_cons pe_int (pa_cons pe_int pa_nil)))) (nomark _))))))), ?_⟩
    refine go [some (.ref a), none, none, none, none, none, none, none] rfl ?_
    try dsimp only [L2.cxOf]
    walk_at "sx"
    refine ⟨a, ns, rfl, hS, fun H1 r l e1 nr nl R1 => ?_⟩
    walk_at "sx"
    refine z_r1 (by decide) (by decide) ?_
    refine for_it walk_range (fun i σ H' => Rng H' r l ∧ Tabs [(Pt, lamQ)] H' ∧ ∃ t x u v y z, σ = [some (.ref a), some (.ref r), t, x, u, v, y, z]) ⟨R1, Tabs.ext hT e1, _, _, _, _, _, _, rfl⟩ (fun _ _ _ _ _ => trivial) ?_ ?_
    · rintro i y σ H2 _ hi ⟨R2, T2, t, x, u, v, y, z, rfl⟩ ⟨rfl, rfl⟩
      walk_at "sx"
      refine use_modulus R2 fun p H3 hp k3 R3 => ?_
      have T3 := Tabs.kp T2 k3 R2
      walk_at "sx"
      refine use_drawN (k := 201) R3 fun n H4 hn k4 R4 => ?_
      have T4 := Tabs.kp T3 k4 R3
      walk_at "sx"
      refine z_lst fun q5 n5 => ?_
      walk_at "sx"
      refine use_pick (R4.ex (Ex.new n5)) (sq_l (sq_of upd_same)) (R4.ne n5) fun v6 H6 hv k6 R6 => ?_
      have T6 := Tabs.kp (Tabs.ext T4 (Ex.new n5)) k6 (R4.ex (Ex.new n5))
      obtain ⟨s6, rfl, hs6⟩ : ∃ s6 : Nat, v6 = vN s6 ∧ s6 ≤ 200 := by
        simp only [List.mem_cons, List.not_mem_nil, or_false] at hv
        rcases hv with rfl | rfl | rfl | rfl
        · exact ⟨n, rfl, by omega⟩
        · exact ⟨0, rfl, by decide⟩
        · exact ⟨1, rfl, by decide⟩
        · exact ⟨200, rfl, by decide⟩
      walk_at "sx"
      refine z_tup fun q7 n7 => ?_
      have e7 := Ex.new (o := .tup [vN p, vN s6]) n7
      refine x_gtup (st_of upd_same) rfl ?_
      walk_at "sx"
      have okp : okMod p = true := okMod_iff.mpr (by unfold isP at hp; omega)
      refine ⟨p, s6, rfl, fun m hm _ _ _ => ?_, fun h => (by rw [okp] at h; cases h), fun _ h => absurd (by omega) h⟩
      obtain rfl : p = m := by omega
      walk_at "sx"
      refine ⟨p, s6, rfl, hp, by omega, by omega, ?_⟩
      walk_at "sx"
      refine use_same (Tre.int rfl) fun H8 e8 => ?_
      have R8 := R6.ex (e7.trans e8)
      have T8 := Tabs.ext T6 (e7.trans e8)
      walk_at "sx"
      refine use_bad_modulus R8 fun odd H9 ho k9 R9 => ?_
      have T9 := Tabs.kp T8 k9 R8
      walk_at "sx"
      refine z_pow (by decide) ?_
      walk_at "sx"
      refine z_lst fun q10 n10 => ?_
      walk_at "sx"
      refine use_pick (R9.ex (Ex.new n10)) (sq_l (sq_of upd_same)) (R9.ne n10) fun v11 H11 hv k11 R11 => ?_
      have T11 := Tabs.kp (Tabs.ext T9 (Ex.new n10)) k11 (R9.ex (Ex.new n10))
      obtain ⟨far, rfl, hfar⟩ : ∃ far : Int, v11 = .int far ∧ ¬(0 ≤ far ∧ far ≤ 200) := by
        simp only [List.mem_cons, List.not_mem_nil, or_false] at hv
        rcases hv with rfl | rfl | rfl
        · exact ⟨_, rfl, by decide⟩
        · exact ⟨_, rfl, by decide⟩
        · exact ⟨_, rfl, by decide⟩
      walk_at "sx"
      refine z_tup fun q12 n12 => ?_
      have e12 := Ex.new (o := .tup [.int odd, .int far]) n12
      refine x_gtup (st_of upd_same) rfl ?_
      walk_at "sx"
      refine x_lamTag (Tabs.ext T11 e12) fun H13 en T13 => ?_
      have R13 := (R11.ex e12).en en
      walk_at "sx"
      refine ⟨odd, far, rfl, fun m hm hp' => ?_, fun _ => ?_, fun h => (by rw [ho] at h; cases h)⟩
      · have : okMod odd = true := okMod_iff.mpr (by unfold isP at hp'; omega)
        rw [ho] at this
        cases this
      refine use_hit (v := .non) ⟨T.f_InvalidModulus, T.e_InvalidModulus.no⟩ T.h_InvalidModulus rfl (fld_none (by decide)) fun H14 e14 => ?_
      walk_at "sx"
      refine z_lst fun q15 n15 => ?_
      walk_at "sx"
      have e15 := e14.trans (Ex.new (o := .lst [.str "InvalidModulus"]) n15)
      refine ⟨ty_list upd_same, ?_⟩
      walk_at "sx"
      refine x_lamTag (Tabs.ext T13 e15) fun H16 en2 T16 => ?_
      have R16 := (R13.ex e15).en en2
      have h16 : H16 q15 = some (.lst [.str "InvalidModulus"]) := en2 _ _ upd_same (fun _ z => by cases z)
      walk_at "sx"
      refine ⟨p, far, rfl, fun m hm _ h0 h1 => absurd ⟨h0, h1⟩ hfar, fun h => (by rw [okp] at h; cases h), fun _ _ => ?_⟩
      refine use_hit (v := .non) ⟨T.f_InvalidCount, T.e_InvalidCount.no⟩ T.h_InvalidCount rfl (fld_none (by decide)) fun H17 e17 => ?_
      walk_at "sx"
      refine z_append (e17 _ _ h16) (by decide) ?_
      walk_at "sx"
      refine z_lst fun q18 n18 => ?_
      have nr15 := (R13.ex e14).ne n15
      have nl15 := (R13.ex e14).nel n15
      have sh : Shp 1 (.list [.str "InvalidModulus", .str "InvalidCount"]) := .list (.two (n := 0) (.str (by decide +kernel)) (.str (by decide +kernel)))
      refine z_neD (d := .list [.str "InvalidModulus", .str "InvalidCount"]) (e := .list [.str "InvalidModulus", .str "InvalidCount"]) (.lst (sq_of (Ex.new n18 _ _ upd_same)) (.cons (.str _) (.cons (.str _) .nil))) (.lst (sq_of upd_same) (.cons (.str _) (.cons (.str _) .nil))) sh sh ?_
      rw [PySem.SeqAt.eqv_refl _ sh.1]
      walk_at "sx"
      exact ⟨((R16.ex e17).upd nr15 nl15).ex (Ex.new n18), Tabs.ext (Tabs.set (Tabs.ext T16 e17) (e17 _ _ h16)) (Ex.new n18), _, _, _, _, _, _, rfl⟩
    · rintro σ H2 ⟨R2, T2, t, x, u, v, y, z, rfl⟩
      walk_at "sx"
      refine ⟨2, 7, rfl, fun m hm _ _ _ => ?_, fun h => (by cases h), fun _ h => absurd (by decide) h⟩
      obtain rfl : m = 2 := by omega
      walk_at "sx"
      refine ⟨3, 4, rfl, fun m hm _ _ _ => ?_, fun h => (by cases h), fun _ h => absurd (by decide) h⟩
      obtain rfl : m = 3 := by omega
      walk_at "sx"
      refine ⟨5, 2, rfl, fun m hm _ _ _ => ?_, fun h => (by cases h), fun _ h => absurd (by decide) h⟩
      obtain rfl : m = 5 := by omega
      walk_at "sx"
      refine z_lst fun p1 n1 => ?_
      walk_at "sx"
      refine z_lst fun p2 n2 => ?_
      have sh : ∀ x y z : Int, Shp 1 (.list [.int x, .int y, .int z]) := fun x y z => .list fun d hd => by
        simp only [List.mem_cons, List.not_mem_nil, or_false] at hd
        rcases hd with rfl | rfl | rfl <;> exact .int _
      refine z_eqD (d := .list [.int 7, .int 10, .int 5]) (e := .list [.int 7, .int 10, .int 5]) (.lst (sq_of (Ex.new n2 _ _ upd_same)) (.cons (.int _) (.cons (.int _) (.cons (.int _) .nil)))) (.lst (sq_of upd_same) (.cons (.int _) (.cons (.int _) (.cons (.int _) .nil)))) (sh _ _ _) (sh _ _ _) ?_
      rw [PySem.SeqAt.eqv_refl _ (sh _ _ _).1]
      exact k _
end
end R

/-! # E: the end -/
namespace R
open PySem PySem.Spec PyProof.Rows L2
theorem df_ex {K : PySem.W.Frag} {h : Heap} {mg : Str → Option Value} (X : K.In h) (G : h.Ns mainGlobals mg) {x : Str} {st : Stmt} {ps : List Str} {f : Addr} {od an : Option Addr} {sl : Array (Option Value)} {oc kV dc pm cd ct : Value}
    (a : PySem.W.nsIn K mainGlobals x = some (some (.ref f))) (l : K.lookup f = some ⟨oc, od, .func (PySem.W.fnOf x x (defArgs st) (defBody st) (defScope st) .none kV dc pm an cd ct), sl⟩) (c : PySem.W.codeIn K cd x = true) (k : PySem.W.keepIn K (.ref f) = true)
    (hb : ∀ (kV doc pm : Value) (an : Option Addr) (cdv ct : Value) (us : List Value), us.length = ps.length → bindArgs (PySem.W.fnOf x x (defArgs st) (defBody st) (defScope st) .none kV doc pm an cdv ct) ⟨us, []⟩ = pure (ps.zip us)) : Nonempty (DF K mg x st ps) :=
  ⟨⟨f, _, fun_mk l c k, PySem.W.mg_of X G a, (fun_mk l c k).binds hb⟩⟩
theorem gv_ex {K : PySem.W.Frag} {h : Heap} {mg : Str → Option Value} (X : K.In h) (G : h.Ns mainGlobals mg) {x : Str} {v : V} {u : Value} (a : PySem.W.nsIn K mainGlobals x = some (some u)) (r : RelV v u) : GV mg x v := ⟨u, PySem.W.mg_of X G a, r⟩
theorem ex_ex {K : PySem.W.Frag} {h : Heap} {mg : Str → Option Value} (X : K.In h) (G : h.Ns mainGlobals mg) {x qual : Str} {st : Stmt} {ps : List Str} {C f : Addr} {oc : Value} {od an : Option Addr} {sl : Array (Option Value)} {kV dc pm cd ct : Value}
    {nm q : Str} {N : Addr} {bs bm : List Value} {sn : List Str} {sub : List Value} {ab : Bool} {col : Option Bool} {dd : Option Addr} {k0 k1 k2 k3 k5 : Option Value}
    (a : PySem.W.nsIn K mainGlobals x = some (some (.ref C))) (lC : K.lookup C = some (excClassObj nm q C N bs bm true sn sub ab col dd k0 k1 k2 k3 k5 "ValueError.__new__")) (rv : PySem.HandSPX.refsVE bm = true)
    (sa : PySem.W.findIn K (.ref C) "__setattr__" = some (some (.builtin "object.__setattr__"))) (exC : PySem.W.subIn K (.ref C) (.type "BaseException") = some true) (tyC : PySem.W.typeIn K (.ref C) = some (.type "type")) (kC : PySem.W.keepIn K (.ref C) = true)
    (iC : PySem.W.findIn K (.ref C) "__init__" = some (some (.ref f))) (tI : PySem.W.typeIn K (.ref f) = some (.type "function"))
    (l : K.lookup f = some ⟨oc, od, .func (PySem.W.fnOf "__init__" qual (defArgs (inClass st 0)) (defBody (inClass st 0)) (defScope (inClass st 0)) .none kV dc pm an cd ct), sl⟩) (c : PySem.W.codeIn K cd qual = true) (k : PySem.W.keepIn K (.ref f) = true)
    (hb : ∀ (kV doc pm : Value) (an : Option Addr) (cdv ct : Value) (us : List Value), us.length = ps.length → bindArgs (PySem.W.fnOf "__init__" qual (defArgs (inClass st 0)) (defBody (inClass st 0)) (defScope (inClass st 0)) .none kV doc pm an cdv ct) ⟨us, []⟩ = pure (ps.zip us))
    (n0 : PySem.W.findIn K (.ref C) "tag" = some none) (n1 : PySem.W.findIn K (.ref C) "state" = some none) (n2 : PySem.W.findIn K (.ref C) "position" = some none) (n3 : PySem.W.findIn K (.ref C) "name" = some none) (n4 : PySem.W.findIn K (.ref C) "row" = some none) : Nonempty (EX K mg x qual st ps) :=
  ⟨⟨C, f, _, ⟨⟨nm, q, N, bs, bm, sn, sub, ab, col, dd, k0, k1, k2, k3, k5, lC, rv⟩, sa, exC, tyC, kC⟩, PySem.W.mg_of X G a, iC, tI, fun_mk l c k, (fun_mk l c k).binds hb, fun g hg => by
    unfold efs at hg
    simp only [List.mem_cons, List.not_mem_nil, or_false] at hg
    rcases hg with rfl | rfl | rfl | rfl | rfl <;> assumption⟩⟩
theorem tup_ex {K : PySem.W.Frag} {h : Heap} {mg : Str → Option Value} (X : K.In h) (G : h.Ns mainGlobals mg) {x : Str} {a : Addr} {dd : Option Addr} {its : Array Value} {n : Nat} {sl : Array (Option Value)} {xs : List V}
    (e : PySem.W.nsIn K mainGlobals x = some (some (.ref a))) (l : K.lookup a = some ⟨.type "tuple", dd, .seq its n, sl⟩) (r : Vals xs its.toList) (hz : its.size ≤ 1000) : ∃ a, GV mg x (.ref a) ∧ ∀ H, SqT K H a xs :=
  ⟨a, ⟨.ref a, PySem.W.mg_of X G e, rfl⟩, fun _ => .inr ⟨_, its, n, l, rfl, rfl, Nat.le_trans hz (by decide), r⟩⟩
/-- a class; its address stays told -/
theorem ck_in {K : PySem.W.Frag} {h : Heap} {mg : Str → Option Value} {P : Prop} (X : K.In h) (G : h.Ns mainGlobals mg) {x : Str} {fl : List Str} {C : Addr} (a : PySem.W.nsIn K mainGlobals x = some (some (.ref C)))
    (pg : PySem.W.plainGet K C Str.empty = true) (hd : PySem.W.hasDictIn K C = true) (po : PySem.W.plainOver K C = true) (sa : PySem.W.findIn K (.ref C) "__setattr__" = some (some (.builtin "object.__setattr__")))
    (no : ∀ f ∈ fl, NoAttr K C f) (k : ∀ d : CK K mg x fl, d.C = C → P) : P := k ⟨C, ⟨pg, hd, po, sa⟩, PySem.W.mg_of X G a, no⟩ rfl
theorem mt_in {K : PySem.W.Frag} {h : Heap} {P : Prop} (X : K.In h) {C0 C f : Addr} {m qual : Str} {st : Stmt} {ps : List Str} {oc : Value} {od an : Option Addr} {sl : Array (Option Value)} {kV dc pm cd ct : Value} (hC : C0 = C)
    (a : PySem.W.findIn K (.ref C) m = some (some (.ref f))) (l : K.lookup f = some ⟨oc, od, .func (PySem.W.fnOf m qual (defArgs st) (defBody st) (defScope st) .none kV dc pm an cd ct), sl⟩) (c : PySem.W.codeIn K cd qual = true) (k : PySem.W.keepIn K (.ref f) = true) (fn : PySem.W.isFn K (.ref f) = true)
    (hb : ∀ (kV doc pm : Value) (an : Option Addr) (cdv ct : Value) (us : List Value), us.length = ps.length → bindArgs (PySem.W.fnOf m qual (defArgs st) (defBody st) (defScope st) .none kV doc pm an cdv ct) ⟨us, []⟩ = pure (ps.zip us)) (go : ∀ d : MT K C0 m qual st ps, d.f = f → P) : P := by
  subst hC
  exact go ⟨f, _, fun_mk l c k, ⟨a, fn, k⟩, (fun_mk l c k).binds hb⟩ rfl
theorem kbn1 {K : PySem.W.Frag} {x qual : Str} {st : Stmt} {f : Addr} {fd : FuncData} {ps : List Str} {s : Str} {v : V} (F : FunD K x qual (defArgs st) (defBody st) (defScope st) [] [(s, v)] f fd) (n : Nat)
    (hkb : ∀ (D : Addr) (doc pm : Value) (an : Option Addr) (cdv ct : Value) (us mv ws : List Value), us.length = n → mv.length = 0 → ws.length = 1 → bindArgs (PySem.W.fnOf x qual (defArgs st) (defBody st) (defScope st) .none (.ref D) doc pm an cdv ct) ⟨us, [s].zip ws⟩ = pure (ps.zip (us ++ ws))) :
    KBn K fd ps n [s] (fun us ws => us ++ ws) (fun vs zs => vs ++ zs) := by
  obtain ⟨_, h⟩ := F.kbinds0 n [s] [] (fun us _ ws => us ++ ws) (List.cons_ne_nil _ _) (fun _ h => absurd h List.not_mem_nil) (fun r1 _ r3 => r1.append r3) (fun D doc pm an cdv ct us mv ws h1 h2 h3 => hkb D doc pm an cdv ct us mv ws h1 h2 h3)
  exact h
theorem ik_in {K : PySem.W.Frag} {h : Heap} {P : Prop} (X : K.In h) {C0 C f D : Addr} {qual : Str} {st : Stmt} {ps : List Str} {n : Nat} {s : Str} {v : V} {u : Value} {oc : Value} {od an : Option Addr} {sl : Array (Option Value)} {dc pm cd ct : Value} (hC : C0 = C)
    (mk : PySem.W.makesIn K C = true) (a : PySem.W.findIn K (.ref C) "__init__" = some (some (.ref f))) (fn : PySem.W.isFn K (.ref f) = true) (kC : PySem.W.keepIn K (.ref C) = true)
    (l : K.lookup f = some ⟨oc, od, .func (PySem.W.fnOf "__init__" qual (defArgs st) (defBody st) (defScope st) .none (.ref D) dc pm an cd ct), sl⟩) (c : PySem.W.codeIn K cd qual = true) (k : PySem.W.keepIn K (.ref f) = true)
    (w : PySem.W.nsIn K D s = some (some u)) (r : RelV v u) (hn : n + 1 = ps.length)
    (hb : ∀ (D : Addr) (doc pm : Value) (an : Option Addr) (cdv ct : Value) (us ks : List Value), us.length = n → ks.length = 1 → KwChain D ([s].zip ks) (bindArgs (PySem.W.fnOf "__init__" qual (defArgs st) (defBody st) (defScope st) .none (.ref D) doc pm an cdv ct) ⟨us, []⟩) (ps.zip (us ++ ks)))
    (hkb : ∀ (D : Addr) (doc pm : Value) (an : Option Addr) (cdv ct : Value) (us mv ws : List Value), us.length = n → mv.length = 0 → ws.length = 1 → bindArgs (PySem.W.fnOf "__init__" qual (defArgs st) (defBody st) (defScope st) .none (.ref D) doc pm an cdv ct) ⟨us, [s].zip ws⟩ = pure (ps.zip (us ++ ws)))
    (go : ∀ d : IK K C0 qual st ps n [(s, v)], P) : P := by
  subst hC
  have F : FunD K "__init__" qual (defArgs st) (defBody st) (defScope st) [] [(s, v)] f _ := ⟨⟨oc, od, .none, .ref D, dc, pm, an, cd, ct, sl, rfl, l, c, .inl ⟨rfl, rfl⟩, .inr ⟨D, rfl, fun q hq => by rw [List.mem_singleton.mp hq]; exact ⟨u, w, r⟩⟩⟩, k⟩
  obtain ⟨ds, h1, h2⟩ := F.binds0 n (List.cons_ne_nil _ _) hn hb
  exact go ⟨f, _, F, ⟨mk, a, fn, kC⟩, ds, h1, h2, kbn1 F n hkb⟩
theorem dk_ex {K : PySem.W.Frag} {h : Heap} {mg : Str → Option Value} (X : K.In h) (G : h.Ns mainGlobals mg) {x : Str} {f D : Addr} {st : Stmt} {ps : List Str} {n : Nat} {s : Str} {v : V} {u : Value} {oc : Value} {od an : Option Addr} {sl : Array (Option Value)} {dc pm cd ct : Value}
    (a : PySem.W.nsIn K mainGlobals x = some (some (.ref f))) (l : K.lookup f = some ⟨oc, od, .func (PySem.W.fnOf x x (defArgs st) (defBody st) (defScope st) .none (.ref D) dc pm an cd ct), sl⟩) (c : PySem.W.codeIn K cd x = true) (k : PySem.W.keepIn K (.ref f) = true)
    (w : PySem.W.nsIn K D s = some (some u)) (r : RelV v u) (hn : n + 1 = ps.length)
    (hb : ∀ (D : Addr) (doc pm : Value) (an : Option Addr) (cdv ct : Value) (us ks : List Value), us.length = n → ks.length = 1 → KwChain D ([s].zip ks) (bindArgs (PySem.W.fnOf x x (defArgs st) (defBody st) (defScope st) .none (.ref D) doc pm an cdv ct) ⟨us, []⟩) (ps.zip (us ++ ks)))
    (hkb : ∀ (D : Addr) (doc pm : Value) (an : Option Addr) (cdv ct : Value) (us mv ws : List Value), us.length = n → mv.length = 0 → ws.length = 1 → bindArgs (PySem.W.fnOf x x (defArgs st) (defBody st) (defScope st) .none (.ref D) doc pm an cdv ct) ⟨us, [s].zip ws⟩ = pure (ps.zip (us ++ ws))) :
    Nonempty (DK K mg x st ps n [(s, v)]) := by
  have F : FunD K x x (defArgs st) (defBody st) (defScope st) [] [(s, v)] f _ := ⟨⟨oc, od, .none, .ref D, dc, pm, an, cd, ct, sl, rfl, l, c, .inl ⟨rfl, rfl⟩, .inr ⟨D, rfl, fun q hq => by rw [List.mem_singleton.mp hq]; exact ⟨u, w, r⟩⟩⟩, k⟩
  obtain ⟨ds, h1, h2⟩ := F.binds0 n (List.cons_ne_nil _ _) hn hb
  exact ⟨⟨f, _, F, PySem.W.mg_of X G a, ds, h1, h2, kbn1 F n hkb⟩⟩
theorem kit_own {K : PySem.W.Frag} {C : Addr} {n : String} (ic : PySem.W.isClsIn K C = true) (ty : PySem.W.typeIn K (.ref C) = some (.type "type")) (s : PySem.W.subIn K (.type n) (.ref C) = some false) : PySem.W.kitOne K (.type n) (.ref C) = some false := by
  unfold PySem.W.kitOne
  rw [if_neg (by simp)]
  unfold PySem.W.kitCls
  have e : (PySem.W.clsIn K C).isSome = true := ic
  simp only [e, ty, BEq.rfl, Bool.and_self, if_true]
  exact s
theorem eq_in {K : PySem.W.Frag} {h : Heap} {P : Prop} (X : K.In h) {C0 C f0 f : Addr} (hC : C0 = C) (hf : f0 = f) (eq : PySem.W.findIn K (.ref C) "__eq__" = some (some (.ref f))) (fn : PySem.W.isFn K (.ref f) = true) (ne : PySem.W.findIn K (.ref C) "__ne__" = some (some (.builtin "object.__ne__")))
    (pl : PySem.W.plainOver K C = true) (ca : PySem.W.findIn K (.ref C) "__class__" = some (some (.builtin "object.__class__"))) (cn : PySem.W.specialIn K (.builtin "object.__class__") "__get__" = some (some (.builtin "getset_descriptor.__get__"))) (ct : PySem.W.takesIn K (.builtin "object.__class__") = some true)
    (cm : PySem.W.mroIn K C (.type "object") = some true) (ic : PySem.W.isClsIn K C = true) (ty : PySem.W.typeIn K (.ref C) = some (.type "type")) (s1 : PySem.W.subIn K (.type "NoneType") (.ref C) = some false) (s2 : PySem.W.subIn K (.type "tuple") (.ref C) = some false) (s3 : PySem.W.subIn K (.type "str") (.ref C) = some false) (go : EQ K C0 f0 → P) : P := by
  subst hC hf
  have k1 := kit_own ic ty s1
  have k2 := kit_own ic ty s2
  have k3 := kit_own ic ty s3
  exact go ⟨eq, fn, ne, pl, ca, cn, ct, cm, fun n hn => by
    simp only [List.mem_cons, List.not_mem_nil, or_false] at hn
    rcases hn with rfl | rfl | rfl <;> assumption⟩
end R

/-! # ET: the end of a law that makes lambdas -/
namespace R
open PySem PySem.Spec PyProof.Rows L2 LamX
theorem ex_in {K : PySem.W.Frag} {h : Heap} {mg : Str → Option Value} (X : K.In h) (G : h.Ns mainGlobals mg) {x qual : Str} {st : Stmt} {ps : List Str} {Pr : Prop} {x1 x2 x3 y1 y2 y3 C f : Addr} {oc : Value} {od an : Option Addr} {sl : Array (Option Value)} {kV dc pm cd ct : Value}
    {nm q : Str} {N : Addr} {bs bm : List Value} {sn : List Str} {sub : List Value} {ab : Bool} {col : Option Bool} {dd : Option Addr} {k0 k1 k2 k3 k5 : Option Value}
    (e1 : x1 = y1) (e2 : x2 = y2) (e3 : x3 = y3)
    (a : PySem.W.nsIn K mainGlobals x = some (some (.ref C))) (lC : K.lookup C = some (excClassObj nm q C N bs bm true sn sub ab col dd k0 k1 k2 k3 k5 "ValueError.__new__")) (rv : PySem.HandSPX.refsVE bm = true)
    (sa : PySem.W.findIn K (.ref C) "__setattr__" = some (some (.builtin "object.__setattr__"))) (exC : PySem.W.subIn K (.ref C) (.type "BaseException") = some true) (tyC : PySem.W.typeIn K (.ref C) = some (.type "type")) (kC : PySem.W.keepIn K (.ref C) = true)
    (iC : PySem.W.findIn K (.ref C) "__init__" = some (some (.ref f))) (tI : PySem.W.typeIn K (.ref f) = some (.type "function"))
    (l : K.lookup f = some ⟨oc, od, .func (PySem.W.fnOf "__init__" qual (defArgs (inClass st 0)) (defBody (inClass st 0)) (defScope (inClass st 0)) .none kV dc pm an cd ct), sl⟩) (c : PySem.W.codeIn K cd qual = true) (k : PySem.W.keepIn K (.ref f) = true)
    (hb : ∀ (kV doc pm : Value) (an : Option Addr) (cdv ct : Value) (us : List Value), us.length = ps.length → bindArgs (PySem.W.fnOf "__init__" qual (defArgs (inClass st 0)) (defBody (inClass st 0)) (defScope (inClass st 0)) .none kV doc pm an cdv ct) ⟨us, []⟩ = pure (ps.zip us))
    (n0 : PySem.W.findIn K (.ref C) "tag" = some none) (n1 : PySem.W.findIn K (.ref C) "state" = some none) (n2 : PySem.W.findIn K (.ref C) "position" = some none) (n3 : PySem.W.findIn K (.ref C) "name" = some none) (n4 : PySem.W.findIn K (.ref C) "row" = some none)
    (g1 : PySem.W.findIn K (.ref C) "__getattribute__" = some (some (.builtin "BaseException.__getattribute__"))) (g2 : PySem.W.findIn K (.ref C) "__getattr__" = some none) (g4 : PySem.W.hasDictIn K C = true) (hx : PySem.W.exmAny K (.ref C) [.ref y1, .ref y2, .ref y3] = some true)
    (go : ∀ d : EX K mg x qual st ps, PySem.W.exmAny K (.ref d.C) [.ref x1, .ref x2, .ref x3] = some true → XfC K d.C → Pr) : Pr := by
  subst e1 e2 e3
  exact go ⟨C, f, _, ⟨⟨nm, q, N, bs, bm, sn, sub, ab, col, dd, k0, k1, k2, k3, k5, lC, rv⟩, sa, exC, tyC, kC⟩, PySem.W.mg_of X G a, iC, tI, fun_mk l c k, (fun_mk l c k).binds hb, fun g hg => by
    unfold efs at hg
    simp only [List.mem_cons, List.not_mem_nil, or_false] at hg
    rcases hg with rfl | rfl | rfl | rfl | rfl <;> assumption⟩ hx ⟨g1, g2, exC, g4⟩
theorem nm_in {K : PySem.W.Frag} {h : Heap} {mg : Str → Option Value} {Pr : Prop} (X : K.In h) (G : h.Ns mainGlobals mg) {x : Str} {C : Addr} (a : PySem.W.nsIn K mainGlobals x = some (some (.ref C))) (go : ∀ C0, mg x = some (.ref C0) → C0 = C → Pr) : Pr := go C (PySem.W.mg_of X G a) rfl
/-- the law's def, its code object told -/
theorem dl_in {K : PySem.W.Frag} {h : Heap} {mg : Str → Option Value} {Pr : Prop} (X : K.In h) (G : h.Ns mainGlobals mg) {x : Str} {st : Stmt} {ps : List Str} {f c : Addr} {od an : Option Addr} {sl : Array (Option Value)} {oc kV dc pm ct : Value}
    (a : PySem.W.nsIn K mainGlobals x = some (some (.ref f))) (l : K.lookup f = some ⟨oc, od, .func (PySem.W.fnOf x x (defArgs st) (defBody st) (defScope st) .none kV dc pm an (.ref c) ct), sl⟩) (cc : PySem.W.codeIn K (.ref c) x = true) (k : PySem.W.keepIn K (.ref f) = true)
    (hb : ∀ (kV doc pm : Value) (an : Option Addr) (cdv ct : Value) (us : List Value), us.length = ps.length → bindArgs (PySem.W.fnOf x x (defArgs st) (defBody st) (defScope st) .none kV doc pm an cdv ct) ⟨us, []⟩ = pure (ps.zip us))
    (go : ∀ d : DF K mg x st ps, d.fd.code = .ref c → Pr) : Pr := go ⟨f, _, fun_mk l cc k, PySem.W.mg_of X G a, (fun_mk l cc k).binds hb⟩ rfl
theorem code_hd {K : PySem.W.Frag} {c Pt : Addr} {dd : Option Addr} {vs : Array Value} {sl : Array (Option Value)} {file : Str} {tf tg tt : Tok} {flags text : Int} {inF : Bool} (l : K.lookup c = some ⟨.type "code", dd, .fields vs, sl⟩) (h1 : vs[11]? = some (.ref Pt)) (h2 : vs.getD 11 .none = .ref Pt)
    (h3 : vs.getD 18 .none = .str file tf) (h4 : vs.getD 7 .none = .int flags tg) (h5 : vs.getD 9 .none = .bool inF) (h6 : vs.getD 10 .none = .int text tt) (h7 : c ≠ Pt) : ∀ h : Heap, K.In h → PySem.W.CodeHd h c Pt := fun h X => ⟨_, vs, file, tf, flags, tg, inF, text, tt, X _ _ l, rfl, rfl, h1, h2, h3, h4, h5, h6, h7⟩
/-- what the end must tell -/
def LawT (l : PySem.W.OpenLaw) (w : World) (K : PySem.W.Frag) (mg : Str → Option Value) (k : Nat) (nm : Str) : Prop :=
  ∃ (T : Txt K mg) (c Pt : Addr) (e : Value) (dd : Option Addr) (vs : Array Value) (sl : Array (Option Value)), mg nm = some (.ref T.law.f) ∧ (∀ (s : Shared) (u : Value), BindsTo s T.law.fd ⟨[u], []⟩ [("_law_script", u)]) ∧ T.law.fd.code = .ref c ∧
    K.lookup c = some ⟨e, dd, .fields vs, sl⟩ ∧ vs[11]? = some (.ref Pt) ∧ K.lookup Pt = none ∧ (∀ h : Heap, K.In h → PySem.W.CodeHd h c Pt) ∧ ∀ base : Heap, TabB base mg c Pt → Ok l.prog w K mg base k T.law (spLaw K Pt)
theorem lt_mk {l : PySem.W.OpenLaw} {w : World} {K : PySem.W.Frag} {mg : Str → Option Value} {k : Nat} {nm : Str} (T : Txt K mg) {c Pt : Addr} {dd : Option Addr} {vs : Array Value} {sl : Array (Option Value)} {file : Str} {tf tg tt : Tok} {flags text : Int} {inF : Bool}
    (g : mg nm = some (.ref T.law.f)) (hb : ∀ (s : Shared) (u : Value), BindsTo s T.law.fd ⟨[u], []⟩ [("_law_script", u)]) (hc : T.law.fd.code = .ref c) (lc : K.lookup c = some ⟨.type "code", dd, .fields vs, sl⟩) (h1 : vs[11]? = some (.ref Pt)) (lP : K.lookup Pt = none) (h2 : vs.getD 11 .none = .ref Pt)
    (h3 : vs.getD 18 .none = .str file tf) (h4 : vs.getD 7 .none = .int flags tg) (h5 : vs.getD 9 .none = .bool inF) (h6 : vs.getD 10 .none = .int text tt) (h7 : c ≠ Pt) (ok : ∀ base : Heap, TabB base mg c Pt → Ok l.prog w K mg base k T.law (spLaw K Pt)) : LawT l w K mg k nm :=
  ⟨T, c, Pt, _, dd, vs, sl, g, hb, hc, lc, h1, lP, code_hd lc h1 h2 h3 h4 h5 h6 h7, ok⟩
theorem walkT {l : PySem.W.OpenLaw} {q : Program} {loose : List Str} {XP : (Str → Option Value) → Heap → Prop} {YP : World → Heap → Prop} {d : DefRec} {K : Params → PySem.W.Frag} {k : Nat} (hn : l.most = some 63) (hdf : d.params.defaults = []) (hr : Room k callerA) (hrec : ((recsOf q).any fun e => e.name == d.name) = true)
    (hY : ∀ (w : World) (h : Heap), YP w h → (K w.params).In h)
    (F : ∀ (w : World) (mg : Str → Option Value) (fa : Addr) (h : Heap), (K w.params).In h → h.Ns mainGlobals mg → mg d.name = some (.ref fa) → LawT l w (K w.params) mg k d.name) :
    PySem.W.WalkO q loose XP YP l.row.toRowW d [] (fun f vs => PySem.call f vs) :=
  LamX.walk_ofOwn (n := 63) (k := k) (x := "_law_script") (CX := fun w => L2.CX l.prog w) hn (by decide) hdf hr hrec hY
    (fun w mg fa h _ X G hfa own => by
      obtain ⟨T, c, Pt, e, dd, vs, sl, e0, hb, hc, lc, v11, lP, hd, hF⟩ := F w mg fa h X G hfa
      have e2 := e0.symm.trans hfa
      have e3 : T.law.f = fa := by
        injection e2 with e2
        injection e2
      obtain ⟨oc, od, kV, doc, pm, an, cdv, ct, osl, ef, lk, hcd⟩ := T.law.F.ex
      have ht := own c Pt _ T.law.fd e dd vs sl (by rw [← e3]; exact lk) rfl hc lc v11
      refine ⟨T.law.fd, [(c, Pt)], spLaw (K w.params) Pt, fun p hp => ?_, fun p hp => ?_, fun p hp => ?_, hb, fun H a ns _ _ hT hS => ?_, fun base _ _ TB => ?_⟩
      · rw [List.mem_singleton.mp hp]
        exact ht
      · rw [List.mem_singleton.mp hp]
        exact lP
      · rw [List.mem_singleton.mp hp]
        exact hd h X
      · exact ⟨a, ns, rfl, hS, fun p hp => by
          rw [List.mem_singleton.mp hp]
          exact TabS.nil (hT _ (List.mem_singleton.mpr rfl)), fun _ => rfl⟩
      · rw [← e3]
        exact hF base (TB _ (List.mem_singleton.mpr rfl)))
    fun _ _ _ _ _ h => by
      obtain ⟨_, _, _, _, _, _, _, _, _, _, _, _, z⟩ := h
      exact z.elim
end R

open PySem PySem.W PyProof.Rows in
set_option maxRecDepth 100000 in
set_option maxHeartbeats 0 in
theorem PySem.Challenge.cw_rowring_k23_sum_bounds_holds : PySem.Challenge.rw_rowring_k23_sum_bounds.Holds := by
  w_on; o_law; k_head; (case hw => w_witness2)
  k_fill
  refine R.walkT (l := PySem.Challenge.rw_rowring_k23_sum_bounds) (k := 10) rfl rfl ⟨rfl, by decide, by decide⟩ (by kernel_rfl) (fun w h Y => PySem.W.km_in_of Y) ?F
  case F =>
    intro w mg fa h KX G hmg
    have b_all : mg "all" = none := by
      refine' PySem.W.mg_none_of KX G ?ab_all
      (case ab_all => k_is)
    have b_bool : mg "bool" = none := by
      refine' PySem.W.mg_none_of KX G ?ab_bool
      (case ab_bool => k_is)
    have b_int : mg "int" = none := by
      refine' PySem.W.mg_none_of KX G ?ab_int
      (case ab_int => k_is)
    have b_isinstance : mg "isinstance" = none := by
      refine' PySem.W.mg_none_of KX G ?ab_isinstance
      (case ab_isinstance => k_is)
    have b_len : mg "len" = none := by
      refine' PySem.W.mg_none_of KX G ?ab_len
      (case ab_len => k_is)
    have b_list : mg "list" = none := by
      refine' PySem.W.mg_none_of KX G ?ab_list
      (case ab_list => k_is)
    have b_range : mg "range" = none := by
      refine' PySem.W.mg_none_of KX G ?ab_range
      (case ab_range => k_is)
    have b_str : mg "str" = none := by
      refine' PySem.W.mg_none_of KX G ?ab_str
      (case ab_str => k_is)
    have b_tuple : mg "tuple" = none := by
      refine' PySem.W.mg_none_of KX G ?ab_tuple
      (case ab_tuple => k_is)
    have b_zip : mg "zip" = none := by
      refine' PySem.W.mg_none_of KX G ?ab_zip
      (case ab_zip => k_is)
    obtain ⟨a_MODULI, c_MODULI, t_MODULI⟩ : ∃ a, R.GV mg "MODULI" (.ref a) ∧ ∀ H, L2.SqT (_) H a [.int 2, .int 3, .int 5] := by
      refine' R.tup_ex KX G ?ta_MODULI ?tl_MODULI ?tr_MODULI ?tz_MODULI
      (case ta_MODULI => k_is); (case tl_MODULI => k_is)
      (case tr_MODULI => exact .cons ⟨_, rfl⟩ (.cons ⟨_, rfl⟩ (.cons ⟨_, rfl⟩ (.nil))))
      (case tz_MODULI => decide)
    have c_MAX_TOTAL : R.GV mg "MAX_TOTAL" (.int 200) := by
      refine' R.gv_ex KX G ?ac_MAX_TOTAL ?rc_MAX_TOTAL
      (case ac_MAX_TOTAL => k_is)
      (case rc_MAX_TOTAL => exact ⟨_, rfl⟩)
    refine' R.nm_in (x := "RingError") KX G ?nm_RingError ?gn_RingError
    (case nm_RingError => k_is)
    intro x_RingError n_RingError hx_RingError
    refine' R.nm_in (x := "UndefinedName") KX G ?nm_UndefinedName ?gn_UndefinedName
    (case nm_UndefinedName => k_is)
    intro x_UndefinedName n_UndefinedName hx_UndefinedName
    refine' R.nm_in (x := "EmptyHistory") KX G ?nm_EmptyHistory ?gn_EmptyHistory
    (case nm_EmptyHistory => k_is)
    intro x_EmptyHistory n_EmptyHistory hx_EmptyHistory
    refine' R.ex_in (x := "InvalidModulus") (qual := "InvalidModulus.__init__") (st := R.top 2) (ps := ["self"]) KX G hx_RingError hx_UndefinedName hx_EmptyHistory ?a_InvalidModulus ?lC_InvalidModulus ?rv_InvalidModulus ?sa_InvalidModulus ?exC_InvalidModulus ?tyC_InvalidModulus ?kC_InvalidModulus ?iC_InvalidModulus ?tI_InvalidModulus ?l_InvalidModulus ?c_InvalidModulus ?k_InvalidModulus ?hb_InvalidModulus ?n0_InvalidModulus ?n1_InvalidModulus ?n2_InvalidModulus ?n3_InvalidModulus ?n4_InvalidModulus ?g1_InvalidModulus ?g2_InvalidModulus ?g4_InvalidModulus ?hx_InvalidModulus ?go_InvalidModulus
    (case a_InvalidModulus => k_is)
    (case lC_InvalidModulus => k_is)
    (case rv_InvalidModulus => decide +kernel)
    (case sa_InvalidModulus => k_is)
    (case exC_InvalidModulus => k_is)
    (case tyC_InvalidModulus => k_is)
    (case kC_InvalidModulus => k_is)
    (case iC_InvalidModulus => k_is)
    (case tI_InvalidModulus => k_is)
    (case l_InvalidModulus => k_is)
    (case c_InvalidModulus => k_is)
    (case k_InvalidModulus => k_is)
    (case hb_InvalidModulus => exact fun _ _ _ _ _ _ us hl => match us, hl with | [_], _ => rfl)
    (case n0_InvalidModulus => k_is)
    (case n1_InvalidModulus => k_is)
    (case n2_InvalidModulus => k_is)
    (case n3_InvalidModulus => k_is)
    (case n4_InvalidModulus => k_is)
    (case g1_InvalidModulus => k_is)
    (case g2_InvalidModulus => k_is)
    (case g4_InvalidModulus => k_is)
    (case hx_InvalidModulus => first | k_is | kts_exm | kernel_rfl)
    intro e_InvalidModulus h_InvalidModulus f_InvalidModulus
    refine' R.ex_in (x := "InvalidCount") (qual := "InvalidCount.__init__") (st := R.top 3) (ps := ["self"]) KX G hx_RingError hx_UndefinedName hx_EmptyHistory ?a_InvalidCount ?lC_InvalidCount ?rv_InvalidCount ?sa_InvalidCount ?exC_InvalidCount ?tyC_InvalidCount ?kC_InvalidCount ?iC_InvalidCount ?tI_InvalidCount ?l_InvalidCount ?c_InvalidCount ?k_InvalidCount ?hb_InvalidCount ?n0_InvalidCount ?n1_InvalidCount ?n2_InvalidCount ?n3_InvalidCount ?n4_InvalidCount ?g1_InvalidCount ?g2_InvalidCount ?g4_InvalidCount ?hx_InvalidCount ?go_InvalidCount
    (case a_InvalidCount => k_is)
    (case lC_InvalidCount => k_is)
    (case rv_InvalidCount => decide +kernel)
    (case sa_InvalidCount => k_is)
    (case exC_InvalidCount => k_is)
    (case tyC_InvalidCount => k_is)
    (case kC_InvalidCount => k_is)
    (case iC_InvalidCount => k_is)
    (case tI_InvalidCount => k_is)
    (case l_InvalidCount => k_is)
    (case c_InvalidCount => k_is)
    (case k_InvalidCount => k_is)
    (case hb_InvalidCount => exact fun _ _ _ _ _ _ us hl => match us, hl with | [_], _ => rfl)
    (case n0_InvalidCount => k_is)
    (case n1_InvalidCount => k_is)
    (case n2_InvalidCount => k_is)
    (case n3_InvalidCount => k_is)
    (case n4_InvalidCount => k_is)
    (case g1_InvalidCount => k_is)
    (case g2_InvalidCount => k_is)
    (case g4_InvalidCount => k_is)
    (case hx_InvalidCount => first | k_is | kts_exm | kernel_rfl)
    intro e_InvalidCount h_InvalidCount f_InvalidCount
    obtain ⟨d_check_modulus⟩ : Nonempty (R.DF _ mg "check_modulus" R.s_check_modulus R.P_check_modulus) := by
      refine' R.df_ex KX G ?a_check_modulus ?l_check_modulus ?c_check_modulus ?k_check_modulus ?b_check_modulus
      (case a_check_modulus => k_is); (case l_check_modulus => k_is); (case c_check_modulus => k_is); (case k_check_modulus => k_is)
      (case b_check_modulus => exact fun _ _ _ _ _ _ us hl => match us, hl with | [_], _ => rfl)
    obtain ⟨d_sum_bound⟩ : Nonempty (R.DF _ mg "sum_bound" R.s_sum_bound R.P_sum_bound) := by
      refine' R.df_ex KX G ?a_sum_bound ?l_sum_bound ?c_sum_bound ?k_sum_bound ?b_sum_bound
      (case a_sum_bound => k_is); (case l_sum_bound => k_is); (case c_sum_bound => k_is); (case k_sum_bound => k_is)
      (case b_sum_bound => exact fun _ _ _ _ _ _ us hl => match us, hl with | [_, _], _ => rfl)
    obtain ⟨d_source⟩ : Nonempty (R.DF _ mg "_law_source" R.s_source R.P_source) := by
      refine' R.df_ex KX G ?a_source ?l_source ?c_source ?k_source ?b_source
      (case a_source => k_is); (case l_source => k_is); (case c_source => k_is); (case k_source => k_is)
      (case b_source => exact fun _ _ _ _ _ _ us hl => match us, hl with | [_], _ => rfl)
    obtain ⟨d_draw⟩ : Nonempty (R.DF _ mg "_law_draw" R.s_draw R.P_draw) := by
      refine' R.df_ex KX G ?a_draw ?l_draw ?c_draw ?k_draw ?b_draw
      (case a_draw => k_is); (case l_draw => k_is); (case c_draw => k_is); (case k_draw => k_is)
      (case b_draw => exact fun _ _ _ _ _ _ us hl => match us, hl with | [_, _], _ => rfl)
    obtain ⟨d_pick⟩ : Nonempty (R.DF _ mg "_law_pick" R.s_pick R.P_pick) := by
      refine' R.df_ex KX G ?a_pick ?l_pick ?c_pick ?k_pick ?b_pick
      (case a_pick => k_is); (case l_pick => k_is); (case c_pick => k_is); (case k_pick => k_is)
      (case b_pick => exact fun _ _ _ _ _ _ us hl => match us, hl with | [_, _], _ => rfl)
    obtain ⟨d_same⟩ : Nonempty (R.DF _ mg "_law_same" R.s_same R.P_same) := by
      refine' R.df_ex KX G ?a_same ?l_same ?c_same ?k_same ?b_same
      (case a_same => k_is); (case l_same => k_is); (case c_same => k_is); (case k_same => k_is)
      (case b_same => exact fun _ _ _ _ _ _ us hl => match us, hl with | [_, _], _ => rfl)
    obtain ⟨d_field⟩ : Nonempty (R.DF _ mg "_law_field" R.s_field R.P_field) := by
      refine' R.df_ex KX G ?a_field ?l_field ?c_field ?k_field ?b_field
      (case a_field => k_is); (case l_field => k_is); (case c_field => k_is); (case k_field => k_is)
      (case b_field => exact fun _ _ _ _ _ _ us hl => match us, hl with | [_], _ => rfl)
    obtain ⟨d_outcome⟩ : Nonempty (R.DF _ mg "_law_outcome" R.s_outcome R.P_outcome) := by
      refine' R.df_ex KX G ?a_outcome ?l_outcome ?c_outcome ?k_outcome ?b_outcome
      (case a_outcome => k_is); (case l_outcome => k_is); (case c_outcome => k_is); (case k_outcome => k_is)
      (case b_outcome => exact fun _ _ _ _ _ _ us hl => match us, hl with | [_], _ => rfl)
    obtain ⟨d_modulus⟩ : Nonempty (R.DF _ mg "_law_modulus" R.s_modulus R.P_modulus) := by
      refine' R.df_ex KX G ?a_modulus ?l_modulus ?c_modulus ?k_modulus ?b_modulus
      (case a_modulus => k_is); (case l_modulus => k_is); (case c_modulus => k_is); (case k_modulus => k_is)
      (case b_modulus => exact fun _ _ _ _ _ _ us hl => match us, hl with | [_], _ => rfl)
    obtain ⟨d_tag⟩ : Nonempty (R.DF _ mg "_law_tag" R.s_tag R.P_tag) := by
      refine' R.df_ex KX G ?a_tag ?l_tag ?c_tag ?k_tag ?b_tag
      (case a_tag => k_is); (case l_tag => k_is); (case c_tag => k_is); (case k_tag => k_is)
      (case b_tag => exact fun _ _ _ _ _ _ us hl => match us, hl with | [_], _ => rfl)
    obtain ⟨d_bad_modulus⟩ : Nonempty (R.DF _ mg "_law_bad_modulus" R.s_bad_modulus R.P_bad_modulus) := by
      refine' R.df_ex KX G ?a_bad_modulus ?l_bad_modulus ?c_bad_modulus ?k_bad_modulus ?b_bad_modulus
      (case a_bad_modulus => k_is); (case l_bad_modulus => k_is); (case c_bad_modulus => k_is); (case k_bad_modulus => k_is)
      (case b_bad_modulus => exact fun _ _ _ _ _ _ us hl => match us, hl with | [_], _ => rfl)
    obtain ⟨d_bound⟩ : Nonempty (R.DF _ mg "_law_bound" R.s_bound R.P_bound) := by
      refine' R.df_ex KX G ?a_bound ?l_bound ?c_bound ?k_bound ?b_bound
      (case a_bound => k_is); (case l_bound => k_is); (case c_bound => k_is); (case k_bound => k_is)
      (case b_bound => exact fun _ _ _ _ _ _ us hl => match us, hl with | [_, _], _ => rfl)
    refine' R.dl_in (x := "law") (st := R.s_law) (ps := R.P_law) KX G ?a_law ?l_law ?c_law ?k_law ?b_law ?go_law
    (case a_law => k_is); (case l_law => k_is); (case c_law => k_is); (case k_law => k_is)
    (case b_law => exact fun _ _ _ _ _ _ us hl => match us, hl with | [_], _ => rfl)
    intro d_law hc_law
    refine' R.lt_mk { b_all := b_all, b_bool := b_bool, b_int := b_int, b_isinstance := b_isinstance, b_len := b_len, b_list := b_list, b_range := b_range, b_str := b_str, b_tuple := b_tuple, b_zip := b_zip, a_MODULI := a_MODULI, c_MODULI := c_MODULI, t_MODULI := t_MODULI, c_MAX_TOTAL := c_MAX_TOTAL, x_RingError := x_RingError, n_RingError := n_RingError, x_UndefinedName := x_UndefinedName, n_UndefinedName := n_UndefinedName, x_EmptyHistory := x_EmptyHistory, n_EmptyHistory := n_EmptyHistory, e_InvalidModulus := e_InvalidModulus, h_InvalidModulus := h_InvalidModulus, f_InvalidModulus := f_InvalidModulus, e_InvalidCount := e_InvalidCount, h_InvalidCount := h_InvalidCount, f_InvalidCount := f_InvalidCount, check_modulus := d_check_modulus, sum_bound := d_sum_bound, source := d_source, draw := d_draw, pick := d_pick, same := d_same, field := d_field, outcome := d_outcome, modulus := d_modulus, tag := d_tag, bad_modulus := d_bad_modulus, bound := d_bound, law := d_law } d_law.g ?bt hc_law ?lc ?v11 ?lP ?h2 ?h3 ?h4 ?h5 ?h6 ?h7 (fun base TB => R.ok_law _ hc_law TB)
    (case lc => k_is)
    (case v11 => rfl)
    (case lP => first | k_is | kernel_rfl)
    (case h2 => rfl); (case h3 => rfl); (case h4 => rfl); (case h5 => rfl); (case h6 => rfl); (case h7 => decide)
    (case bt => (intro s u; obtain ⟨_, _, _, _, _, _, _, _, _, e, _⟩ := d_law.F.ex; show BindsTo s d_law.fd _ _; rw [e]; exact .of_eq rfl))
#print axioms PySem.Challenge.cw_rowring_k23_sum_bounds_holds


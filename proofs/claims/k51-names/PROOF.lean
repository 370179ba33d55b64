import PyProof.Rows.All
import Wide.All
import OpenK.AllK
import Wide.FinOn
import HandS.ForMost
import HandS.ForExc
import HandS.Wide
import HandS.IsInst
import HandS.Zip
import HandS.Flow
import HandS.EndBits
import HandS.Defaults
import HandS.TupAny
import HandS.TupMul
import HandS.Codes
import HandS.Deep
import HandS.Walk
import PySem.Challenge.RW_rowring_k51_names
set_option Elab.async false
set_option linter.all false
set_option maxRecDepth 100000
set_option maxHeartbeats 4000000
/-! # U1: heaps, smart operators, readings as rules by their heads -/
namespace R
open PySem PySem.Spec PyProof.Rows L2

/-! ### heaps: all but r is kept -/
def Kp (r : Addr) (H H' : Hp) : Prop := ∀ b o, H b = some o → b ≠ r → H' b = some o
abbrev Ex (H H' : Hp) : Prop := L2.Same H H'
theorem Ex.kp {r : Addr} {H H' : Hp} (e : Ex H H') : Kp r H H' := fun b o h _ => e b o h
theorem Kp.refl (r : Addr) (H : Hp) : Kp r H H := fun _ _ h _ => h
theorem Kp.trans {r : Addr} {H H1 H2 : Hp} (a : Kp r H H1) (b : Kp r H1 H2) : Kp r H H2 := fun c o h n => b c o (a c o h n) n
theorem Ex.new {H : Hp} {p : Addr} {o : HO} (h : H p = none) : Ex H (upd H p o) := fun a u e => by
  rw [upd_ne (ne_of_none e h)]
  exact e
theorem Kp.new {r : Addr} {H : Hp} {p : Addr} {o : HO} (h : H p = none) : Kp r H (upd H p o) := (Ex.new h).kp
theorem Kp.set {r : Addr} {H : Hp} {o : HO} : Kp r H (upd H r o) := fun b u e n => by
  rw [upd_ne n]
  exact e
theorem Ex.mut {H H' : Hp} {p : Addr} {o : HO} (e : Ex H H') (h : H p = none) : Ex H (upd H' p o) := fun a u ha => by
  rw [upd_ne (ne_of_none ha h)]
  exact e a u ha
theorem Kp.mut {r : Addr} {H H' : Hp} {p : Addr} {o : HO} (e : Kp r H H') (h : H p = none) : Kp r H (upd H' p o) := fun a u ha n => by
  rw [upd_ne (ne_of_none ha h)]
  exact e a u ha n
theorem Kp.ex {r : Addr} {H H' : Hp} (e : Kp r H H') (h : H r = none) : Ex H H' := fun b o hb => e b o hb (ne_of_none hb h)
theorem Ex.none {H H' : Hp} (e : Ex H H') {l : Addr} (h : H' l = none) : H l = none := Same.free e h
theorem Kp.none {r : Addr} {H H' : Hp} (e : Kp r H H') {l : Addr} (h : H' l = none) (n : l ≠ r) : H l = none := by
  cases q : H l with
  | none => rfl
  | some o =>
    rw [e l o q n] at h
    cases h
theorem ex_at {H H' : Hp} {b : Addr} {o : HO} (e : Ex H H') (h : H b = some o) : H' b = some o := e b o h
theorem ne_at {H : Hp} {a b : Addr} {o u : HO} (n : b ≠ a) (h : H b = some u) : upd H a o b = some u := (upd_ne n).trans h
theorem ne_none {H : Hp} {a b : Addr} {o : HO} (h' : H b = none) (h : H a = some o) : a ≠ b := ne_of_none h h'
theorem kp_at {r : Addr} {H H' : Hp} {b : Addr} {o : HO} (e : Kp r H H') (h : H b = some o) (n : b ≠ r) : H' b = some o := e b o h n
theorem upd_none {H : Hp} {a p : Addr} {o : HO} (h : upd H a o p = none) : p ≠ a ∧ H p = none := by
  by_cases e : p = a
  · rw [e, upd_same] at h
    cases h
  · rw [upd_ne e] at h
    exact ⟨e, h⟩
theorem sq_ex {K : PySem.W.Frag} {H H' : Hp} {a : Addr} {xs : List V} (e : Ex H H') (h : SqL K H a xs) : SqL K H' a xs := e.seq h
theorem rd_ex {H H' : Hp} {a : Addr} {u : HO} (e : Ex H H') (h : Rd H a u) : Rd H' a u := by
  rcases h with h | ⟨o, h⟩
  · exact .inl (e a _ h)
  · exact .inr ⟨o, e a _ h⟩
theorem st_ex {K : PySem.W.Frag} {H H' : Hp} {a : Addr} {xs : List V} (e : Ex H H') (h : SqT K H a xs) : SqT K H' a xs := by
  rcases h with h | h
  · exact .inl (rd_ex e h)
  · exact .inr h
theorem rd_kp {r : Addr} {H H' : Hp} {a : Addr} {u : HO} (e : Kp r H H') (h : Rd H a u) (n : a ≠ r) : Rd H' a u := by
  rcases h with h | ⟨o, h⟩
  · exact .inl (e a _ h n)
  · exact .inr ⟨o, e a _ h n⟩
theorem sq_kp {K : PySem.W.Frag} {r : Addr} {H H' : Hp} {a : Addr} {xs : List V} (e : Kp r H H') (h : SqL K H a xs) (n : a ≠ r) : SqL K H' a xs := h.imp (fun h => rd_kp e h n) id
theorem st_kp {K : PySem.W.Frag} {r : Addr} {H H' : Hp} {a : Addr} {xs : List V} (e : Kp r H H') (h : SqT K H a xs) (n : a ≠ r) : SqT K H' a xs := h.imp (fun h => rd_kp e h n) id
theorem sq_of {K : PySem.W.Frag} {H : Hp} {a : Addr} {xs : List V} (h : H a = some (.lst xs)) : SqL K H a xs := .inl (.inl h)
theorem st_of {K : PySem.W.Frag} {H : Hp} {a : Addr} {xs : List V} (h : H a = some (.tup xs)) : SqT K H a xs := .inl (.inl h)
theorem sz_of {n : Nat} (h : n ≤ 1000000) : n ≤ sizeLine := Nat.le_trans h (by decide)
theorem sz_lt {n : Nat} (h : n < 1000000) : n < sizeLine := Nat.lt_of_lt_of_le h (by decide)

/-! ### readings by their heads -/
/-- a new tuple, a new list -/
def mkT (xs : List V) (H : Hp) (Q : VK) : Prop := xs.length ≤ sizeLine ∧ ∀ p, H p = none → Q (.ref p) (upd H p (.tup xs))
def mkL (xs : List V) (H : Hp) (Q : VK) : Prop := xs.length ≤ sizeLine ∧ ∀ p, H p = none → Q (.ref p) (upd H p (.lst xs))
section
variable {σ : L2.St} {H : Hp} {Q : VK} {D : Ends} {v w : V} {i : Nat} {K : PySem.W.Frag}
theorem x_var (h : σ[i]? = some (some v)) (q : Q v H) : tVar i σ H Q := ⟨v, h, q⟩
theorem x_c (q : Q v H) : tC v σ H Q := q
theorem x_op {r : R2} {ta tb : TE} (q : ta σ H fun x H1 => tb σ H1 fun y H2 => r x y H2 Q) : tOp r ta tb σ H Q := q
theorem x_un {r : V → Hp → VK → Prop} {ta : TE} (q : ta σ H fun x H1 => r x H1 Q) : tUn r ta σ H Q := q
theorem x_nil {Q : List V → Hp → Prop} (q : Q [] H) : tNil σ H Q := q
theorem x_cons {Q : List V → Hp → Prop} {ta : TE} {tr : TA} (q : ta σ H fun x H1 => tr σ H1 fun xs H2 => Q (x :: xs) H2) : tCons ta tr σ H Q := q
theorem x_cb {r : List V → Hp → VK → Prop} {t : TA} (q : t σ H fun vs H1 => r vs H1 Q) : tCB r t σ H Q := q
theorem x_tup {t : TA} (q : t σ H fun xs H1 => mkT xs H1 Q) : tTup t σ H Q := q
theorem x_lst {t : TA} (q : t σ H fun xs H1 => mkL xs H1 Q) : tLst t σ H Q := q
theorem z_tup {xs : List V} (h : ∀ p, H p = none → Q (.ref p) (upd H p (.tup xs))) (hl : xs.length ≤ 1000000 := by exact Nat.le_of_ble_eq_true rfl) : mkT xs H Q := ⟨sz_of hl, h⟩
theorem z_lst {xs : List V} (h : ∀ p, H p = none → Q (.ref p) (upd H p (.lst xs))) (hl : xs.length ≤ 1000000 := by exact Nat.le_of_ble_eq_true rfl) : mkL xs H Q := ⟨sz_of hl, h⟩
theorem x_if {c : TT} {ta tb : TE} (q : c σ H fun b H1 => if b = true then ta σ H1 Q else tb σ H1 Q) : tIf c ta tb σ H Q := q
theorem x_andV {ta tb : TE} (q : ta σ H fun x H1 => ∃ c, x = .bl c ∧ if c = true then tb σ H1 Q else Q (.bl false) H1) : tAndV ta tb σ H Q := q
theorem x_orV {ta tb : TE} (q : ta σ H fun x H1 => ∃ c, x = .bl c ∧ if c = true then Q (.bl true) H1 else tb σ H1 Q) : tOrV ta tb σ H Q := q
theorem x_notV {ta : TE} (q : ta σ H fun x H1 => ∃ c, x = .bl c ∧ Q (.bl (!c)) H1) : tNotV ta σ H Q := q
theorem x_bl {b : Bool} {P : Bool → Prop} (q : P b) : ∃ c, V.bl b = .bl c ∧ P c := ⟨b, rfl, q⟩
theorem x_chain {r r' : R2} {ta tb tc : TE} (q : ta σ H fun x H1 => tb σ H1 fun y H2 => r x y H2 fun z H3 => ∃ k, z = .bl k ∧ (if k = true then tc σ H3 fun w' H4 => r' y w' H4 Q else Q (.bl false) H3)) : tChain r r' ta tb tc σ H Q := q
variable {B : Bool → Hp → Prop}
theorem x_tB {t : TE} (q : t σ H fun x H1 => ∃ c, x = .bl c ∧ B c H1) : tB t σ H B := q
theorem x_test {t : TE} (q : t σ H fun x H1 => ∃ c, x = .bl c ∧ B c H1) : tTest t σ H B := q
theorem x_and {t u : TT} (q : t σ H fun c H1 => if c = true then u σ H1 B else B false H1) : tAnd t u σ H B := q
theorem x_or {t u : TT} (q : t σ H fun c H1 => if c = true then B true H1 else u σ H1 B) : tOr t u σ H B := q
theorem x_not {t : TT} (q : t σ H fun c H1 => B (!c) H1) : tNot t σ H B := q
/-! statements -/
theorem x_seq {t u : TS} (q : t { D with nx := u D } σ H) : tSeq t u D σ H := q
theorem x_cut {t u : TS} (h : ∃ Mid : L2.St → Hp → Prop, t { D with nx := Mid } σ H ∧ ∀ σ' H', Mid σ' H' → u D σ' H') : C8.tCut t u D σ H := h
theorem x_next (q : D.nx σ H) : tNext D σ H := q
theorem x_brk (q : D.bk σ H) : tBreak D σ H := q
theorem x_cont (q : D.ct σ H) : tCont D σ H := q
theorem x_drop {te : TE} (q : te σ H fun _ H1 => D.nx σ H1) : tDrop te D σ H := q
theorem x_ret {te : TE} (q : te σ H D.rt) : tRet te D σ H := q
theorem x_retN (q : D.rt .non H) : tRetN D σ H := q
theorem x_ifS {c : TT} {t u : TS} (q : c σ H fun b H1 => if b = true then t D σ H1 else u D σ H1) : tIfS c t u D σ H := q
theorem x_asg {te : TE} {g : TG} (q : te σ H fun x H1 => g x σ H1 D.nx) : tAsg te g D σ H := q
theorem x_par {i j : Nat} {ta : TA} (q : ta σ H fun vs H1 => ∃ v w, vs = [v, w] ∧ D.nx ((σ.set i (some v)).set j (some w)) H1) : tPar i j ta D σ H := q
theorem x_name {Q : L2.St → Hp → Prop} {σ' : L2.St} (e : σ.set i (some v) = σ') (q : Q σ' H) : gName i v σ H Q := by
  subst e
  exact q
/-! known tests -/
theorem y_ite {c : Prop} [Decidable c] {A B : Prop} (h1 : c → A) (h2 : ¬ c → B) : if (decide c) = true then A else B := by
  by_cases h : c
  · rw [decide_eq_true h, if_pos rfl]
    exact h1 h
  · rw [decide_eq_false h, if_neg Bool.false_ne_true]
    exact h2 h
theorem y_iteN {c : Prop} [Decidable c] {A B : Prop} (h1 : ¬ c → A) (h2 : c → B) : if (!decide c) = true then A else B := by
  by_cases h : c
  · rw [decide_eq_true h]
    exact iteF (h2 h)
  · rw [decide_eq_false h]
    exact iteT (h1 h)
theorem y_iteb {b : Bool} {A B : Prop} (h1 : b = true → A) (h2 : b = false → B) : if b = true then A else B := by
  cases b with
  | true => exact iteT (h1 rfl)
  | false => exact iteF (h2 rfl)
theorem y_yes {c : Prop} [Decidable c] {A B : Prop} (h : c) (q : A) : if (decide c) = true then A else B := by
  rw [decide_eq_true h]
  exact iteT q
theorem y_no {c : Prop} [Decidable c] {A B : Prop} (h : ¬ c) (q : B) : if (decide c) = true then A else B := by
  rw [decide_eq_false h]
  exact iteF q
theorem y_yesV {x : V} {A B : Prop} (q : A) : if (decide (x = x)) = true then A else B := y_yes rfl q
theorem y_noV {x y : V} {A B : Prop} (h : ¬ x = y) (q : B) : if (decide (x = y)) = true then A else B := y_no h q
theorem y_yesN {c : Prop} [Decidable c] {A B : Prop} (h : ¬ c) (q : A) : if (!decide c) = true then A else B := by
  rw [decide_eq_false h]
  exact iteT q
theorem y_noN {c : Prop} [Decidable c] {A B : Prop} (h : c) (q : B) : if (!decide c) = true then A else B := by
  rw [decide_eq_true h]
  exact iteF q
theorem y_ff {A B : Prop} (q : B) : if (false || false) = true then A else B := iteF q
theorem y_tx {b : Bool} {A B : Prop} (q : A) : if (true || b) = true then A else B := iteT q
theorem y_ft {A B : Prop} (q : A) : if (false || true) = true then A else B := iteT q
theorem y_nt {A B : Prop} (q : B) : if (!true) = true then A else B := iteF q
theorem y_nf {A B : Prop} (q : A) : if (!false) = true then A else B := iteT q
theorem y_dyes {b : Bool} {A B : Prop} (q : A) : if (decide (b = b)) = true then A else B := y_yes rfl q
theorem y_dno {b : Bool} {A B : Prop} (q : B) : if (!decide (b = b)) = true then A else B := y_noN rfl q
end

/-! ### smart operators: the reading is reckoned from the values -/
def sI (g : Int → Int → V) (C : Int → Int → Prop) : R2 := fun x y H Q => match x, y with
  | .int i, .int j => C i j ∧ Q (g i j) H
  | _, _ => False
def sI0 (g : Int → Int → V) : R2 := fun x y H Q => match x, y with
  | .int i, .int j => Q (g i j) H
  | _, _ => False
theorem opr_imp {X : Cx} {f : Value → Value → Sem Value} {r r' : R2} (h : OpR X f r) (i : ∀ x y H Q, r' x y H Q → r x y H Q) : OpR X f r' :=
  fun pins s σ H x y u v Q I rx ry q => h pins s σ H x y u v Q I rx ry (i _ _ _ _ q)
theorem opr_or {X : Cx} {f : Value → Value → Sem Value} {r1 r2 r' : R2} (h1 : OpR X f r1) (h2 : OpR X f r2) (i : ∀ x y H Q, r' x y H Q → r1 x y H Q ∨ r2 x y H Q) : OpR X f r' :=
  fun pins s σ H x y u v Q I rx ry q => (i _ _ _ _ q).elim (fun q => h1 pins s σ H x y u v Q I rx ry q) (fun q => h2 pins s σ H x y u v Q I rx ry q)
def sAdd (K : PySem.W.Frag) : R2 := fun x y H Q => match x, y with
  | .int i, .int j => Q (.int (i + j)) H
  | .str a, .str b => a.length + b.length ≤ sizeLine ∧ Q (.str (a ++ b)) H
  | .ref a, .ref b => (∃ xs zs, H a = some (.lst xs) ∧ H b = some (.lst zs) ∧ xs.length + zs.length ≤ sizeLine ∧ ∀ p, H p = none → Q (.ref p) (upd H p (.lst (xs ++ zs)))) ∨ rCatT K (.ref a) (.ref b) H Q
  | _, _ => False
theorem op_sAdd {X : Cx} : OpR X (binaryOp .Add) (sAdd X.K) := by
  refine opr_or (opr_or op_add op_add_str (r' := fun x y H Q => _ ∨ _) fun _ _ _ _ q => q) (opr_or op_cat op_catT (r' := fun x y H Q => _ ∨ _) fun _ _ _ _ q => q) fun x y H Q q => ?_
  cases x <;> cases y <;> first | exact False.elim q | skip
  · exact .inl (.inl ⟨_, _, rfl, rfl, q⟩)
  · exact .inl (.inr ⟨_, _, rfl, rfl, q⟩)
  · rcases q with ⟨xs, zs, h1, h2, h3, h4⟩ | q
    · exact .inr (.inl ⟨_, _, xs, zs, rfl, rfl, h1, h2, h3, h4⟩)
    · exact .inr (.inr q)
def sSub : R2 := sI0 fun i j => .int (i - j)
theorem op_sSub {X : Cx} : OpR X (binaryOp .Sub) sSub := opr_imp op_sub fun x y H Q q => by
  cases x <;> cases y <;> first | exact False.elim q | exact ⟨_, _, rfl, rfl, q⟩
def sMod : R2 := sI (fun i j => .int (i % j)) fun _ j => 0 < j
theorem op_sMod {X : Cx} : OpR X (binaryOp .Mod) sMod := opr_imp op_mod fun x y H Q q => by
  cases x <;> cases y <;> first | exact False.elim q | exact ⟨_, _, rfl, rfl, q.1, q.2⟩
def sDiv : R2 := sI (fun i j => .int (i / j)) fun _ j => 0 < j ∧ j < 2 ^ 200
theorem op_sDiv {X : Cx} : OpR X (binaryOp .FloorDiv) sDiv := opr_imp op_fdivW fun x y H Q q => by
  cases x <;> cases y <;> first | exact False.elim q | exact ⟨_, _, rfl, rfl, wide_div q.1.1 (b := 200) (by have := q.1; omega) (by decide) (by decide), q.2⟩
def sMul : R2 := sI (fun i j => .int (i * j)) fun i j => (-(2 ^ 64) < i ∧ i < 2 ^ 64) ∨ (-(2 ^ 64) < j ∧ j < 2 ^ 64) ∨ (i.natAbs < 2 ^ 400000 ∧ j.natAbs < 2 ^ 400000)
theorem op_sMul {X : Cx} : OpR X (binaryOp .Mult) sMul := by
  refine opr_or (op_mul) op_mulW fun x y H Q q => ?_
  cases x <;> cases y <;> first | exact False.elim q | skip
  obtain ⟨c, q⟩ := q
  rcases c with c | c | c
  · exact .inl ⟨_, _, rfl, rfl, .inl c, q⟩
  · exact .inl ⟨_, _, rfl, rfl, .inr c, q⟩
  · exact .inr ⟨_, _, rfl, rfl, wide_mul c.1 c.2 (by decide) (by decide) (by decide), q⟩
def sPow : R2 := sI (fun i j => .int (i ^ j.toNat)) fun i j => 0 ≤ j ∧ j ≤ 1000000 ∧ i.natAbs < 2 ^ 64
theorem op_sPow {X : Cx} : OpR X (binaryOp .Pow) sPow := opr_imp op_pow fun x y H Q q => by
  cases x <;> cases y <;> first | exact False.elim q | exact ⟨_, _, rfl, rfl, q.1, q.2⟩
def Sq (K : PySem.W.Frag) (H : Hp) (p : Addr) (xs : List V) : Prop := SqL K H p xs ∨ SqT K H p xs
theorem sq_l {K : PySem.W.Frag} {H : Hp} {p : Addr} {xs : List V} (h : SqL K H p xs) : Sq K H p xs := .inl h
theorem sq_t {K : PySem.W.Frag} {H : Hp} {p : Addr} {xs : List V} (h : SqT K H p xs) : Sq K H p xs := .inr h
theorem Sq.ex {K : PySem.W.Frag} {H H' : Hp} {a : Addr} {xs : List V} (e : Ex H H') (h : Sq K H a xs) : Sq K H' a xs := h.imp (sq_ex e) (st_ex e)
/-! comparisons -/
def sCmp (p : Int → Int → Bool) : R2 := fun x y H Q => match x, y with
  | .int i, .int j => Q (.bl (p i j)) H
  | _, _ => False
theorem opr_cmp {X : Cx} {f : Value → Value → Sem Value} {p : Int → Int → Bool} (h : OpR X f (rI0 fun i j => .bl (p i j))) : OpR X f (sCmp p) := opr_imp h fun x y H Q q => by
  cases x <;> cases y <;> first | exact False.elim q | exact ⟨_, _, rfl, rfl, q⟩
def sLt : R2 := sCmp fun i j => decide (i < j)
def sLe : R2 := sCmp fun i j => decide (i ≤ j)
def sGt : R2 := sCmp fun i j => decide (j < i)
def sGe : R2 := sCmp fun i j => decide (j ≤ i)
theorem op_sLt {X : Cx} : OpR X (compareOp .Lt) sLt := opr_cmp op_lt
theorem op_sLe {X : Cx} : OpR X (compareOp .LtE) sLe := opr_cmp op_le
theorem op_sGt {X : Cx} : OpR X (compareOp .Gt) sGt := opr_cmp op_gt
theorem op_sGe {X : Cx} : OpR X (compareOp .GtE) sGe := opr_cmp op_ge
def sEq (K : PySem.W.Frag) : R2 := fun x y H Q => match x, y with
  | .int i, .int j => Q (.bl (decide (i = j))) H
  | .str a, .str b => Q (.bl (decide (a = b))) H
  | .bl a, .bl b => Q (.bl (decide (a = b))) H
  | .ref a, .ref b => rEqD K (.ref a) (.ref b) H Q
  | x, y => rEqD K x y H Q
def sNe (K : PySem.W.Frag) : R2 := fun x y H Q => match x, y with
  | .int i, .int j => Q (.bl (!decide (i = j))) H
  | .str a, .str b => Q (.bl (!decide (a = b))) H
  | .bl a, .bl b => Q (.bl (!decide (a = b))) H
  | .ref a, .ref b => rNeD K (.ref a) (.ref b) H Q
  | x, y => rNeD K x y H Q
theorem dec_i {i j : Int} : decide (V.int i = V.int j) = decide (i = j) := by
  rw [Bool.eq_iff_iff]
  simp
theorem dec_s {i j : Str} : decide (V.str i = V.str j) = decide (i = j) := by
  rw [Bool.eq_iff_iff]
  simp
theorem dec_b {i j : Bool} : decide (V.bl i = V.bl j) = decide (i = j) := by
  rw [Bool.eq_iff_iff]
  simp
theorem op_sEq {X : Cx} (hu : X.A.units + 64 < cLine) : OpR X (compareOp .Eq) (sEq X.K) := opr_or op_eq (op_eqD hu) fun x y H Q q => by
  unfold sEq at q
  split at q
  · exact .inl ⟨rfl, by rw [dec_i]; exact q⟩
  · exact .inl ⟨rfl, by rw [dec_s]; exact q⟩
  · exact .inl ⟨rfl, by rw [dec_b]; exact q⟩
  · exact .inr q
  · exact .inr q
theorem op_sNe {X : Cx} (hu : X.A.units + 64 < cLine) : OpR X (compareOp .NotEq) (sNe X.K) := opr_or op_ne (op_neD hu) fun x y H Q q => by
  unfold sNe at q
  split at q
  · exact .inl ⟨rfl, by rw [dec_i]; exact q⟩
  · exact .inl ⟨rfl, by rw [dec_s]; exact q⟩
  · exact .inl ⟨rfl, by rw [dec_b]; exact q⟩
  · exact .inr q
  · exact .inr q
/-- in: one sign in a text; a flat thing in a list or a tuple -/
def sIn (K : PySem.W.Frag) : R2 := fun x y H Q => match x, y with
  | .str a, .str z => ∃ c, a = ⟨#[c]⟩ ∧ Q (.bl (decide (c ∈ z.cps.toList))) H
  | x, .ref p => ∃ xs, Sq K H p xs ∧ flatV x = true ∧ xs.all flatV = true ∧ Q (.bl (inV x xs)) H
  | _, _ => False
def sNotIn (K : PySem.W.Frag) : R2 := fun x y H Q => match x, y with
  | .str a, .str z => ∃ c, a = ⟨#[c]⟩ ∧ Q (.bl (!decide (c ∈ z.cps.toList))) H
  | x, .ref p => ∃ xs, Sq K H p xs ∧ flatV x = true ∧ xs.all flatV = true ∧ Q (.bl (!inV x xs)) H
  | _, _ => False
theorem op_sIn {X : Cx} : OpR X (compareOp .In) (sIn X.K) := opr_or op_in_sign op_in_seq fun x y H Q q => by
  unfold sIn at q
  split at q
  · obtain ⟨c, rfl, q⟩ := q
    exact .inl ⟨c, _, rfl, rfl, q⟩
  · obtain ⟨xs, h1, h2, h3, q⟩ := q
    exact .inr ⟨_, xs, rfl, h1, h2, h3, q⟩
  · exact q.elim
theorem op_sNotIn {X : Cx} : OpR X (compareOp .NotIn) (sNotIn X.K) := opr_or op_notIn_sign op_notIn_seq fun x y H Q q => by
  unfold sNotIn at q
  split at q
  · obtain ⟨c, rfl, q⟩ := q
    exact .inl ⟨c, _, rfl, rfl, q⟩
  · obtain ⟨xs, h1, h2, h3, q⟩ := q
    exact .inr ⟨_, xs, rfl, h1, h2, h3, q⟩
  · exact q.elim
def sIs : R2 := fun x y H Q => y = .non ∧ Q (.bl (decide (x = .non))) H
def sIsNot : R2 := fun x y H Q => y = .non ∧ Q (.bl (!decide (x = .non))) H
theorem op_sIs {X : Cx} : OpR X (compareOp .Is) sIs := op_isN
theorem op_sIsNot {X : Cx} : OpR X (compareOp .IsNot) sIsNot := op_notN
/-- xs[i], t[i], s[i] -/
def sIx (K : PySem.W.Frag) : R2 := fun x y H Q => match x, y with
  | .ref p, .int i => ∃ xs v, Sq K H p xs ∧ atI xs i = some v ∧ Q v H
  | .str z, .int i => ∃ c, z.length ≤ sizeLine ∧ atI z.cps.toList i = some c ∧ Q (.str ⟨#[c]⟩) H
  | _, _ => False
theorem ix_s {X : Cx} : IxR X (sIx X.K) := fun a b pins s σ H x y v u Q I rx ry q hs => by
  refine ix_seq a b pins s σ H x y v u Q I rx ry ?_ hs
  unfold sIx at q
  split at q
  · obtain ⟨xs, v, h, h2, q⟩ := q
    rcases h with h | h
    · exact .inl ⟨_, xs, _, v, rfl, rfl, h, h2, q⟩
    · exact .inr (.inl ⟨_, xs, _, v, rfl, rfl, h, h2, q⟩)
  · obtain ⟨c, h, h2, q⟩ := q
    exact .inr (.inr ⟨_, _, c, rfl, rfl, h, h2, q⟩)
  · exact q.elim
/-! built-ins -/
def sLen (K : PySem.W.Frag) : List V → Hp → VK → Prop := fun vs H Q => match vs with
  | [.str z] => z.length ≤ sizeLine ∧ Q (.int z.length) H
  | [.ref p] => ∃ xs, Sq K H p xs ∧ Q (.int xs.length) H
  | _ => False
theorem call_imp {X : Cx} {f : Value} {r r' : List V → Hp → VK → Prop} (h : CallR X f r) (i : ∀ vs H Q, r' vs H Q → r vs H Q) : CallR X f r' :=
  fun pins s σ H xs us Q I rx q => h pins s σ H xs us Q I rx (i _ _ _ q)
theorem call_or {X : Cx} {f : Value} {r1 r2 r' : List V → Hp → VK → Prop} (h1 : CallR X f r1) (h2 : CallR X f r2) (i : ∀ vs H Q, r' vs H Q → r1 vs H Q ∨ r2 vs H Q) : CallR X f r' :=
  fun pins s σ H xs us Q I rx q => (i _ _ _ q).elim (fun q => h1 pins s σ H xs us Q I rx q) (fun q => h2 pins s σ H xs us Q I rx q)
theorem call_sLen {X : Cx} : CallR X (.builtin "len") (sLen X.K) := call_or call_len_str call_len_seq fun vs H Q q => by
  unfold sLen at q
  split at q
  · exact .inl ⟨_, rfl, q.1, q.2⟩
  · obtain ⟨xs, h, q⟩ := q
    exact .inr ⟨_, xs, rfl, h, q⟩
  · exact q.elim
def sList (K : PySem.W.Frag) : List V → Hp → VK → Prop := fun vs H Q => match vs with
  | [.ref p] => ∃ xs, Sq K H p xs ∧ ∀ l, H l = none → Q (.ref l) (upd H l (.lst xs))
  | _ => False
theorem call_sList {X : Cx} : CallR X (.type "list") (sList X.K) := call_imp call_list_of fun vs H Q q => by
  unfold sList at q
  split at q
  · obtain ⟨xs, h, q⟩ := q
    exact ⟨_, xs, rfl, h, q⟩
  · exact q.elim
def sTuple (K : PySem.W.Frag) : List V → Hp → VK → Prop := fun vs H Q => match vs with
  | [.ref p] => ∃ xs, (SqL K H p xs ∧ ∀ l, H l = none → Q (.ref l) (upd H l (.tup xs))) ∨ (SqT K H p xs ∧ Q (.ref p) H)
  | _ => False
theorem call_sTuple {X : Cx} : CallR X (.type "tuple") (sTuple X.K) := call_imp call_tuple_of fun vs H Q q => by
  unfold sTuple at q
  split at q
  · obtain ⟨xs, h⟩ := q
    exact ⟨_, xs, rfl, h⟩
  · exact q.elim
def sAll (K : PySem.W.Frag) : List V → Hp → VK → Prop := fun vs H Q => ∃ (a : Addr) (bs : List Bool), vs = [V.ref a] ∧ SqL K H a (bs.map V.bl) ∧ Q (.bl (bs.all id)) H
theorem call_sAll {X : Cx} (hc : X.calm = true) : CallR X (.builtin "all") (sAll X.K) := cr_all hc
def sSum (K : PySem.W.Frag) : List V → Hp → VK → Prop := fun vs H Q => ∃ (a : Addr) (ns : List Int), vs = [V.ref a] ∧ SqL K H a (ns.map V.int) ∧ Q (.int ns.sum) H
theorem call_sSum {X : Cx} (hc : X.calm = true) : CallR X (.builtin "sum") (sSum X.K) := cr_sum hc
/-! slices -/
def sSl (K : PySem.W.Frag) : V → Option Int → Option Int → Hp → VK → Prop := fun x lo hi H Q => match x with
  | .ref a => (∃ xs, SqL K H a xs ∧ ∀ p, H p = none → Q (.ref p) (upd H p (.lst (cutV xs lo hi)))) ∨ rSlA K (.ref a) lo hi H Q
  | .str z => z.length ≤ sizeLine ∧ Q (.str (Txt.slice z lo hi)) H
  | _ => False
theorem sl_s {X : Cx} : SlR X (sSl X.K) := fun pins s σ H x v vl vu lo hi sl Q I rx hs pl pu q => by
  unfold sSl at q
  split at q
  · rcases q with ⟨xs, h, q⟩ | q
    · exact sl_list pins s σ H _ v vl vu lo hi sl Q I rx hs pl pu ⟨_, xs, rfl, h, q⟩
    · exact sl_tupA pins s σ H _ v vl vu lo hi sl Q I rx hs pl pu q
  · exact C8.sl_txt pins s σ H _ v vl vu lo hi sl Q I rx hs pl pu ⟨_, rfl, q.1, q.2⟩
  · exact q.elim

/-! ### what the operators give, by heads -/
section
variable {H : Hp} {Q : VK} {K : PySem.W.Frag} {i j : Int} {a b : Str} {p q : Addr} {xs zs : List V} {v : V}
theorem z_addI (h : Q (.int (i + j)) H) : sAdd K (.int i) (.int j) H Q := h
theorem z_addS (h1 : a.length + b.length ≤ sizeLine) (h : Q (.str (a ++ b)) H) : sAdd K (.str a) (.str b) H Q := ⟨h1, h⟩
theorem z_addL (h1 : H p = some (.lst xs)) (h2 : H q = some (.lst zs)) (h3 : xs.length + zs.length ≤ sizeLine) (h : ∀ r, H r = none → Q (.ref r) (upd H r (.lst (xs ++ zs)))) : sAdd K (.ref p) (.ref q) H Q := .inl ⟨xs, zs, h1, h2, h3, h⟩
theorem z_sub (h : Q (.int (i - j)) H) : sSub (.int i) (.int j) H Q := h
theorem z_mod (h1 : 0 < j) (h : Q (.int (i % j)) H) : sMod (.int i) (.int j) H Q := ⟨h1, h⟩
theorem z_div (h1 : 0 < j) (h2 : j < 2 ^ 200) (h : Q (.int (i / j)) H) : sDiv (.int i) (.int j) H Q := ⟨⟨h1, h2⟩, h⟩
theorem z_mulL (h1 : -(2 ^ 64) < i ∧ i < 2 ^ 64) (h : Q (.int (i * j)) H) : sMul (.int i) (.int j) H Q := ⟨.inl h1, h⟩
theorem z_mulR (h1 : -(2 ^ 64) < j ∧ j < 2 ^ 64) (h : Q (.int (i * j)) H) : sMul (.int i) (.int j) H Q := ⟨.inr (.inl h1), h⟩
theorem z_mulW (h1 : i.natAbs < 2 ^ 400000) (h2 : j.natAbs < 2 ^ 400000) (h : Q (.int (i * j)) H) : sMul (.int i) (.int j) H Q := ⟨.inr (.inr ⟨h1, h2⟩), h⟩
theorem z_pow (h1 : 0 ≤ j ∧ j ≤ 1000000 ∧ i.natAbs < 2 ^ 64) (h : Q (.int (i ^ j.toNat)) H) : sPow (.int i) (.int j) H Q := ⟨h1, h⟩
theorem z_lt (h : Q (.bl (decide (i < j))) H) : sLt (.int i) (.int j) H Q := h
theorem z_le (h : Q (.bl (decide (i ≤ j))) H) : sLe (.int i) (.int j) H Q := h
theorem z_gt (h : Q (.bl (decide (j < i))) H) : sGt (.int i) (.int j) H Q := h
theorem z_ge (h : Q (.bl (decide (j ≤ i))) H) : sGe (.int i) (.int j) H Q := h
theorem z_eqI (h : Q (.bl (decide (i = j))) H) : sEq K (.int i) (.int j) H Q := h
theorem z_eqS (h : Q (.bl (decide (a = b))) H) : sEq K (.str a) (.str b) H Q := h
theorem z_eqB {a b : Bool} (h : Q (.bl (decide (a = b))) H) : sEq K (.bl a) (.bl b) H Q := h
theorem z_neI (h : Q (.bl (!decide (i = j))) H) : sNe K (.int i) (.int j) H Q := h
theorem z_neS (h : Q (.bl (!decide (a = b))) H) : sNe K (.str a) (.str b) H Q := h
theorem z_neB {a b : Bool} (h : Q (.bl (!decide (a = b))) H) : sNe K (.bl a) (.bl b) H Q := h
theorem z_eqR (h : rEqD K (.ref p) (.ref q) H Q) : sEq K (.ref p) (.ref q) H Q := h
theorem z_neR (h : rNeD K (.ref p) (.ref q) H Q) : sNe K (.ref p) (.ref q) H Q := h
theorem z_inS {c : Nat} {z : Str} (h : Q (.bl (decide (c ∈ z.cps.toList))) H) : sIn K (.str ⟨#[c]⟩) (.str z) H Q := ⟨c, rfl, h⟩
theorem z_inI (h1 : Sq K H p xs) (h2 : xs.all flatV = true) (h : Q (.bl (inV (.int i) xs)) H) : sIn K (.int i) (.ref p) H Q := ⟨xs, h1, rfl, h2, h⟩
theorem z_ninI (h1 : Sq K H p xs) (h2 : xs.all flatV = true) (h : Q (.bl (!inV (.int i) xs)) H) : sNotIn K (.int i) (.ref p) H Q := ⟨xs, h1, rfl, h2, h⟩
theorem z_ninS {c : Nat} {z : Str} (h : Q (.bl (!decide (c ∈ z.cps.toList))) H) : sNotIn K (.str ⟨#[c]⟩) (.str z) H Q := ⟨c, rfl, h⟩
theorem z_is (h : Q (.bl (decide (v = .non))) H) : sIs v .non H Q := ⟨rfl, h⟩
theorem z_isnot (h : Q (.bl (!decide (v = .non))) H) : sIsNot v .non H Q := ⟨rfl, h⟩
theorem z_ix (h1 : Sq K H p xs) (h2 : atI xs i = some v) (h : Q v H) : sIx K (.ref p) (.int i) H Q := ⟨xs, v, h1, h2, h⟩
theorem z_ixS {c : Nat} (h1 : a.length ≤ sizeLine) (h2 : atI a.cps.toList i = some c) (h : Q (.str ⟨#[c]⟩) H) : sIx K (.str a) (.int i) H Q := ⟨c, h1, h2, h⟩
theorem z_lenS (h1 : a.length ≤ sizeLine) (h : Q (.int a.length) H) : sLen K [.str a] H Q := ⟨h1, h⟩
theorem z_len (h1 : Sq K H p xs) (h : Q (.int xs.length) H) : sLen K [.ref p] H Q := ⟨xs, h1, h⟩
theorem z_list (h1 : Sq K H p xs) (h : ∀ l, H l = none → Q (.ref l) (upd H l (.lst xs))) : sList K [.ref p] H Q := ⟨xs, h1, h⟩
theorem z_tupL (h1 : SqL K H p xs) (h : ∀ l, H l = none → Q (.ref l) (upd H l (.tup xs))) : sTuple K [.ref p] H Q := ⟨xs, .inl ⟨h1, h⟩⟩
theorem z_tupT (h1 : SqT K H p xs) (h : Q (.ref p) H) : sTuple K [.ref p] H Q := ⟨xs, .inr ⟨h1, h⟩⟩
theorem z_slL {lo hi : Option Int} (h1 : SqL K H p xs) (h : ∀ r, H r = none → Q (.ref r) (upd H r (.lst (cutV xs lo hi)))) : sSl K (.ref p) lo hi H Q := .inl ⟨xs, h1, h⟩
theorem z_slS {lo hi : Option Int} (h1 : a.length ≤ sizeLine) (h : Q (.str (Txt.slice a lo hi)) H) : sSl K (.str a) lo hi H Q := ⟨h1, h⟩
theorem z_all {bs : List Bool} (h1 : SqL K H p (bs.map V.bl)) (h : Q (.bl (bs.all id)) H) : sAll K [.ref p] H Q := ⟨p, bs, rfl, h1, h⟩
theorem z_sum {ns : List Int} (h1 : SqL K H p (ns.map V.int)) (h : Q (.int ns.sum) H) : sSum K [.ref p] H Q := ⟨p, ns, rfl, h1, h⟩
/-! pieces of a slice -/
theorem x_nopart {σ : L2.St} {Q : Option Int → Hp → Prop} (h : Q none H) : tNoPart σ H Q := h
theorem x_part {σ : L2.St} {t : TE} {Q : Option Int → Hp → Prop} (h : t σ H fun x H1 => ∃ i, x = .int i ∧ Q (some i) H1) : tPart t σ H Q := h
theorem x_int {P : Int → Prop} (h : P i) : ∃ j, V.int i = .int j ∧ P j := ⟨i, rfl, h⟩
theorem x_sl {σ : L2.St} {r : V → Option Int → Option Int → Hp → VK → Prop} {te : TE} {tl th : TO} (h : te σ H fun x H1 => tl σ H1 fun l H2 => th σ H2 fun u H3 => r x l u H3 Q) : tSl r te tl th σ H Q := h
/-! methods of built-ins -/
theorem x_bm {σ : L2.St} {T : String} {r : V → List V → Hp → VK → Prop} {to : TE} {t : TA} (h : to σ H fun x H1 => tyV K T x H1 ∧ t σ H1 fun xs H2 => r x xs H2 Q) : tBM K T r to t σ H Q := h
theorem x_bm0 {σ : L2.St} {T : String} {r : V → List V → Hp → VK → Prop} {to : TE} (h : to σ H fun x H1 => tyV K T x H1 ∧ r x [] H1 Q) : tBM0 K T r to σ H Q := h
theorem ty_list (h : H p = some (.lst xs)) : tyV K "list" (.ref p) H := .inl ⟨rfl, _, .inl (.inl h)⟩
theorem z_append (h : H p = some (.lst xs)) (hz : xs.length < 1000000) (k : Q .non (upd H p (.lst (xs ++ [v])))) : rAppend (.ref p) [v] H Q := ⟨p, xs, v, rfl, rfl, h, sz_lt hz, k⟩
/-! items stored -/
theorem x_sub {σ : L2.St} {to ti : TE} {t : TSet} {Q : L2.St → Hp → Prop} (h : to σ H fun o H1 => ti σ H1 fun i H2 => t o i v H2 fun H3 => Q σ H3) : gSub to ti t v σ H Q := h
theorem z_setL {j : Nat} {Q : Hp → Prop} (h : H p = some (.lst xs)) (hj : ixN xs.length i = some j) (k : Q (upd H p (.lst (xs.set j v)))) : rSetL (.ref p) (.int i) v H Q := ⟨p, xs, i, j, rfl, rfl, h, hj, k⟩
theorem x_gtup {σ : L2.St} {n : Nat} {t : TGs} {Q : L2.St → Hp → Prop} (h1 : SqT K H p xs) (h2 : xs.length = n) (h : t xs σ H Q) : gTup K n t (.ref p) σ H Q := ⟨p, xs, rfl, h1, h2, h⟩
theorem x_gnil {σ : L2.St} {Q : L2.St → Hp → Prop} (h : Q σ H) : gNil [] σ H Q := ⟨rfl, h⟩
theorem x_gcons {σ : L2.St} {vs : List V} {t : TG} {u : TGs} {Q : L2.St → Hp → Prop} (h : t v σ H fun σ' H' => u vs σ' H' Q) : gCons t u (v :: vs) σ H Q := ⟨v, vs, rfl, h⟩
/-! loops -/
theorem x_for {σ : L2.St} {wi : TI} {g : TG} {tb : TS} {D : Ends} (h : wi σ H fun J H1 => ∃ W : Nat → Nat → L2.St → Hp → Prop, (∃ m, W 0 m σ H1) ∧ ∀ i m σ H, W i m σ H →
    (J.stop i H ∧ D.nx σ H) ∨ (J.go i H ∧ ∃ N : L2.St → Hp → Prop, (∀ σ' H', N σ' H' → ∃ m', m' < m ∧ W (i + 1) m' σ' H') ∧ ∀ x H', J.yld i H x H' → g x σ H' fun σ2 H2 => tb { D with nx := N, ct := N, bk := D.nx } σ2 H2)) : tFor wi g tb D σ H := h
theorem x_forL {σ : L2.St} {tl : TE} {g : TG} {tb : TS} {D : Ends} {R : It → Hp → Prop} (h : tl σ H fun x H1 => ∃ a, x = .ref a ∧ (∃ xs, SqL K H1 a xs) ∧ R (Itl K a) H1) : iList K tl σ H R := h
end
end R

/-! # U2: defs of the text as bundles, calls, passing of errors -/
namespace R
open PySem PySem.Spec PyProof.Rows L2
/-- a def of the text as it stands behind the top -/
structure DF (K : PySem.W.Frag) (mg : Str → Option Value) (x : Str) (st : Stmt) (ps : List Str) where
  f : Addr
  fd : FuncData
  F : Fun K x x st f fd
  g : mg x = some (.ref f)
  b : Binds K fd ps []
section
variable {P : Program} {w : World} {K : PySem.W.Frag} {mg : Str → Option Value} {base : Heap}
/-- what a def at f promises -/
abbrev Ok (P : Program) (w : World) (K : PySem.W.Frag) (mg : Str → Option Value) (base : Heap) (k : Nat) {x : Str} {st : Stmt} {ps : List Str} (d : DF K mg x st ps) (sp : Sp) : Prop := FnOk P w K mg base (L2.CX P w) k d.f d.fd ps sp
theorem ok_of {x : Str} {st : Stmt} {ps N : List Str} {k : Nat} {sp : Sp} (d : DF K mg x st ps) (S : FnScope N ps (defScope st)) (len : ∀ vs H Q E, sp vs H Q E → vs.length = ps.length)
    (hbody : ∀ (cdv : Value) (A : Around) (outer : List Env) (s : Shared) (H : Hp) (vs : List V) (Q : VK) (E : XK), Room k (A.deeper (envOfC x (defScope st) s.heap.objs.size d.f cdv)) → sp vs H Q E →
      ∃ t, PSs (cxOf (L2.CX P w) P w K mg base N x (defScope st) d.f cdv A outer s H E) (defBody st) t ∧ t { nx := fun _ H' => Q .non H', rt := Q } (L2.start N vs) H) : Ok P w K mg base (k + 1) d sp := d.F.okX S len hbody
variable {A : Around} {outer : List Env} {s : Shared} {H : Hp} {E : XK} {N : List Str} {q : Str} {sc : Scope} {f : Addr} {cdv : Value}
/-- an error of a callee leaves the def -/
theorem passE : Passes (L2.CX P w) (cxOf (L2.CX P w) P w K mg base N q sc f cdv A outer s H E) E := passes_call (W := fun cls d _ H => E cls d H) (takes_of rfl rfl rfl rfl) (fun _ _ _ _ h => h)
theorem ownE : PassesOwn (model P w) (A.deeper (envOfC q sc s.heap.objs.size f cdv)) (envOfC q sc s.heap.objs.size f cdv) (cxOf (L2.CX P w) P w K mg base N q sc f cdv A outer s H E).xe := passes_of rfl
end
section
variable {X : Cx} {x : Str} {st : Stmt} {ps : List Str} {k : Nat} {sp : Sp} {E : XK} {p pos : Pos} {e : Expr} {es : List Expr} {t : TA}
theorem pcall (d : DF X.K X.mg x st ps) (G : Ok X.prog X.w X.K X.mg X.base k d sp) (hr : Room k X.A) (hx : Passes (L2.CX X.prog X.w) X E) (ha : PA X (e :: es) t) (hg : Gl X x := by rfl) (hdb : (x == ("__debug__" : Str)) = false := by decide)
    (he : starEach (e :: es) X.env = (false, eval e X.env) :: starEach es X.env := by rfl) (hpl : (backTo pos (starEach es X.env)).any (·.1) = false := by rfl) : PE X (.Call (.Name x p) (e :: es) [] pos) (tCall sp [] E t) :=
  pe_call G hr hg d.g d.F.kp d.b .nil hx ha hdb he hpl
theorem pcall0 (d : DF X.K X.mg x st ps) (G : Ok X.prog X.w X.K X.mg X.base k d sp) (hr : Room k X.A) (hx : Passes (L2.CX X.prog X.w) X E) (hg : Gl X x := by rfl) (hdb : (x == ("__debug__" : Str)) = false := by decide) : PE X (.Call (.Name x p) [] [] pos) (tCall sp [] E tNil) :=
  pe_call0 G hr hg d.g d.F.kp d.b .nil hx hdb
theorem x_call {σ : L2.St} {H : Hp} {Q : VK} {t : TA} (h : t σ H fun vs H1 => sp vs H1 Q E) : tCall sp [] E t σ H Q := by
  have e : (fun vs H1 => sp (vs ++ []) H1 Q E) = (fun vs H1 => sp vs H1 Q E) := by
    funext vs H1
    rw [List.append_nil]
  show t σ H (fun vs H1 => sp (vs ++ []) H1 Q E)
  rw [e]
  exact h
theorem go {t : TS} {D : Ends} {N : List Str} {vs : List V} {H : Hp} (σ : L2.St) (e : L2.start N vs = σ) (h : t D σ H) : t D (L2.start N vs) H := by
  rw [e]
  exact h
/-- a global that is a constant -/
def GV (mg : Str → Option Value) (x : Str) (v : V) : Prop := ∃ u, mg x = some u ∧ RelV v u
theorem pglob {v : V} (h : GV X.mg x v) (hg : Gl X x) (hd : (x == ("__debug__" : Str)) = false := by decide) : PE X (.Name x pos) (tC v) := by
  obtain ⟨u, h1, h2⟩ := h
  exact pe_glob hg h1 h2 hd
/-! what a for walks: a list, a tuple, a text -/
def rS (K : PySem.W.Frag) : V → Hp → (It → Hp → Prop) → Prop := fun x H R => match x with
  | .ref a => (∃ xs, SqL K H a xs ∧ R (Itl K a) H) ∨ (∃ xs, SqT K H a xs ∧ R (Itt K a) H)
  | .str z => R (Its z) H
  | _ => False
def iS (K : PySem.W.Frag) (tl : TE) : TI := fun σ H R => tl σ H fun x H1 => rS K x H1 R
theorem pi_s {tg l : Expr} {tl : TE} (hl : PE X l tl) : PI X tg l (iS X.K tl) := by
  refine ⟨fun pins s σ H R I h => ?_⟩
  refine thn (hl.run pins s σ H _ I h) fun v s1 ⟨y, H1, I1, r1, q1⟩ => ?_
  have q1 : rS X.K y H1 R := q1
  cases y with
  | ref a =>
    obtain rfl : v = Value.ref a := r1
    rcases q1 with ⟨xs, hq, q⟩ | ⟨xs, hq, q⟩
    · obtain ⟨its, rv, p, hz⟩ := I1.list hq
      refine wpAny_pyIter_list p.isList ?_
      refine ⟨s1.heap.objs.size, [s1.heap.objs.size], _, _, H1, rfl, I1.kept (t' := s1.toks) fun b o e => Heap.get?_push_of_some _ e, turn_list a _, ⟨_, Heap.get?_push_size _ rfl, rfl, rfl⟩, fun b hb => ?_, q⟩
      have e : b = s1.heap.objs.size := by simpa using hb
      subst e
      exact I1.fpOk (Nat.le_refl _) (I1.hok.fresh (Nat.le_refl _))
    · obtain ⟨its, rv, p, hz⟩ := I1.tuple hq
      refine wpAny_pyIter_tuple (show s1.heap.IsTuple a its.toArray from p) ?_
      refine ⟨s1.heap.objs.size, [s1.heap.objs.size], _, _, H1, rfl, I1.kept (t' := s1.toks) fun b o e => Heap.get?_push_of_some _ e, turn_tuple a _, ⟨_, Heap.get?_push_size _ rfl, rfl, rfl⟩, fun b hb => ?_, q⟩
      have e : b = s1.heap.objs.size := by simpa using hb
      subst e
      exact I1.fpOk (Nat.le_refl _) (I1.hok.fresh (Nat.le_refl _))
  | str z =>
    obtain ⟨t, rfl⟩ := r1
    cases ha : z.cps.all (· < 128)
    · exact wpAny_pyIter_wide ha (pi_one (tk := s1.toks) I1 _ (turn_str _ z t "str_iterator" (.inr rfl)) ⟨_, Heap.get?_push_size _ rfl, rfl, rfl⟩ q1)
    · exact wpAny_pyIter_ascii ha (pi_one (tk := s1.toks) I1 _ (turn_str _ z t "str_ascii_iterator" (.inl rfl)) ⟨_, Heap.get?_push_size _ rfl, rfl, rfl⟩ q1)
  | _ => exact q1.elim
section
variable {σ : L2.St} {H : Hp} {K : PySem.W.Frag} {R : It → Hp → Prop} {a : Addr} {xs : List V} {z : Str}
theorem x_s {tl : TE} (h : tl σ H fun x H1 => rS K x H1 R) : iS K tl σ H R := h
theorem z_sL (h : SqL K H a xs) (q : R (Itl K a) H) : rS K (.ref a) H R := .inl ⟨xs, h, q⟩
theorem z_sT (h : SqT K H a xs) (q : R (Itt K a) H) : rS K (.ref a) H R := .inr ⟨xs, h, q⟩
theorem z_sS (q : R (Its z) H) : rS K (.str z) H R := q
def rR1 (vs : List V) (H : Hp) (R : It → Hp → Prop) : Prop := ∃ j : Int, vs = [.int j] ∧ -(2 ^ 62) ≤ j ∧ j < 2 ^ 62 ∧ R (Itr 0 j.toNat) H
def rR2 (vs : List V) (H : Hp) (R : It → Hp → Prop) : Prop := ∃ i j : Int, vs = [.int i, .int j] ∧ (-(2 ^ 62) ≤ i ∧ i < 2 ^ 62 ∧ -(2 ^ 62) ≤ j ∧ j < 2 ^ 62) ∧ R (Itr i (j - i).toNat) H
theorem x_r1 {t : TA} (h : t σ H fun vs H1 => rR1 vs H1 R) : iRng1 t σ H R := h
theorem z_r1 {j : Int} (h1 : -(2 ^ 62) ≤ j) (h2 : j < 2 ^ 62) (q : R (Itr 0 j.toNat) H) : rR1 [.int j] H R := ⟨j, rfl, h1, h2, q⟩
theorem x_r2 {t : TA} (h : t σ H fun vs H1 => rR2 vs H1 R) : iRng2 t σ H R := h
theorem z_r2 {lo j : Int} (h : -(2 ^ 62) ≤ lo ∧ lo < 2 ^ 62 ∧ -(2 ^ 62) ≤ j ∧ j < 2 ^ 62) (q : R (Itr lo (j - lo).toNat) H) : rR2 [.int lo, .int j] H R := ⟨lo, j, rfl, h, q⟩
end
end
/-! ### comprehensions: the list made so far -/
def LcP (D : Addr) (Iv : Nat → List V → Hp → Prop) (i : Nat) (H : Hp) : Prop := ∃ ys, H D = some (.lst ys) ∧ ys.length ≤ i ∧ Iv i ys H
section
variable {D : Addr} {Iv : Nat → List V → Hp → Prop} {i n : Nat} {H : Hp} {ys : List V} {y : V}
theorem lc0 (h : Iv 0 [] (upd H D (.lst []))) : LcP D Iv 0 (upd H D (.lst [])) := ⟨[], upd_same, Nat.le_refl _, h⟩
theorem lc_put (hD : H D = some (.lst ys)) (hl : ys.length ≤ i) (hi : i < n) (hn : n ≤ 900000) (h : Iv (i + 1) (ys ++ [y]) (upd H D (.lst (ys ++ [y])))) :
    ∃ acc, H D = some (.lst acc) ∧ acc.length < sizeLine ∧ LcP D Iv (i + 1) (upd H D (.lst (acc ++ [y]))) :=
  ⟨ys, hD, sz_lt (by omega), ys ++ [y], upd_same, by rw [List.length_append, List.length_singleton]; omega, h⟩
theorem lc_skip (hD : H D = some (.lst ys)) (hl : ys.length ≤ i) (h : Iv (i + 1) ys H) : LcP D Iv (i + 1) H := ⟨ys, hD, by omega, h⟩
theorem x_lc {wi : TI} {g : TG} {tt : TT} {te : TE} {vs : List Nat} {σ : L2.St} {Q : VK} (h : wi σ H fun J H1 => ∀ D, H1 D = none → ∃ W : Nat → Nat → Hp → Prop, (∃ m, W 0 m (upd H1 D (.lst []))) ∧ ∀ i m H, W i m H →
      (J.stop i H ∧ Q (.ref D) H) ∨ (J.go i H ∧ ∃ Nx : Hp → Prop, (∀ H', Nx H' → ∃ m', m' < m ∧ W (i + 1) m' H') ∧ ∀ x H', J.yld i H x H' → g x (wipe σ vs) H' fun σ2 H2 => wipe σ2 vs = wipe σ vs ∧ tt σ2 H2 fun b H3 =>
        if b = true then te σ2 H3 fun y H4 => ∃ acc, H4 D = some (.lst acc) ∧ acc.length < sizeLine ∧ Nx (upd H4 D (.lst (acc ++ [y]))) else Nx H3)) : tLc wi g tt te vs σ H Q := h
theorem x_yes {σ : L2.St} {Q : Bool → Hp → Prop} (h : Q true H) : tYes σ H Q := h
end
/-! what a zip walks -/
def rZip (K : PySem.W.Frag) (vs : List V) (H : Hp) (R : It → Hp → Prop) : Prop := ∃ a b xs ys, vs = [.ref a, .ref b] ∧ ((SqL K H a xs ∧ SqL K H b ys ∧ R (Itz K a b) H) ∨ (SqT K H a xs ∧ SqT K H b ys ∧ R (RZ.ItzT K a b) H))
theorem x_zip {K : PySem.W.Frag} {σ : L2.St} {H : Hp} {t : TA} {R : It → Hp → Prop} (h : t σ H fun vs H1 => rZip K vs H1 R) : RZ.iZipA K t σ H R := h
theorem z_zipL {K : PySem.W.Frag} {H : Hp} {p q : Addr} {xs ys : List V} {R : It → Hp → Prop} (h1 : SqL K H p xs) (h2 : SqL K H q ys) (h : R (Itz K p q) H) : rZip K [.ref p, .ref q] H R := ⟨p, q, xs, ys, rfl, .inl ⟨h1, h2, h⟩⟩
theorem z_zipT {K : PySem.W.Frag} {H : Hp} {p q : Addr} {xs ys : List V} {R : It → Hp → Prop} (h1 : SqT K H p xs) (h2 : SqT K H q ys) (h : R (RZ.ItzT K p q) H) : rZip K [.ref p, .ref q] H R := ⟨p, q, xs, ys, rfl, .inr ⟨h1, h2, h⟩⟩
theorem walk_zipT {K : PySem.W.Frag} {a b : Addr} {xs ys : List V} {n : Nat} (hn : n = min xs.length ys.length) : Walk (RZ.ItzT K a b) n (fun H => SqT K H a xs ∧ SqT K H b ys) (YPair (fun i => xs[i]?) (fun i => ys[i]?)) := by
  subst hn
  refine ⟨fun i _ hi q => ?_, fun _ q => ⟨xs, ys, q.1, q.2, by omega⟩, fun i H v H' _ q y => ?_⟩
  · have h1 : i < xs.length := by omega
    have h2 : i < ys.length := by omega
    exact ⟨xs, ys, xs[i], ys[i], q.1, q.2, by simp [h1], by simp [h2]⟩
  · obtain ⟨T, x, z, h1, h2, h3, h4, h5⟩ := y
    exact ⟨T, x, z, h1, h2, h3, h4 xs q.1, h5 ys q.2⟩
/-! ### isinstance -/
theorem ki_bool_list : kitB "bool" "list" = some false := by decide +kernel
theorem ki_bool_tuple : kitB "bool" "tuple" = some false := by decide +kernel
theorem ki_bool_bool : kitB "bool" "bool" = some true := by decide +kernel
theorem ki_bool_int : kitB "bool" "int" = some true := by decide +kernel
theorem ki_bool_str : kitB "bool" "str" = some false := by decide +kernel
theorem ki_int_list : kitB "int" "list" = some false := by decide +kernel
theorem ki_int_tuple : kitB "int" "tuple" = some false := by decide +kernel
theorem ki_int_bool : kitB "int" "bool" = some false := by decide +kernel
theorem ki_int_int : kitB "int" "int" = some true := by decide +kernel
theorem ki_int_str : kitB "int" "str" = some false := by decide +kernel
theorem ki_str_list : kitB "str" "list" = some false := by decide +kernel
theorem ki_str_tuple : kitB "str" "tuple" = some false := by decide +kernel
theorem ki_str_bool : kitB "str" "bool" = some false := by decide +kernel
theorem ki_str_int : kitB "str" "int" = some false := by decide +kernel
theorem ki_str_str : kitB "str" "str" = some true := by decide +kernel
theorem ki_list_list : kitB "list" "list" = some true := by decide +kernel
theorem ki_list_tuple : kitB "list" "tuple" = some false := by decide +kernel
theorem ki_list_bool : kitB "list" "bool" = some false := by decide +kernel
theorem ki_list_int : kitB "list" "int" = some false := by decide +kernel
theorem ki_list_str : kitB "list" "str" = some false := by decide +kernel
theorem ki_tuple_list : kitB "tuple" "list" = some false := by decide +kernel
theorem ki_tuple_tuple : kitB "tuple" "tuple" = some true := by decide +kernel
theorem ki_tuple_bool : kitB "tuple" "bool" = some false := by decide +kernel
theorem ki_tuple_int : kitB "tuple" "int" = some false := by decide +kernel
theorem ki_tuple_str : kitB "tuple" "str" = some false := by decide +kernel
theorem ki_NoneType_list : kitB "NoneType" "list" = some false := by decide +kernel
theorem ki_NoneType_tuple : kitB "NoneType" "tuple" = some false := by decide +kernel
theorem ki_NoneType_bool : kitB "NoneType" "bool" = some false := by decide +kernel
theorem ki_NoneType_int : kitB "NoneType" "int" = some false := by decide +kernel
theorem ki_NoneType_str : kitB "NoneType" "str" = some false := by decide +kernel
section
variable {K : PySem.W.Frag} {H : Hp} {Q : VK} {x : V} {t : String} {b : Bool} {n : String}
theorem tyx_l {a : Addr} {xs : List V} (h : SqL K H a xs) : TyX K H (.ref a) (.type "list") := by
  rcases h with (h | ⟨o, h⟩) | ⟨o, its, m, h1, h2, _⟩
  · exact .base (.lst h)
  · exact .base (.frz h)
  · exact .kList h1 h2
theorem tyx_t {a : Addr} {xs : List V} (h : SqT K H a xs) : TyX K H (.ref a) (.type "tuple") := by
  rcases h with (h | ⟨o, h⟩) | ⟨o, its, m, h1, h2, _⟩
  · exact .base (.tup h)
  · exact .fTuple h
  · exact .kTuple h1 h2
theorem z_isi (ty : TyX K H x (.type t)) (e : kitB t n = some b) (q : Q (.bl b) H) : rIsi K [x, .ty n] H Q := ⟨x, .ty n, .type t, .type n, b, rfl, .ty n, ty, kit_ty e, q⟩
theorem z_isiT {tp : Addr} {n1 n2 : String} {b1 b2 : Bool} (ht : H tp = some (.tup [.ty n1, .ty n2])) (ty : TyX K H x (.type t)) (e1 : kitB t n1 = some b1) (e2 : kitB t n2 = some b2) (q : Q (.bl (b1 || b2)) H) : rIsiT K [x, .ref tp] H Q := by
  refine ⟨x, tp, [.ty n1, .ty n2], .type t, [.type n1, .type n2], b1 || b2, rfl, ht, .cons (.ty n1) (.cons (.ty n2) .nil), ty, kitAny_cons (kit_ty e1) (fun h => ?_) (fun h => by rw [h]; rfl), q⟩
  subst h
  refine kitAny_cons (kit_ty e2) (fun h => ?_) (fun h => by rw [h]; rfl)
  subst h
  exact kitAny_nil
end
end R

/-! # DX: texts -/
namespace R
open PySem PySem.Spec PyProof.Rows L2
def sJoin (K : PySem.W.Frag) : V → List V → Hp → VK → Prop := fun x xs H Q => ∃ a p, ∃ ys : List Str, x = .str a ∧ xs = [.ref p] ∧ (SqL K H p (ys.map V.str) ∨ SqT K H p (ys.map V.str)) ∧ (ys.map (·.length)).sum + ys.length * a.length ≤ 16777216 ∧ Q (.str (Txt.join a ys)) H
theorem pjoin {X : Cx} {o e : Expr} {to te : TE} {apos pos : Pos} (ho : PE X o to) (he : PE X e te) (hs : starEach [e] X.env = [(false, eval e X.env)] := by rfl) (hbase : attributeBase o "join" X.env (eval o X.env) = eval o X.env := by rfl) (hline : (apos.endLine == pos.line) = true := by rfl) :
    PE X (.Call (.Attribute o "join" apos) [e] [] pos) (tM1 (sJoin X.K) to te) := pe_join ho he hs hbase hline
section
variable {σ : L2.St} {H : Hp} {Q : VK} {K : PySem.W.Frag} {p : Addr} {ys : List Str} {a : Str}
theorem x_m1 {r : V → List V → Hp → VK → Prop} {to te : TE} (h : to σ H fun x H1 => (∃ a, x = .str a) ∧ te σ H1 fun y H2 => r x [y] H2 Q) : tM1 r to te σ H Q := h
theorem x_isstr {P : Prop} (h : P) : (∃ b, V.str a = .str b) ∧ P := ⟨⟨a, rfl⟩, h⟩
theorem z_join (h : Sq K H p (ys.map V.str)) (hz : (ys.map (·.length)).sum + ys.length * a.length ≤ 16777216) (k : Q (.str (Txt.join a ys)) H) : sJoin K (.str a) [.ref p] H Q := ⟨a, p, ys, rfl, rfl, h, hz, k⟩
end
theorem join_len (a : Str) (ys : List Str) : (Txt.join a ys).length ≤ (ys.map (·.length)).sum + ys.length * a.length := by
  show (Builtin.Str.glued a ys).length ≤ _
  rw [StrLaws.glued_eq_join]
  exact StrLaws.join_length_le a ys
theorem app_len (a b : Str) : (a ++ b).length = a.length + b.length := Str.length_append a b
end R

/-! the text by places -/
namespace R
open PySem PySem.Spec PyProof.Rows L2
def top (i : Nat) : Stmt := PySem.Challenge.pw_rowring_k51_names.main.body.getD i (.Pass ⟨0, 0, 0, 0⟩)
abbrev s_is_valid_name : Stmt := top 4
abbrev N_is_valid_name : List Str := ["text", "char"]
abbrev P_is_valid_name : List Str := ["text"]
abbrev s_source : Stmt := top 6
abbrev N_source : List Str := ["_law_script", "_law_seed", "_law_cell"]
abbrev P_source : List Str := ["_law_script"]
abbrev s_draw : Stmt := top 7
abbrev N_draw : List Str := ["_law_rng", "_law_many", "_law_cell", "_law_got", "_law_seed"]
abbrev P_draw : List Str := ["_law_rng", "_law_many"]
abbrev s_pick : Stmt := top 8
abbrev N_pick : List Str := ["_law_rng", "_law_items"]
abbrev P_pick : List Str := ["_law_rng", "_law_items"]
abbrev s_same : Stmt := top 9
abbrev N_same : List Str := ["_law_found", "_law_due", "_law_one", "_law_other"]
abbrev P_same : List Str := ["_law_found", "_law_due"]
abbrev s_letters : Stmt := top 10
abbrev N_letters : List Str := []
abbrev P_letters : List Str := []
abbrev s_is_name : Stmt := top 11
abbrev N_is_name : List Str := ["_law_text", "_law_char"]
abbrev P_is_name : List Str := ["_law_text"]
abbrev s_law : Stmt := top 12
abbrev N_law : List Str := ["_law_script", "_law_rng", "_law_turn", "_law_text", "_law_k", "_law_at", "_law_char"]
abbrev P_law : List Str := ["_law_script"]
theorem sc_is_valid_name : FnScope N_is_valid_name P_is_valid_name (defScope s_is_valid_name) := ⟨rfl, rfl, rfl, by decide +kernel, rfl, by decide +kernel, by decide +kernel⟩
theorem sc_source : FnScope N_source P_source (defScope s_source) := ⟨rfl, rfl, rfl, by decide +kernel, rfl, by decide +kernel, by decide +kernel⟩
theorem sc_draw : FnScope N_draw P_draw (defScope s_draw) := ⟨rfl, rfl, rfl, by decide +kernel, rfl, by decide +kernel, by decide +kernel⟩
theorem sc_pick : FnScope N_pick P_pick (defScope s_pick) := ⟨rfl, rfl, rfl, by decide +kernel, rfl, by decide +kernel, by decide +kernel⟩
theorem sc_same : FnScope N_same P_same (defScope s_same) := ⟨rfl, rfl, rfl, by decide +kernel, rfl, by decide +kernel, by decide +kernel⟩
theorem sc_letters : FnScope N_letters P_letters (defScope s_letters) := ⟨rfl, rfl, rfl, by decide +kernel, rfl, by decide +kernel, by decide +kernel⟩
theorem sc_is_name : FnScope N_is_name P_is_name (defScope s_is_name) := ⟨rfl, rfl, rfl, by decide +kernel, rfl, by decide +kernel, by decide +kernel⟩
theorem sc_law : FnScope N_law P_law (defScope s_law) := ⟨rfl, rfl, rfl, by decide +kernel, rfl, by decide +kernel, by decide +kernel⟩
structure Txt (K : PySem.W.Frag) (mg : Str → Option Value) where
  b_all : mg "all" = none
  b_bool : mg "bool" = none
  b_int : mg "int" = none
  b_isinstance : mg "isinstance" = none
  b_len : mg "len" = none
  b_list : mg "list" = none
  b_range : mg "range" = none
  b_str : mg "str" = none
  b_tuple : mg "tuple" = none
  b_zip : mg "zip" = none
  c_LETTERS : GV mg "LETTERS" (.str "abcdefghijklmnopqrstuvwxyz")
  c_IDENTITY : GV mg "IDENTITY" (.str "id")
  c_MAX_NAME : GV mg "MAX_NAME" (.int 6)
  is_valid_name : DF K mg "is_valid_name" s_is_valid_name P_is_valid_name
  source : DF K mg "_law_source" s_source P_source
  draw : DF K mg "_law_draw" s_draw P_draw
  pick : DF K mg "_law_pick" s_pick P_pick
  same : DF K mg "_law_same" s_same P_same
  letters : DF K mg "_law_letters" s_letters P_letters
  is_name : DF K mg "_law_is_name" s_is_name P_is_name
  law : DF K mg "law" s_law P_law
end R

/-! # S: the reading's steps as one word, "sx"; facts of the heap, "hp"; addresses apart, "ne" -/
local macro_rules | `(tactic| walk_at "ne") => `(tactic| with_reducible first
  | assumption
  | (apply Ne.symm; assumption)
  | (apply R.ne_none; assumption; walk_at "hp")
  | (apply Ne.symm; apply R.ne_none; assumption; walk_at "hp"))
local macro_rules | `(tactic| walk_at "hp") => `(tactic| with_reducible first
  | assumption
  | exact L2.upd_same
  | (apply R.ne_at; (walk_at "ne"); walk_at "hp")
  | (apply R.ex_at; assumption; walk_at "hp")
  | (apply R.kp_at; assumption; (walk_at "hp"); walk_at "ne"))
local macro_rules | `(tactic| walk_at "sl") => `(tactic| with_reducible first
  | assumption
  | (apply R.sq_of; walk_at "hp")
  | (apply R.sq_ex; assumption; walk_at "sl")
  | (apply R.sq_ex; (apply R.Ex.new; assumption); walk_at "sl")
  | (apply R.sq_kp; assumption; (walk_at "sl"); walk_at "ne"))
local macro_rules | `(tactic| walk_at "st") => `(tactic| with_reducible first
  | assumption
  | (apply R.st_of; walk_at "hp")
  | (apply R.st_ex; assumption; walk_at "st")
  | (apply R.st_ex; (apply R.Ex.new; assumption); walk_at "st")
  | (apply R.st_kp; assumption; (walk_at "st"); walk_at "ne"))
local macro_rules | `(tactic| walk_at "sq") => `(tactic| with_reducible first
  | assumption
  | (apply R.sq_l; walk_at "sl")
  | (apply R.sq_t; walk_at "st")
  | (apply R.Sq.ex; assumption; walk_at "sq")
  | (apply R.Sq.ex; (apply R.Ex.new; assumption); walk_at "sq"))
local macro_rules | `(tactic| walk_at "sx") => `(tactic| repeat (first
  | with_reducible refine R.x_seq ?_
  | with_reducible refine L2.iteT ?_
  | with_reducible refine L2.iteF ?_
  | with_reducible refine R.x_cut ?_
  | with_reducible refine R.x_asg ?_
  | with_reducible refine R.x_ifS ?_
  | with_reducible refine R.x_ret ?_
  | with_reducible refine R.x_drop ?_
  | with_reducible refine R.x_for ?_
  | with_reducible refine R.x_par ?_
  | with_reducible refine R.x_next ?_
  | with_reducible refine R.x_c ?_
  | ((with_reducible apply R.x_var); rfl)
  | with_reducible refine R.x_op ?_
  | with_reducible refine R.x_un ?_
  | with_reducible refine R.x_cons ?_
  | with_reducible refine R.x_nil ?_
  | with_reducible refine R.x_call ?_
  | with_reducible refine R.x_cb ?_
  | with_reducible refine R.x_tup ?_
  | with_reducible refine R.x_lst ?_
  | with_reducible refine R.x_if ?_
  | with_reducible refine R.x_test ?_
  | with_reducible refine R.x_tB ?_
  | with_reducible refine R.x_bl ?_
  | with_reducible refine R.x_and ?_
  | with_reducible refine R.x_or ?_
  | with_reducible refine R.x_not ?_
  | with_reducible refine R.x_andV ?_
  | with_reducible refine R.x_orV ?_
  | with_reducible refine R.x_notV ?_
  | with_reducible refine R.x_sl ?_
  | with_reducible refine R.x_nopart ?_
  | with_reducible refine R.x_part ?_
  | with_reducible refine R.x_int ?_
  | with_reducible refine R.x_s ?_
  | with_reducible refine R.x_r1 ?_
  | with_reducible refine R.x_r2 ?_
  | with_reducible refine R.x_bm ?_
  | with_reducible refine R.x_bm0 ?_
  | with_reducible refine R.x_sub ?_
  | with_reducible refine R.x_gcons ?_
  | with_reducible refine R.x_gnil ?_
  | ((with_reducible apply R.x_name); (first | (simp only [List.set_cons_succ, List.set_cons_zero]; done) | (simp only [List.set_cons_succ, List.set_cons_zero]; exact rfl) | exact rfl))
  | with_reducible refine R.z_addI ?_
  | with_reducible refine R.z_sub ?_
  | ((with_reducible refine R.z_mod ?_ ?_); omega)
  | ((with_reducible refine R.z_div ?_ ?_ ?_); omega; omega)
  | ((with_reducible refine R.z_mulR ?_ ?_); omega)
  | ((with_reducible refine R.z_mulL ?_ ?_); omega)
  | with_reducible refine R.z_lt ?_
  | with_reducible refine R.z_le ?_
  | with_reducible refine R.z_gt ?_
  | with_reducible refine R.z_ge ?_
  | with_reducible refine R.z_eqI ?_
  | with_reducible refine R.z_eqS ?_
  | with_reducible refine R.z_eqB ?_
  | with_reducible refine R.z_neI ?_
  | with_reducible refine R.z_neS ?_
  | with_reducible refine R.z_neB ?_
  | with_reducible refine R.x_lc ?_
  | with_reducible refine R.x_m1 ?_
  | with_reducible refine R.x_isstr ?_
  | with_reducible refine R.x_chain ?_
  | with_reducible refine R.x_yes ?_
  | with_reducible refine R.x_zip ?_
  | with_reducible refine R.y_yesV ?_
  | with_reducible refine R.y_ff ?_
  | with_reducible refine R.y_tx ?_
  | with_reducible refine R.y_ft ?_
  | with_reducible refine R.y_nt ?_
  | with_reducible refine R.y_nf ?_
  | with_reducible refine R.y_dyes ?_
  | with_reducible refine R.y_dno ?_
  | ((with_reducible refine R.y_noV ?_ ?_); focus (intro q; cases q; done))
  | with_reducible refine R.z_is ?_
  | with_reducible refine R.z_isnot ?_))
local macro_rules | `(tactic| walk_at "ki") => `(tactic| first
  | exact R.ki_bool_list
  | exact R.ki_bool_tuple
  | exact R.ki_bool_bool
  | exact R.ki_bool_int
  | exact R.ki_bool_str
  | exact R.ki_int_list
  | exact R.ki_int_tuple
  | exact R.ki_int_bool
  | exact R.ki_int_int
  | exact R.ki_int_str
  | exact R.ki_str_list
  | exact R.ki_str_tuple
  | exact R.ki_str_bool
  | exact R.ki_str_int
  | exact R.ki_str_str
  | exact R.ki_list_list
  | exact R.ki_list_tuple
  | exact R.ki_list_bool
  | exact R.ki_list_int
  | exact R.ki_list_str
  | exact R.ki_tuple_list
  | exact R.ki_tuple_tuple
  | exact R.ki_tuple_bool
  | exact R.ki_tuple_int
  | exact R.ki_tuple_str
  | exact R.ki_NoneType_list
  | exact R.ki_NoneType_tuple
  | exact R.ki_NoneType_bool
  | exact R.ki_NoneType_int
  | exact R.ki_NoneType_str)
local macro_rules | `(tactic| walk_at "isi") => `(tactic| ((with_reducible apply R.z_isi); (walk_at "ty"); (walk_at "ki")))
local macro_rules | `(tactic| walk_at "ty") => `(tactic| first
  | exact L2.TyX.base (L2.TyOf.bl _)
  | exact L2.TyX.base (L2.TyOf.int _)
  | exact L2.TyX.base (L2.TyOf.str _)
  | exact L2.TyX.base L2.TyOf.non
  | (apply R.tyx_l; walk_at "sl")
  | (apply R.tyx_t; walk_at "st"))

/-! # D1: the law's draws -/
namespace R
open PySem PySem.Spec PyProof.Rows L2
/-- the law's source of numbers stands at r, the script's part at l -/
def Rng (H : Hp) (r l : Addr) : Prop := ∃ (ns : List Int) (i c s : Int), H r = some (.lst [.ref l, .int i, .int c, .int s]) ∧ H l = some (.lst (ns.map V.int)) ∧ l ≠ r ∧ ns.length ≤ 63 ∧ 0 ≤ i ∧ 0 ≤ c ∧ 0 ≤ s ∧ s < 2147483563
theorem Rng.ex {H H' : Hp} {r l : Addr} (h : Rng H r l) (e : Ex H H') : Rng H' r l := by
  obtain ⟨ns, i, c, s, h1, h2, h3⟩ := h
  exact ⟨ns, i, c, s, e _ _ h1, e _ _ h2, h3⟩
theorem Rng.kp {H H' : Hp} {r l q : Addr} (h : Rng H r l) (e : Kp q H H') (n : q ≠ r) (m : q ≠ l) : Rng H' r l := by
  obtain ⟨ns, i, c, s, h1, h2, h3⟩ := h
  exact ⟨ns, i, c, s, e _ _ h1 (Ne.symm n), e _ _ h2 (Ne.symm m), h3⟩
theorem Rng.upd {H : Hp} {r l q : Addr} {o : HO} (h : Rng H r l) (n : q ≠ r) (m : q ≠ l) : Rng (upd H q o) r l := h.kp Kp.set n m
theorem Rng.ne {H : Hp} {r l p : Addr} (h : Rng H r l) (n : H p = none) : p ≠ r := by
  obtain ⟨ns, i, c, s, h1, h2, h3⟩ := h
  exact Ne.symm (ne_of_none h1 n)
theorem Rng.nel {H : Hp} {r l p : Addr} (h : Rng H r l) (n : H p = none) : p ≠ l := by
  obtain ⟨ns, i, c, s, h1, h2, h3⟩ := h
  exact Ne.symm (ne_of_none h2 n)
def spSource (K : PySem.W.Frag) : Sp := fun vs H Q _ => ∃ (a : Addr) (ns : List Int), vs = [.ref a] ∧ SqL K H a (ns.map V.int) ∧ ∀ (H' : Hp) (r l : Addr), Ex H H' → H r = none → H l = none → Rng H' r l → Q (.ref r) H'
def spDraw : Sp := fun vs H Q _ => ∃ (r l : Addr) (m : Int), vs = [.ref r, .int m] ∧ Rng H r l ∧ 0 < m ∧ m < 2 ^ 200 ∧ ∀ (n : Int) (H' : Hp), 0 ≤ n → n < m → Kp r H H' → Rng H' r l → Q (.int n) H'
theorem cut63 (ns : List Int) : ∃ ms : List Int, cutV (ns.map V.int) none (some 63) = ms.map V.int ∧ ms.length ≤ 63 := by
  refine ⟨(ns.drop (HT.sIx (ns.map V.int).length 0 none)).take (HT.sIx (ns.map V.int).length (ns.map V.int).length (some 63) - HT.sIx (ns.map V.int).length 0 none), ?_, ?_⟩
  · unfold cutV
    rw [List.map_take, List.map_drop]
  · rw [List.length_take]
    have : HT.sIx (ns.map V.int).length (ns.map V.int).length (some 63) ≤ 63 := by
      unfold HT.sIx
      simp only [Option.getD_some]
      try split
      all_goals omega
    omega
theorem atN {α : Type} {xs : List α} {i : Int} (h0 : 0 ≤ i) (h1 : i < (xs.length : Int)) : ∃ v, xs[i.toNat]? = some v ∧ atI xs i = some v := by
  have h2 : i.toNat < xs.length := by omega
  refine ⟨xs[i.toNat], List.getElem?_eq_getElem h2, ?_⟩
  have e : ((i.toNat : Nat) : Int) = i := by omega
  have q := atI_nat (List.getElem?_eq_getElem h2)
  rw [e] at q
  exact q
theorem atM {xs : List V} {i : Int} (h0 : 0 ≤ i) (h1 : i < (xs.length : Int)) : ∃ v, v ∈ xs ∧ atI xs i = some v := by
  obtain ⟨v, h2, h3⟩ := atN h0 h1
  exact ⟨v, List.mem_of_getElem? h2, h3⟩
section
variable {P : Program} {w : World} {K : PySem.W.Frag} {mg : Str → Option Value} {base : Heap}
theorem ok_source (T : Txt K mg) : Ok P w K mg base 2 T.source (spSource K) := by
  refine ok_of T.source sc_source (fun vs H Q E h => ?_) (fun cdv A outer s H vs Q E hr h => ?_)
  · obtain ⟨a, ns, rfl, _⟩ := h
    rfl
  · obtain ⟨a, ns, rfl, hS, k⟩ := h
    refine ⟨_, ((pss_cons (ps_set (i := 1) sc_source.nd rfl (by first | exact Or.inl rfl | exact Or.inr rfl) (pe_op op_sAdd pe_int (pe_callB call_sLen (by rfl) T.b_len (by decide +kernel) (pa_cons (pe_slice sl_s (pv 0) po_none (po_some pe_int)) pa_nil))))
  (pss_cons (ps_for ownE rfl (pi_s (pe_slice sl_s (pv 0) po_none (po_some pe_int))) (pg_name (i := 2) sc_source.nd rfl (by first | exact Or.inl rfl | exact Or.inr rfl))
  (pss_one (ps_set (i := 1) sc_source.nd rfl (by first | exact Or.inl rfl | exact Or.inr rfl) (pe_op op_sMod (pe_op op_sAdd (pe_op op_sAdd (pe_op op_sMul (pv 1) pe_int) (pe_op op_sMod (pv 2) pe_int)) pe_int) pe_int))))
  (pss_one (ps_ret (pe_lst (pa_cons (pe_callTy call_sList (by rfl) T.b_list (by decide +kernel) (pa_cons (pe_slice sl_s (pv 0) po_none (po_some pe_int)) pa_nil)) (pa_cons pe_int (pa_cons pe_int (pa_cons (pv 1) pa_nil)))))))))), ?_⟩
    refine go [some (.ref a), none, none] rfl ?_
    try dsimp only [L2.cxOf]
    walk_at "sx"
    refine z_slL (by walk_at "sl") fun p1 n1 => ?_
    obtain ⟨ms, e1, hms⟩ := cut63 ns
    rw [e1]
    have E1 := Ex.new (o := .lst (ms.map V.int)) n1
    walk_at "sx"
    refine z_len (by walk_at "sq") ?_
    walk_at "sx"
    refine z_slL (by walk_at "sl") fun p2 n2 => ?_
    rw [e1]
    walk_at "sx"
    have E2 := Ex.new (o := .lst (ms.map V.int)) n2
    refine z_sL (sq_of upd_same) ?_
    refine for_list (K := K) (a := p2) (xs := ms.map V.int) (fun i σ H' => ∃ (s : Int) (v : Option V), σ = [some (.ref a), some (.int s), v] ∧ Ex (upd (upd H p1 (.lst (ms.map V.int))) p2 (.lst (ms.map V.int))) H' ∧ 0 ≤ s ∧ s < 2147483563)
      ⟨_, none, rfl, Same.refl _, by omega, by rw [List.length_map]; omega⟩ (fun i σ H' _ ⟨_, _, _, e2, _⟩ => sq_of (e2 _ _ upd_same)) ?_ ?_
    · rintro i y σ H' hi ⟨s, v, rfl, e2, h0, h1⟩
      obtain ⟨z, rfl⟩ : ∃ z, y = V.int z := by
        rw [List.getElem?_map] at hi
        cases q : ms[i]? with
        | none => rw [q] at hi; cases hi
        | some z => rw [q] at hi; exact ⟨z, (Option.some.inj hi).symm⟩
      walk_at "sx"
      exact ⟨_, _, rfl, e2, Int.emod_nonneg _ (by decide), Int.emod_lt_of_pos _ (by decide)⟩
    · rintro σ H' ⟨s, v, rfl, e2, h0, h1⟩
      walk_at "sx"
      refine z_slL (by walk_at "sl") fun p3 n3 => ?_
      rw [e1]
      walk_at "sx"
      refine z_list (sq_l (sq_of upd_same)) fun p4 n4 => ?_
      walk_at "sx"
      refine z_lst fun p5 n5 => ?_
      have a1 := upd_none n4
      have a2 := upd_none n5
      have a3 := upd_none a2.2
      refine k _ p5 p4 ?_ ?_ ?_ ⟨ms, 0, 0, s, upd_same, ?_, Ne.symm a2.1, hms, by decide, by decide, h0, h1⟩
      · exact ((((E1.trans E2).trans e2).trans (Ex.new n3)).trans (Ex.new n4)).trans (Ex.new n5)
      · exact E1.none (E2.none (e2.none a3.2))
      · exact E1.none (E2.none (e2.none a1.2))
      · rw [upd_ne (Ne.symm a2.1)]
        exact upd_same
theorem ok_draw (T : Txt K mg) : Ok P w K mg base 1 T.draw spDraw := by
  refine ok_of T.draw sc_draw (fun vs H Q E h => ?_) (fun cdv A outer s H vs Q E hr h => ?_)
  · obtain ⟨r, l, m, rfl, _⟩ := h
    rfl
  · obtain ⟨r, l, m, rfl, ⟨ns, i, c, sd, h1, h2, nlr, hl, hi, hc, hs0, hs1⟩, hm, hm2, k⟩ := h
    refine ⟨_, ((C8.pss_cut (ps_if (PW.pt (pw_and (pt_cmpR (op_sEq hr.units) (pe_ix ix_s (pv 0) pe_int (fun _ _ => rfl)) pe_int (nomark _)) (pw_and1 (pt_cmpR op_sLt (pe_ix ix_s (pv 0) pe_int (fun _ _ => rfl)) (pe_callB call_sLen (by rfl) T.b_len (by decide +kernel) (pa_cons (pe_ix ix_s (pv 0) pe_int (fun _ _ => rfl)) pa_nil)) (nomark _)))))
  (pss_cons (ps_set (i := 2) sc_draw.nd rfl (by first | exact Or.inl rfl | exact Or.inr rfl) (pe_ix ix_s (pe_ix ix_s (pv 0) pe_int (fun _ _ => rfl)) (pe_ix ix_s (pv 0) pe_int (fun _ _ => rfl)) (fun _ _ => rfl)))
  (pss_cons (ps_asg (pe_op op_sAdd (pe_ix ix_s (pv 0) pe_int (fun _ _ => rfl)) pe_int) (pg_sub (pv 0) pe_int set_list))
  (pss_one (ps_if (pt_cmpR op_sGe (pv 2) (pe_op op_sPow pe_int pe_int) (nomark _))
  (pss_one (ps_asg (pv 2) (pg_sub (pv 0) pe_int set_list)))
  (pss_one (ps_asg (pe_op op_sMod (pe_op op_sAdd (pe_op op_sAdd (pe_op op_sMul (pe_ix ix_s (pv 0) pe_int (fun _ _ => rfl)) pe_int) (pe_op op_sMul (pe_op op_sMod (pv 2) pe_int) pe_int)) pe_int) pe_int) (pg_sub (pv 0) pe_int set_list)))))))
  pss_nil)
  (pss_cons (ps_if (pt_cmpR op_sGt (pe_ix ix_s (pv 0) pe_int (fun _ _ => rfl)) pe_int (nomark _))
  (pss_cons (ps_set (i := 3) sc_draw.nd rfl (by first | exact Or.inl rfl | exact Or.inr rfl) (pe_op op_sMod (pe_ix ix_s (pv 0) pe_int (fun _ _ => rfl)) (pv 1)))
  (pss_cons (ps_asg (pe_op op_sDiv (pe_ix ix_s (pv 0) pe_int (fun _ _ => rfl)) (pv 1)) (pg_sub (pv 0) pe_int set_list))
  (pss_one (ps_ret (pv 3)))))
  pss_nil)
  (pss_cons (ps_set (i := 4) sc_draw.nd rfl (by first | exact Or.inl rfl | exact Or.inr rfl) (pe_ix ix_s (pv 0) pe_int (fun _ _ => rfl)))
  (pss_cons (ps_asg (pe_op op_sMod (pe_op op_sAdd (pe_op op_sAdd (pe_op op_sMul (pv 4) (pe_op op_sAdd (pe_op op_sMod (pv 4) pe_int) pe_int)) (pe_op op_sMul (pv 4) pe_int)) pe_int) pe_int) (pg_sub (pv 0) pe_int set_list))
  (pss_one (ps_ret (pe_op op_sMod (pe_op op_sAdd (pe_op op_sDiv (pe_ix ix_s (pv 0) pe_int (fun _ _ => rfl)) pe_int) (pe_op op_sMul (pe_op op_sMod (pe_ix ix_s (pv 0) pe_int (fun _ _ => rfl)) pe_int) pe_int)) (pv 1))))))))), ?_⟩
    refine go [some (.ref r), some (.int m), none, none, none] rfl ?_
    try dsimp only [L2.cxOf]
    walk_at "sx"
    refine ⟨fun σ' H' => ∃ (i c sd : Int) (v : Option V), σ' = [some (.ref r), some (.int m), v, none, none] ∧ Kp r H H' ∧ H' r = some (.lst [.ref l, .int i, .int c, .int sd]) ∧ 0 ≤ i ∧ 0 ≤ c ∧ 0 ≤ sd ∧ sd < 2147483563, ?_, ?_⟩
    · walk_at "sx"
      refine z_ix (by walk_at "sq") (v := .int c) rfl ?_
      walk_at "sx"
      refine y_ite (fun c0 => ?_) (fun c0 => ?_)
      · walk_at "sx"
        refine z_ix (by walk_at "sq") (v := .int i) rfl ?_
        walk_at "sx"
        refine z_ix (by walk_at "sq") (v := .ref l) rfl ?_
        walk_at "sx"
        refine z_len (by walk_at "sq") ?_
        walk_at "sx"
        refine y_ite (fun c1 => ?_) (fun c1 => ?_)
        · walk_at "sx"
          refine z_ix (by walk_at "sq") (v := .ref l) rfl ?_
          walk_at "sx"
          refine z_ix (by walk_at "sq") (v := .int i) rfl ?_
          walk_at "sx"
          obtain ⟨y, hy, hat⟩ := atM hi c1
          obtain ⟨z, -, rfl⟩ := List.mem_map.mp hy
          refine z_ix (by walk_at "sq") hat ?_
          walk_at "sx"
          refine z_ix (by walk_at "sq") (v := .int i) rfl ?_
          walk_at "sx"
          refine z_setL (j := 1) (by walk_at "hp") rfl ?_
          walk_at "sx"
          refine z_pow ⟨by decide, by decide, by decide⟩ ?_
          walk_at "sx"
          refine y_ite (fun c2 => ?_) (fun c2 => ?_)
          · walk_at "sx"
            refine z_setL (j := 2) (by walk_at "hp") rfl ?_
            refine ⟨i + 1, z, sd, _, rfl, Kp.set.trans Kp.set, upd_same, by omega, ?_, hs0, hs1⟩
            have : (0 : Int) ≤ 10 ^ (18 : Int).toNat := by decide
            omega
          · walk_at "sx"
            refine z_ix (by walk_at "sq") (v := .int sd) rfl ?_
            walk_at "sx"
            refine z_setL (j := 3) (by walk_at "hp") rfl ?_
            exact ⟨i + 1, c, _, _, rfl, Kp.set.trans Kp.set, upd_same, by omega, hc, Int.emod_nonneg _ (by decide), Int.emod_lt_of_pos _ (by decide)⟩
        · walk_at "sx"
          exact ⟨i, c, sd, none, rfl, Kp.refl _ _, h1, hi, hc, hs0, hs1⟩
      · walk_at "sx"
        exact ⟨i, c, sd, none, rfl, Kp.refl _ _, h1, hi, hc, hs0, hs1⟩
    · clear h1 hi hc hs0 hs1
      rintro σ' H' ⟨i, c, sd, v, rfl, kp, h1, hi, hc, hs0, hs1⟩
      have h2' := kp _ _ h2 nlr
      walk_at "sx"
      refine z_ix (by walk_at "sq") (v := .int c) rfl ?_
      walk_at "sx"
      refine y_ite (fun c0 => ?_) (fun c0 => ?_)
      · walk_at "sx"
        refine z_ix (by walk_at "sq") (v := .int c) rfl ?_
        walk_at "sx"
        refine z_ix (by walk_at "sq") (v := .int c) rfl ?_
        walk_at "sx"
        refine z_setL (j := 2) (by walk_at "hp") rfl ?_
        walk_at "sx"
        refine k _ _ (Int.emod_nonneg _ (by omega)) (Int.emod_lt_of_pos _ hm) (kp.trans Kp.set) ⟨ns, i, c / m, sd, upd_same, ?_, nlr, hl, hi, Int.ediv_nonneg hc (by omega), hs0, hs1⟩
        rw [upd_ne nlr]
        exact h2'
      · walk_at "sx"
        refine z_ix (by walk_at "sq") (v := .int sd) rfl ?_
        walk_at "sx"
        refine z_setL (j := 3) (by walk_at "hp") rfl ?_
        walk_at "sx"
        refine z_ix (sq_l (sq_of upd_same)) (v := .int ((sd * (sd % 65521 + 7) + sd * 39373 + 80021) % 2147483563)) rfl ?_
        walk_at "sx"
        refine z_ix (sq_l (sq_of upd_same)) (v := .int ((sd * (sd % 65521 + 7) + sd * 39373 + 80021) % 2147483563)) rfl ?_
        walk_at "sx"
        refine k _ _ (Int.emod_nonneg _ (by omega)) (Int.emod_lt_of_pos _ hm) (kp.trans Kp.set) ⟨ns, i, c, _, upd_same, ?_, nlr, hl, hi, hc, Int.emod_nonneg _ (by decide), Int.emod_lt_of_pos _ (by decide)⟩
        rw [upd_ne nlr]
        exact h2'
end
end R

/-! # D2: the law's pick and its sameness -/
namespace R
open PySem PySem.Spec PyProof.Rows L2
section
variable {H : Hp} {Q : VK} {E : XK} {r l : Addr} {m : Int} {K : PySem.W.Frag}
theorem use_draw (h : Rng H r l) (k : ∀ (n : Int) (H' : Hp), 0 ≤ n → n < m → Kp r H H' → Rng H' r l → Q (.int n) H') (h0 : 0 < m := by omega) (h1 : m < 2 ^ 200 := by omega) : spDraw [.ref r, .int m] H Q E := ⟨r, l, m, rfl, h, h0, h1, k⟩
/-- pick(rng, items): one of the items -/
def spPick (K : PySem.W.Frag) : Sp := fun vs H Q _ => ∃ (r l : Addr) (x : V), vs = [.ref r, x] ∧ Rng H r l ∧
  ((∃ p xs, x = .ref p ∧ Sq K H p xs ∧ p ≠ r ∧ 0 < xs.length ∧ xs.length ≤ 1000000 ∧ ∀ (v : V) (H' : Hp), v ∈ xs → Kp r H H' → Rng H' r l → Q v H') ∨
   (∃ z : Str, x = .str z ∧ 0 < z.length ∧ z.length ≤ 1000000 ∧ ∀ (c : Nat) (H' : Hp), c ∈ z.cps.toList → Kp r H H' → Rng H' r l → Q (.str ⟨#[c]⟩) H'))
theorem use_pick {p : Addr} {xs : List V} (h : Rng H r l) (hs : Sq K H p xs) (n : p ≠ r) (k : ∀ (v : V) (H' : Hp), v ∈ xs → Kp r H H' → Rng H' r l → Q v H') (h0 : 0 < xs.length := by exact Nat.le_of_ble_eq_true rfl) (h1 : xs.length ≤ 1000000 := by exact Nat.le_of_ble_eq_true rfl) : spPick K [.ref r, .ref p] H Q E :=
  ⟨r, l, .ref p, rfl, h, .inl ⟨p, xs, rfl, hs, n, h0, h1, k⟩⟩
theorem use_pickS {z : Str} (h : Rng H r l) (k : ∀ (c : Nat) (H' : Hp), c ∈ z.cps.toList → Kp r H H' → Rng H' r l → Q (.str ⟨#[c]⟩) H') (h0 : 0 < z.length := by decide +kernel) (h1 : z.length ≤ 1000000 := by decide +kernel) : spPick K [.ref r, .str z] H Q E :=
  ⟨r, l, .str z, rfl, h, .inr ⟨z, rfl, h0, h1, k⟩⟩
end
/-- x and y are the same data, of a depth of at most n -/
inductive Sc : V → Prop
  | non : Sc .non
  | bl (b : Bool) : Sc (.bl b)
  | int (i : Int) : Sc (.int i)
  | str (s : Str) : Sc (.str s)
def Tre (K : PySem.W.Frag) (H : Hp) : Nat → V → V → Prop
  | 0, x, y => x = y ∧ Sc x
  | n + 1, x, y => (x = y ∧ Sc x) ∨ ∃ p q xs ys, x = .ref p ∧ y = .ref q ∧ ((SqL K H p xs ∧ SqL K H q ys) ∨ (SqT K H p xs ∧ SqT K H q ys)) ∧ (xs.length = ys.length ∧ xs.length ≤ 900000) ∧ ∀ (i : Nat) (a b : V), xs[i]? = some a → ys[i]? = some b → Tre K H n a b
theorem Tre.sc {K : PySem.W.Frag} {H : Hp} {x : V} (h : Sc x) : ∀ {n : Nat}, Tre K H n x x
  | 0 => ⟨rfl, h⟩
  | _ + 1 => .inl ⟨rfl, h⟩
theorem Tre.int {K : PySem.W.Frag} {H : Hp} {i j : Int} {n : Nat} (h : i = j) : Tre K H n (.int i) (.int j) := by
  subst h
  exact .sc (.int i)
theorem Tre.bl {K : PySem.W.Frag} {H : Hp} {i j : Bool} {n : Nat} (h : i = j) : Tre K H n (.bl i) (.bl j) := by
  subst h
  exact .sc (.bl i)
theorem Tre.ex {K : PySem.W.Frag} {H H' : Hp} (e : Ex H H') : ∀ {n : Nat} {x y : V}, Tre K H n x y → Tre K H' n x y
  | 0, _, _, h => h
  | n + 1, _, _, h => by
    rcases h with h | ⟨p, q, xs, ys, h1, h2, h3, h4, h5⟩
    · exact .inl h
    · exact .inr ⟨p, q, xs, ys, h1, h2, h3.imp (fun h => ⟨sq_ex e h.1, sq_ex e h.2⟩) (fun h => ⟨st_ex e h.1, st_ex e h.2⟩), h4, fun i a b ha hb => Tre.ex e (h5 i a b ha hb)⟩
theorem Tre.mono {K : PySem.W.Frag} {H : Hp} : ∀ {n m : Nat} {x y : V}, n ≤ m → Tre K H n x y → Tre K H m x y
  | 0, 0, _, _, _, h => h
  | 0, _ + 1, _, _, _, h => .inl h
  | _ + 1, 0, _, _, h, _ => absurd h (by omega)
  | n + 1, m + 1, _, _, l, h => by
    rcases h with h | ⟨p, q, xs, ys, h1, h2, h3, h4, h5⟩
    · exact .inl h
    · exact .inr ⟨p, q, xs, ys, h1, h2, h3, h4, fun i a b ha hb => Tre.mono (by omega) (h5 i a b ha hb)⟩
theorem Tre.lst {K : PySem.W.Frag} {H : Hp} {n : Nat} {p q : Addr} {xs ys : List V} (h1 : SqL K H p xs) (h2 : SqL K H q ys) (h3 : xs.length = ys.length) (h4 : xs.length ≤ 900000) (h : ∀ (i : Nat) (a b : V), xs[i]? = some a → ys[i]? = some b → Tre K H n a b) : Tre K H (n + 1) (.ref p) (.ref q) :=
  .inr ⟨p, q, xs, ys, rfl, rfl, .inl ⟨h1, h2⟩, ⟨h3, h4⟩, h⟩
theorem Tre.tup {K : PySem.W.Frag} {H : Hp} {n : Nat} {p q : Addr} {xs ys : List V} (h1 : SqT K H p xs) (h2 : SqT K H q ys) (h3 : xs.length = ys.length) (h4 : xs.length ≤ 900000) (h : ∀ (i : Nat) (a b : V), xs[i]? = some a → ys[i]? = some b → Tre K H n a b) : Tre K H (n + 1) (.ref p) (.ref q) :=
  .inr ⟨p, q, xs, ys, rfl, rfl, .inr ⟨h1, h2⟩, ⟨h3, h4⟩, h⟩
theorem tre_all {K : PySem.W.Frag} {H : Hp} {n : Nat} {xs : List V} (h : ∀ x ∈ xs, Sc x) : ∀ (i : Nat) (a b : V), xs[i]? = some a → xs[i]? = some b → Tre K H n a b := fun i a b ha hb => by
  rw [ha] at hb
  cases hb
  exact .sc (h _ (List.mem_of_getElem? ha))
def spSame (K : PySem.W.Frag) (n : Nat) : Sp := fun vs H Q _ => ∃ x y, vs = [x, y] ∧ Tre K H n x y ∧ ∀ H', Ex H H' → Q (.bl true) H'
theorem use_same {K : PySem.W.Frag} {n : Nat} {H : Hp} {Q : VK} {E : XK} {x y : V} (h : Tre K H n x y) (k : ∀ H', Ex H H' → Q (.bl true) H') : spSame K n [x, y] H Q E := ⟨x, y, rfl, h, k⟩
section
variable {P : Program} {w : World} {K : PySem.W.Frag} {mg : Str → Option Value} {base : Heap}
theorem ok_pick (T : Txt K mg) : Ok P w K mg base 2 T.pick (spPick K) := by
  refine ok_of T.pick sc_pick (fun vs H Q E h => ?_) (fun cdv A outer s H vs Q E hr h => ?_)
  · obtain ⟨r, l, x, rfl, _⟩ := h
    rfl
  · obtain ⟨r, l, x, rfl, hR, h⟩ := h
    refine ⟨_, ((pss_one (ps_ret (pe_ix ix_s (pv 1) (pcall T.draw (ok_draw T) (hr.mono (by omega)) passE (pa_cons (pv 0) (pa_cons (pe_callB call_sLen (by rfl) T.b_len (by decide +kernel) (pa_cons (pv 1) pa_nil)) pa_nil))) (fun _ _ => rfl))))), ?_⟩
    refine go [some (.ref r), some x] rfl ?_
    try dsimp only [L2.cxOf]
    rcases h with ⟨p, xs, rfl, hS, n, h0, h1, k⟩ | ⟨z, rfl, h0, h1, k⟩
    · walk_at "sx"
      refine z_len (by walk_at "sq") ?_
      walk_at "sx"
      refine use_draw hR fun m H' m0 m1 kp hR' => ?_
      obtain ⟨v, hv, hat⟩ := atM m0 m1
      refine z_ix (hS.imp (fun h => sq_kp kp h n) (fun h => st_kp kp h n)) hat ?_
      exact k v H' hv kp hR'
    · walk_at "sx"
      refine z_lenS (sz_of h1) ?_
      walk_at "sx"
      refine use_draw hR fun m H' m0 m1 kp hR' => ?_
      have e : z.length = z.cps.toList.length := by simp [Str.length]
      obtain ⟨c, hc, hat⟩ := atN (xs := z.cps.toList) m0 (by omega)
      refine z_ixS (sz_of h1) hat ?_
      exact k c H' (List.mem_of_getElem? hc) kp hR'
def spS (K : PySem.W.Frag) : Nat → Sp
  | 0 => fun _ _ _ _ => False
  | n + 1 => spSame K n
theorem spS_succ (n : Nat) : spS K (n + 1) = spSame K n := rfl
theorem step_same (T : Txt K mg) (n : Nat) (ih : Ok P w K mg base (n + 1) T.same (spS K n)) : Ok P w K mg base (n + 2) T.same (spSame K n) := by
  refine ok_of T.same sc_same (fun vs H Q E h => ?_) (fun cdv A outer s H vs Q E hr h => ?_)
  · obtain ⟨x, y, rfl, _⟩ := h
    rfl
  · obtain ⟨x, y, rfl, h, k⟩ := h
    have ok_same := fun (_ : Txt K mg) => ih
    refine ⟨_, ((pss_cons (ps_if (PW.pt (pw_or (pt_cmpR op_sIs (pv 1) pe_non (nomark _)) (pw_or1 (pt_cmpR op_sIs (pv 0) pe_non (nomark _)))))
  (pss_one (ps_ret (pe_and (pe_cmpR op_sIs (pv 0) pe_non (nomark _)) (pe_one (pe_cmpR op_sIs (pv 1) pe_non (nomark _))))))
  pss_nil)
  (pss_cons (ps_if (pt_val (pe_callB call_isiT (by rfl) T.b_isinstance (by decide +kernel) (pa_cons (pv 1) (pa_cons (pe_tup (pa_cons (pe_bltn (v := .ty "list") (by rfl) T.b_list (by decide +kernel) rfl) (pa_cons (pe_bltn (v := .ty "tuple") (by rfl) T.b_tuple (by decide +kernel) rfl) pa_nil))) pa_nil))))
  (pss_cons (ps_if (PW.pt (pw_or (pt_cmpR (op_sNe hr.units) (pe_callB call_isi (by rfl) T.b_isinstance (by decide +kernel) (pa_cons (pv 0) (pa_cons (pe_bltn (v := .ty "list") (by rfl) T.b_list (by decide +kernel) rfl) pa_nil))) (pe_callB call_isi (by rfl) T.b_isinstance (by decide +kernel) (pa_cons (pv 1) (pa_cons (pe_bltn (v := .ty "list") (by rfl) T.b_list (by decide +kernel) rfl) pa_nil))) (nomark _)) (pw_or1 (pt_cmpR (op_sNe hr.units) (pe_callB call_isi (by rfl) T.b_isinstance (by decide +kernel) (pa_cons (pv 0) (pa_cons (pe_bltn (v := .ty "tuple") (by rfl) T.b_tuple (by decide +kernel) rfl) pa_nil))) (pe_callB call_isi (by rfl) T.b_isinstance (by decide +kernel) (pa_cons (pv 1) (pa_cons (pe_bltn (v := .ty "tuple") (by rfl) T.b_tuple (by decide +kernel) rfl) pa_nil))) (nomark _)))))
  (pss_one (ps_ret pe_bl))
  pss_nil)
  (pss_one (ps_ret (pe_and (pe_cmpR (op_sEq hr.units) (pe_callB call_sLen (by rfl) T.b_len (by decide +kernel) (pa_cons (pv 0) pa_nil)) (pe_callB call_sLen (by rfl) T.b_len (by decide +kernel) (pa_cons (pv 1) pa_nil)) (nomark _)) (pe_one (pe_callB (call_sAll (by rfl)) (by rfl) T.b_all (by decide +kernel) (pa_cons (pe_lc (own := [("_law_one", 2), ("_law_other", 3)]) (g := (gTup K 2 (gCons (gName 2) (gCons (gName 3) gNil)))) (tt := tYes) (te := (tCall _ [] E0 (tCons (tVar 2) (tCons (tVar 3) tNil)))) (by rfl) sc_same.nd (RZ.pi_zipA (by rfl) T.b_zip (pa_cons (pv 0) (pa_cons (pv 1) pa_nil))) (blkOk_by (own := [("_law_one", 2), ("_law_other", 3)]) (N := N_same) (sc := defScope s_same) (by decide +kernel)) (fun _ _ _ _ _ => by exact (pg_tup rfl (pgs_cons (pg_name (i := 2) sc_same.nd rfl (by first | exact Or.inl rfl | exact Or.inr rfl)) (pgs_cons (pg_name (i := 3) sc_same.nd rfl (by first | exact Or.inl rfl | exact Or.inr rfl)) pgs_nil)))) (fun _ _ _ _ _ => by exact pts_nil) (fun _ _ _ _ _ => by exact (pcall T.same (ok_same T) (hr.mono (by omega)) passL (pa_cons (pv 2) (pa_cons (pv 3) pa_nil))))) pa_nil)))))))
  pss_nil)
  (pss_cons (ps_if (PW.pt (pw_or (pt_cmpR (op_sNe hr.units) (pe_callB call_isi (by rfl) T.b_isinstance (by decide +kernel) (pa_cons (pv 0) (pa_cons (pe_bltn (v := .ty "bool") (by rfl) T.b_bool (by decide +kernel) rfl) pa_nil))) (pe_callB call_isi (by rfl) T.b_isinstance (by decide +kernel) (pa_cons (pv 1) (pa_cons (pe_bltn (v := .ty "bool") (by rfl) T.b_bool (by decide +kernel) rfl) pa_nil))) (nomark _)) (pw_or1 (pt_cmpR (op_sNe hr.units) (pe_callB call_isi (by rfl) T.b_isinstance (by decide +kernel) (pa_cons (pv 0) (pa_cons (pe_bltn (v := .ty "int") (by rfl) T.b_int (by decide +kernel) rfl) pa_nil))) (pe_callB call_isi (by rfl) T.b_isinstance (by decide +kernel) (pa_cons (pv 1) (pa_cons (pe_bltn (v := .ty "int") (by rfl) T.b_int (by decide +kernel) rfl) pa_nil))) (nomark _)))))
  (pss_one (ps_ret pe_bl))
  pss_nil)
  (pss_one (ps_ret (pe_and (pe_cmpR (op_sEq hr.units) (pe_callB call_isi (by rfl) T.b_isinstance (by decide +kernel) (pa_cons (pv 0) (pa_cons (pe_bltn (v := .ty "str") (by rfl) T.b_str (by decide +kernel) rfl) pa_nil))) (pe_callB call_isi (by rfl) T.b_isinstance (by decide +kernel) (pa_cons (pv 1) (pa_cons (pe_bltn (v := .ty "str") (by rfl) T.b_str (by decide +kernel) rfl) pa_nil))) (nomark _)) (pe_one (pe_cmpR (op_sEq hr.units) (pv 0) (pv 1) (nomark _)))))))))), ?_⟩
    refine go [some x, some y, none, none] rfl ?_
    try dsimp only [L2.cxOf]
    have hc : (x = y ∧ Sc x) ∨ ∃ m, n = m + 1 ∧ ∃ p q xs ys, x = .ref p ∧ y = .ref q ∧ ((SqL K H p xs ∧ SqL K H q ys) ∨ (SqT K H p xs ∧ SqT K H q ys)) ∧ (xs.length = ys.length ∧ xs.length ≤ 900000) ∧ ∀ (i : Nat) (a b : V), xs[i]? = some a → ys[i]? = some b → Tre K H m a b := by
      cases n with
      | zero => exact .inl h
      | succ m => exact h.imp id fun h => ⟨m, rfl, h⟩
    rcases hc with ⟨rfl, hs⟩ | ⟨m, rfl, p, q, xs, ys, rfl, rfl, hq, hl, hrec⟩
    · cases hs with
      | non =>
        walk_at "sx"
        exact k _ (Same.refl _)
      | bl b =>
        walk_at "sx"
        refine z_tup fun p1 n1 => ?_
        walk_at "sx"
        refine z_isiT upd_same (.base (.bl b)) (by walk_at "ki") (by walk_at "ki") ?_
        walk_at "sx"
        walk_at "isi"
        walk_at "sx"
        walk_at "isi"
        walk_at "sx"
        walk_at "isi"
        walk_at "sx"
        walk_at "isi"
        walk_at "sx"
        walk_at "isi"
        walk_at "sx"
        walk_at "isi"
        walk_at "sx"
        rw [decide_eq_true rfl]
        exact k _ (Ex.new n1)
      | int i =>
        walk_at "sx"
        refine z_tup fun p1 n1 => ?_
        walk_at "sx"
        refine z_isiT upd_same (.base (.int i)) (by walk_at "ki") (by walk_at "ki") ?_
        walk_at "sx"
        walk_at "isi"
        walk_at "sx"
        walk_at "isi"
        walk_at "sx"
        walk_at "isi"
        walk_at "sx"
        walk_at "isi"
        walk_at "sx"
        walk_at "isi"
        walk_at "sx"
        walk_at "isi"
        walk_at "sx"
        rw [decide_eq_true rfl]
        exact k _ (Ex.new n1)
      | str z =>
        walk_at "sx"
        refine z_tup fun p1 n1 => ?_
        walk_at "sx"
        refine z_isiT upd_same (.base (.str z)) (by walk_at "ki") (by walk_at "ki") ?_
        walk_at "sx"
        walk_at "isi"
        walk_at "sx"
        walk_at "isi"
        walk_at "sx"
        walk_at "isi"
        walk_at "sx"
        walk_at "isi"
        walk_at "sx"
        walk_at "isi"
        walk_at "sx"
        walk_at "isi"
        walk_at "sx"
        rw [decide_eq_true rfl]
        exact k _ (Ex.new n1)
    · rcases hq with ⟨h1, h2⟩ | ⟨h1, h2⟩
      · walk_at "sx"
        refine z_tup fun p1 n1 => ?_
        walk_at "sx"
        have E1 := Ex.new (o := .tup [.ty "list", .ty "tuple"]) n1
        refine z_isiT upd_same (tyx_l (sq_ex E1 h2)) (by walk_at "ki") (by walk_at "ki") ?_
        walk_at "sx"
        walk_at "isi"
        walk_at "sx"
        walk_at "isi"
        walk_at "sx"
        walk_at "isi"
        walk_at "sx"
        walk_at "isi"
        walk_at "sx"
        refine z_len (by walk_at "sq") ?_
        walk_at "sx"
        refine z_len (by walk_at "sq") ?_
        walk_at "sx"
        refine y_yes (by omega) ?_
        walk_at "sx"
        refine z_zipL (sq_ex E1 h1) (sq_ex E1 h2) ?_
        intro D hD
        refine lc_it (n := xs.length) (walk_zip (xs := xs) (ys := ys) (by omega)) (LcP D fun i zs H' => Ex H H' ∧ zs = (List.replicate i true).map V.bl) (lc0 ⟨E1.trans (Ex.new hD), rfl⟩) (fun i H' hi ⟨zs, _, _, e, _⟩ => ⟨sq_ex e h1, sq_ex e h2⟩) ?_ ?_
        · rintro i x H1 H2 hi ⟨zs, hz, hzl, e, ez⟩ ⟨T1, a, b, rfl, hT, rfl, ha, hb⟩
          refine x_gtup (st_of upd_same) rfl ?_
          walk_at "sx"
          refine ⟨rfl, ?_⟩
          walk_at "sx"
          rw [spS_succ]
          refine use_same ((hrec i a b ha hb).ex (e.trans (Ex.new hT))) fun H3 e3 => ?_
          refine lc_put (e3 _ _ (Ex.new hT _ _ hz)) hzl hi hl.2 ⟨Ex.mut ((e.trans (Ex.new hT)).trans e3) (E1.none hD), ?_⟩
          rw [ez, ← List.map_singleton, ← List.map_append, ← List.replicate_succ']
        · rintro H1 ⟨zs, hz, _, e, ez⟩
          rw [ez] at hz
          walk_at "sx"
          refine z_all (sq_of hz) ?_
          have : (List.replicate xs.length true).all id = true := by simp
          rw [this]
          exact k _ e
      · walk_at "sx"
        refine z_tup fun p1 n1 => ?_
        walk_at "sx"
        have E1 := Ex.new (o := .tup [.ty "list", .ty "tuple"]) n1
        refine z_isiT upd_same (tyx_t (st_ex E1 h2)) (by walk_at "ki") (by walk_at "ki") ?_
        walk_at "sx"
        walk_at "isi"
        walk_at "sx"
        walk_at "isi"
        walk_at "sx"
        walk_at "isi"
        walk_at "sx"
        walk_at "isi"
        walk_at "sx"
        refine z_len (by walk_at "sq") ?_
        walk_at "sx"
        refine z_len (by walk_at "sq") ?_
        walk_at "sx"
        refine y_yes (by omega) ?_
        walk_at "sx"
        refine z_zipT (st_ex E1 h1) (st_ex E1 h2) ?_
        intro D hD
        refine lc_it (n := xs.length) (walk_zipT (xs := xs) (ys := ys) (by omega)) (LcP D fun i zs H' => Ex H H' ∧ zs = (List.replicate i true).map V.bl) (lc0 ⟨E1.trans (Ex.new hD), rfl⟩) (fun i H' hi ⟨zs, _, _, e, _⟩ => ⟨st_ex e h1, st_ex e h2⟩) ?_ ?_
        · rintro i x H1 H2 hi ⟨zs, hz, hzl, e, ez⟩ ⟨T1, a, b, rfl, hT, rfl, ha, hb⟩
          refine x_gtup (st_of upd_same) rfl ?_
          walk_at "sx"
          refine ⟨rfl, ?_⟩
          walk_at "sx"
          rw [spS_succ]
          refine use_same ((hrec i a b ha hb).ex (e.trans (Ex.new hT))) fun H3 e3 => ?_
          refine lc_put (e3 _ _ (Ex.new hT _ _ hz)) hzl hi hl.2 ⟨Ex.mut ((e.trans (Ex.new hT)).trans e3) (E1.none hD), ?_⟩
          rw [ez, ← List.map_singleton, ← List.map_append, ← List.replicate_succ']
        · rintro H1 ⟨zs, hz, _, e, ez⟩
          rw [ez] at hz
          walk_at "sx"
          refine z_all (sq_of hz) ?_
          have : (List.replicate xs.length true).all id = true := by simp
          rw [this]
          exact k _ e
theorem ok_same (T : Txt K mg) : ∀ n, Ok P w K mg base (n + 2) T.same (spSame K n)
  | 0 => step_same T 0 ⟨fun _ _ _ _ h => h.elim, fun _ _ _ _ _ _ _ _ _ _ _ _ _ h => h.elim⟩
  | n + 1 => step_same T (n + 1) (ok_same T n)
end
end R

/-! # the names -/
namespace R
open PySem PySem.Spec PyProof.Rows L2
def abc : Str := "abcdefghijklmnopqrstuvwxyz"
/-- the definition of a name -/
def isName (z : Str) : Bool := decide (1 ≤ (z.length : Int)) && (decide ((z.length : Int) ≤ 6) && (!decide (z = "id") && z.cps.toList.all fun c => decide (c ∈ abc.cps.toList)))
def spName : Sp := fun vs H Q _ => ∃ z : Str, vs = [.str z] ∧ z.length ≤ 20000 ∧ ∀ H', Ex H H' → Q (.bl (isName z)) H'
theorem use_name {z : Str} {H : Hp} {Q : VK} {E : XK} (h : z.length ≤ 20000) (k : ∀ H', Ex H H' → Q (.bl (isName z)) H') : spName [.str z] H Q E := ⟨z, rfl, h, k⟩
theorem name_no1 {z : Str} (h : ¬ (1 ≤ (z.length : Int))) : isName z = false := by
  unfold isName
  rw [decide_eq_false h, Bool.false_and]
theorem name_no2 {z : Str} (h : ¬ ((z.length : Int) ≤ 6)) : isName z = false := by
  unfold isName
  rw [decide_eq_false h, Bool.false_and, Bool.and_false]
theorem name_no3 {z : Str} (h : z = "id") : isName z = false := by
  unfold isName
  rw [decide_eq_true h, Bool.not_true, Bool.false_and, Bool.and_false, Bool.and_false]
theorem name_is {z : Str} (h1 : 1 ≤ (z.length : Int)) (h2 : (z.length : Int) ≤ 6) (h3 : ¬ z = "id") : isName z = z.cps.toList.all fun c => decide (c ∈ abc.cps.toList) := by
  unfold isName
  rw [decide_eq_true h1, decide_eq_true h2, decide_eq_false h3, Bool.true_and, Bool.true_and, Bool.not_false, Bool.true_and]
def spLetters : Sp := fun vs H Q _ => vs = [] ∧ Q (.str abc) H
section
variable {P : Program} {w : World} {K : PySem.W.Frag} {mg : Str → Option Value} {base : Heap}
theorem ok_letters (T : Txt K mg) : Ok P w K mg base 1 T.letters spLetters := by
  refine ok_of T.letters sc_letters (fun vs H Q E h => ?_) (fun cdv A outer s H vs Q E hr h => ?_)
  · obtain ⟨rfl, _⟩ := h
    rfl
  · obtain ⟨rfl, k⟩ := h
    refine ⟨_, ((pss_one (ps_ret pe_str))), ?_⟩
    refine go [] rfl ?_
    try dsimp only [L2.cxOf]
    walk_at "sx"
    exact k
theorem ok_is_name (T : Txt K mg) : Ok P w K mg base 2 T.is_name spName := by
  refine ok_of T.is_name sc_is_name (fun vs H Q E h => ?_) (fun cdv A outer s H vs Q E hr h => ?_)
  · obtain ⟨z, rfl, _⟩ := h
    rfl
  · obtain ⟨z, rfl, hz, k⟩ := h
    refine ⟨_, ((pss_one (ps_ret (pe_and (pe_chain op_sLe op_sLe pe_int (pe_callB call_sLen (by rfl) T.b_len (by decide +kernel) (pa_cons (pv 0) pa_nil)) pe_int) (pe_and (pe_cmpR (op_sNe hr.units) (pv 0) pe_str (nomark _)) (pe_one (pe_callB (call_sAll (by rfl)) (by rfl) T.b_all (by decide +kernel) (pa_cons (pe_lc (own := [("_law_char", 1)]) (g := (gName 1)) (tt := tYes) (te := (tOp (sIn K) (tVar 1) (tCall _ [] E0 tNil))) (by rfl) sc_is_name.nd (pi_s (pv 0)) (blkOk_by (own := [("_law_char", 1)]) (N := N_is_name) (sc := defScope s_is_name) (by decide +kernel)) (fun _ _ _ _ _ => by exact (pg_name (i := 1) sc_is_name.nd rfl (by first | exact Or.inl rfl | exact Or.inr rfl))) (fun _ _ _ _ _ => by exact pts_nil) (fun _ _ _ _ _ => by exact (pe_cmpR op_sIn (pv 1) (pcall0 T.letters (ok_letters T) (hr.mono (by omega)) passL) (by rfl)))) pa_nil)))))))), ?_⟩
    refine go [some (.str z), none] rfl ?_
    try dsimp only [L2.cxOf]
    walk_at "sx"
    refine z_lenS (sz_of (by omega)) ?_
    walk_at "sx"
    refine y_ite (fun c1 => ?_) (fun c1 => ?_)
    · walk_at "sx"
      refine y_ite (fun c2 => ?_) (fun c2 => ?_)
      · walk_at "sx"
        refine y_iteN (fun c3 => ?_) (fun c3 => ?_)
        · walk_at "sx"
          refine z_sS ?_
          intro D hD
          refine lc_it (n := z.cps.size) walk_str (LcP D fun i zs H' => Ex H H' ∧ zs = ((z.cps.toList.take i).map fun c => decide (c ∈ abc.cps.toList)).map V.bl) (lc0 ⟨Ex.new hD, rfl⟩) (fun i H' hi _ => trivial) ?_ ?_
          · rintro i x H1 H2 hi ⟨zs, hz1, hzl, e, ez⟩ ⟨rfl, c, hc, rfl⟩
            walk_at "sx"
            refine ⟨rfl, ?_⟩
            walk_at "sx"
            refine ⟨rfl, ?_⟩
            refine z_inS ?_
            refine lc_put hz1 hzl hi (by have : z.length = z.cps.size := rfl; omega) ⟨Ex.mut e hD, ?_⟩
            have hc' : z.cps.toList[i]? = some c := by
              rw [Array.getElem?_toList]
              exact hc
            rw [ez, List.take_add_one, hc', List.map_append, List.map_append]
            rfl
          · rintro H1 ⟨zs, hz1, hzl, e, ez⟩
            have : z.cps.toList.take z.cps.size = z.cps.toList := List.take_of_length_le (by simp)
            rw [this] at ez
            rw [ez] at hz1
            walk_at "sx"
            refine z_all (sq_of hz1) ?_
            have := k H1 e
            rw [name_is c1 c2 c3] at this
            rw [List.all_map]
            exact this
        · walk_at "sx"
          have := k H (Same.refl _)
          rw [name_no3 c3] at this
          exact this
      · walk_at "sx"
        have := k H (Same.refl _)
        rw [name_no2 c2] at this
        exact this
    · walk_at "sx"
      have := k H (Same.refl _)
      rw [name_no1 c1] at this
      exact this
theorem ok_is_valid_name (T : Txt K mg) : Ok P w K mg base 1 T.is_valid_name spName := by
  refine ok_of T.is_valid_name sc_is_valid_name (fun vs H Q E h => ?_) (fun cdv A outer s H vs Q E hr h => ?_)
  · obtain ⟨z, rfl, _⟩ := h
    rfl
  · obtain ⟨z, rfl, hz, k⟩ := h
    refine ⟨_, ((pss_one (ps_ret (pe_and (pe_chain op_sLe op_sLe pe_int (pe_callB call_sLen (by rfl) T.b_len (by decide +kernel) (pa_cons (pv 0) pa_nil)) (pglob T.c_MAX_NAME (by rfl))) (pe_and (pe_cmpR (op_sNe hr.units) (pv 0) (pglob T.c_IDENTITY (by rfl)) (nomark _)) (pe_one (pe_callB (call_sAll (by rfl)) (by rfl) T.b_all (by decide +kernel) (pa_cons (pe_lc (own := [("char", 1)]) (g := (gName 1)) (tt := tYes) (te := (tOp (sIn K) (tVar 1) (tC _))) (by rfl) sc_is_valid_name.nd (pi_s (pv 0)) (blkOk_by (own := [("char", 1)]) (N := N_is_valid_name) (sc := defScope s_is_valid_name) (by decide +kernel)) (fun _ _ _ _ _ => by exact (pg_name (i := 1) sc_is_valid_name.nd rfl (by first | exact Or.inl rfl | exact Or.inr rfl))) (fun _ _ _ _ _ => by exact pts_nil) (fun _ _ _ _ _ => by exact (pe_cmpR op_sIn (pv 1) (pglob T.c_LETTERS (by rfl)) (by rfl)))) pa_nil)))))))), ?_⟩
    refine go [some (.str z), none] rfl ?_
    try dsimp only [L2.cxOf]
    walk_at "sx"
    refine z_lenS (sz_of (by omega)) ?_
    walk_at "sx"
    refine y_ite (fun c1 => ?_) (fun c1 => ?_)
    · walk_at "sx"
      refine y_ite (fun c2 => ?_) (fun c2 => ?_)
      · walk_at "sx"
        refine y_iteN (fun c3 => ?_) (fun c3 => ?_)
        · walk_at "sx"
          refine z_sS ?_
          intro D hD
          refine lc_it (n := z.cps.size) walk_str (LcP D fun i zs H' => Ex H H' ∧ zs = ((z.cps.toList.take i).map fun c => decide (c ∈ abc.cps.toList)).map V.bl) (lc0 ⟨Ex.new hD, rfl⟩) (fun i H' hi _ => trivial) ?_ ?_
          · rintro i x H1 H2 hi ⟨zs, hz1, hzl, e, ez⟩ ⟨rfl, c, hc, rfl⟩
            walk_at "sx"
            refine ⟨rfl, ?_⟩
            walk_at "sx"
            refine z_inS ?_
            refine lc_put hz1 hzl hi (by have : z.length = z.cps.size := rfl; omega) ⟨Ex.mut e hD, ?_⟩
            have hc' : z.cps.toList[i]? = some c := by
              rw [Array.getElem?_toList]
              exact hc
            rw [ez, List.take_add_one, hc', List.map_append, List.map_append]
            rfl
          · rintro H1 ⟨zs, hz1, hzl, e, ez⟩
            have : z.cps.toList.take z.cps.size = z.cps.toList := List.take_of_length_le (by simp)
            rw [this] at ez
            rw [ez] at hz1
            walk_at "sx"
            refine z_all (sq_of hz1) ?_
            have := k H1 e
            rw [name_is c1 c2 c3] at this
            rw [List.all_map]
            exact this
        · walk_at "sx"
          have := k H (Same.refl _)
          rw [name_no3 c3] at this
          exact this
      · walk_at "sx"
        have := k H (Same.refl _)
        rw [name_no2 c2] at this
        exact this
    · walk_at "sx"
      have := k H (Same.refl _)
      rw [name_no1 c1] at this
      exact this
end
end R

/-! # law k51 -/
namespace R
open PySem PySem.Spec PyProof.Rows L2
def spLaw (K : PySem.W.Frag) : Sp := fun vs H Q _ => ∃ (a : Addr) (ns : List Int), vs = [.ref a] ∧ SqL K H a (ns.map V.int) ∧ ∀ H', Q (.bl true) H'
section
variable {P : Program} {w : World} {K : PySem.W.Frag} {mg : Str → Option Value} {base : Heap}
theorem ok_law (T : Txt K mg) : Ok P w K mg base 6 T.law (spLaw K) := by
  refine ok_of T.law sc_law (fun vs H Q E h => ?_) (fun cdv A outer s H vs Q E hr h => ?_)
  · obtain ⟨a, ns, rfl, _⟩ := h
    rfl
  · obtain ⟨a, ns, rfl, hS, k⟩ := h
    have ok_same := fun (T : Txt K mg) => ok_same (P := P) (w := w) (base := base) T 1
    refine ⟨_, ((pss_cons (ps_set (i := 1) sc_law.nd rfl (by first | exact Or.inl rfl | exact Or.inr rfl) (pcall T.source (ok_source T) (hr.mono (by omega)) passE (pa_cons (pv 0) pa_nil)))
  (pss_cons (ps_for ownE rfl (pi_range1 (by rfl) T.b_range (pa_cons pe_int pa_nil)) (pg_name (i := 2) sc_law.nd rfl (by first | exact Or.inl rfl | exact Or.inr rfl))
  (pss_cons (ps_set (i := 3) sc_law.nd rfl (by first | exact Or.inl rfl | exact Or.inr rfl) (pjoin pe_str (pe_lc (own := [("_law_k", 4)]) (g := (gName 4)) (tt := tYes) (te := (tCall _ [] E0 (tCons (tVar 1) (tCons (tCall _ [] E0 tNil) tNil)))) (by rfl) sc_law.nd (pi_range1 (by rfl) T.b_range (pa_cons (pcall T.draw (ok_draw T) (hr.mono (by omega)) passE (pa_cons (pv 1) (pa_cons pe_int pa_nil))) pa_nil)) (blkOk_by (own := [("_law_k", 4)]) (N := N_law) (sc := defScope s_law) (by decide +kernel)) (fun _ _ _ _ _ => by exact (pg_name (i := 4) sc_law.nd rfl (by first | exact Or.inl rfl | exact Or.inr rfl))) (fun _ _ _ _ _ => by exact pts_nil) (fun _ _ _ _ _ => by exact (pcall T.pick (ok_pick T) (hr.mono (by omega)) passL (pa_cons (pv 1) (pa_cons (pcall0 T.letters (ok_letters T) (hr.mono (by omega)) passL) pa_nil)))))))
  (pss_cons (ps_set (i := 3) sc_law.nd rfl (by first | exact Or.inl rfl | exact Or.inr rfl) (pcall T.pick (ok_pick T) (hr.mono (by omega)) passE (pa_cons (pv 1) (pa_cons (pe_lst (pa_cons (pv 3) (pa_cons (pv 3) (pa_cons pe_str (pa_cons pe_str (pa_cons pe_str (pa_cons pe_str (pa_cons pe_str (pa_cons pe_str pa_nil))))))))) pa_nil))))
  (C8.pss_cut (ps_if (pt_cmpR (op_sEq hr.units) (pcall T.draw (ok_draw T) (hr.mono (by omega)) passE (pa_cons (pv 1) (pa_cons pe_int pa_nil))) pe_int (nomark _))
  (pss_cons (ps_set (i := 5) sc_law.nd rfl (by first | exact Or.inl rfl | exact Or.inr rfl) (pcall T.draw (ok_draw T) (hr.mono (by omega)) passE (pa_cons (pv 1) (pa_cons (pe_op op_sAdd (pe_callB call_sLen (by rfl) T.b_len (by decide +kernel) (pa_cons (pv 3) pa_nil)) pe_int) pa_nil))))
  (pss_cons (ps_set (i := 6) sc_law.nd rfl (by first | exact Or.inl rfl | exact Or.inr rfl) (pcall T.pick (ok_pick T) (hr.mono (by omega)) passE (pa_cons (pv 1) (pa_cons (pe_lst (pa_cons pe_str (pa_cons pe_str (pa_cons pe_str (pa_cons pe_str (pa_cons pe_str (pa_cons pe_str (pa_cons pe_str (pa_cons pe_str (pa_cons pe_str pa_nil)))))))))) pa_nil))))
  (pss_one (ps_set (i := 3) sc_law.nd rfl (by first | exact Or.inl rfl | exact Or.inr rfl) (pe_op op_sAdd (pe_op op_sAdd (pe_slice sl_s (pv 3) po_none (po_some (pv 5))) (pv 6)) (pe_slice sl_s (pv 3) (po_some (pe_op op_sAdd (pv 5) pe_int)) po_none))))))
  pss_nil)
  (pss_one (ps_if (pt_not (pt_val (pcall T.same (ok_same T) (hr.mono (by omega)) passE (pa_cons (pcall T.is_valid_name (ok_is_valid_name T) (hr.mono (by omega)) passE (pa_cons (pv 3) pa_nil)) (pa_cons (pcall T.is_name (ok_is_name T) (hr.mono (by omega)) passE (pa_cons (pv 3) pa_nil)) pa_nil)))))
  (pss_one (ps_ret pe_bl))
  pss_nil))))))
  (pss_one (ps_ret (pcall T.same (ok_same T) (hr.mono (by omega)) passE (pa_cons (pe_lst (pa_cons (pcall T.is_valid_name (ok_is_valid_name T) (hr.mono (by omega)) passE (pa_cons pe_str pa_nil)) (pa_cons (pcall T.is_valid_name (ok_is_valid_name T) (hr.mono (by omega)) passE (pa_cons pe_str pa_nil)) (pa_cons (pcall T.is_valid_name (ok_is_valid_name T) (hr.mono (by omega)) passE (pa_cons pe_str pa_nil)) pa_nil)))) (pa_cons (pe_lst (pa_cons pe_bl (pa_cons pe_bl (pa_cons pe_bl pa_nil)))) pa_nil)))))))), ?_⟩
    refine go [some (.ref a), none, none, none, none, none, none] rfl ?_
    try dsimp only [L2.cxOf]
    walk_at "sx"
    refine ⟨a, ns, rfl, hS, fun H1 r l e1 nr nl R1 => ?_⟩
    walk_at "sx"
    refine z_r1 (by decide) (by decide) ?_
    refine for_it walk_range (fun i σ H' => Rng H' r l ∧ ∃ t x u v, σ = [some (.ref a), some (.ref r), t, x, none, u, v]) ⟨R1, _, _, _, _, rfl⟩ (fun _ _ _ _ _ => trivial) ?_ ?_
    · rintro i y σ H2 _ hi ⟨R2, t, x, u, v, rfl⟩ ⟨rfl, rfl⟩
      walk_at "sx"
      refine use_draw R2 fun n H3 n0 n1 k3 R3 => ?_
      walk_at "sx"
      refine z_r1 (by omega) (by omega) ?_
      intro D hD
      have nD := R3.ne hD
      have mD := R3.nel hD
      refine lc_it (n := n.toNat) walk_range (LcP D fun i zs H' => Rng H' r l ∧ ∃ cs : List Str, cs.length = i ∧ (cs.map (·.length)).sum ≤ i ∧ zs = cs.map V.str) (lc0 ⟨R3.ex (Ex.new hD), [], rfl, Nat.le_refl _, rfl⟩) (fun _ _ _ _ => trivial) ?_ ?_
      · rintro i x H4 _ hi ⟨zs, hz1, hzl, R4, cs, hcs, hcl, ez⟩ ⟨rfl, rfl⟩
        walk_at "sx"
        refine ⟨rfl, ?_⟩
        walk_at "sx"
        refine ⟨rfl, ?_⟩
        walk_at "sx"
        refine use_pickS R4 fun c H5 hc k5 R5 => ?_
        refine lc_put (k5 _ _ hz1 nD) hzl hi (by omega) ⟨R5.upd nD mD, cs ++ [⟨#[c]⟩], by simp [hcs], ?_, by rw [ez]; simp⟩
        rw [List.map_append, List.sum_append]
        show _ + 1 ≤ _
        omega
      · rintro H4 ⟨zs, hz1, hzl, R4, cs, hcs, hcl, ez⟩
        rw [ez] at hz1
        have nj : (Txt.join (Str.ofString "") cs).length ≤ 9 := by
          have := join_len (Str.ofString "") cs
          have e0 : (Str.ofString "").length = 0 := by decide +kernel
          rw [e0] at this
          omega
        refine z_join (sq_l (sq_of hz1)) (by have e0 : (Str.ofString "").length = 0 := by decide +kernel
                                             rw [e0]; omega) ?_
        generalize Txt.join (Str.ofString "") cs = z at nj
        walk_at "sx"
        refine z_lst fun p5 n5 => ?_
        walk_at "sx"
        refine use_pick (R4.ex (Ex.new n5)) (by walk_at "sq") (R4.ne n5) fun x5 H5 hx k5 R5 => ?_
        obtain ⟨z5, rfl, hz5⟩ : ∃ z5 : Str, x5 = .str z5 ∧ z5.length ≤ 9 := by
          simp only [List.mem_cons, List.not_mem_nil, or_false] at hx
          rcases hx with rfl | rfl | rfl | rfl | rfl | rfl | rfl | rfl <;> exact ⟨_, rfl, by first | exact nj | decide +kernel⟩
        walk_at "sx"
        refine ⟨fun σ' H' => Rng H' r l ∧ ∃ (z6 : Str) (t u v : Option V), σ' = [some (.ref a), some (.ref r), t, some (.str z6), none, u, v] ∧ z6.length ≤ 20, ?_, ?_⟩
        · walk_at "sx"
          refine use_draw R5 fun n6 H6 _ _ _ R6 => ?_
          walk_at "sx"
          refine y_ite (fun c6 => ?_) (fun c6 => ?_)
          · walk_at "sx"
            refine z_lenS (sz_of (by omega)) ?_
            walk_at "sx"
            refine use_draw R6 fun n7 H7 _ _ _ R7 => ?_
            walk_at "sx"
            refine z_lst fun p8 n8 => ?_
            walk_at "sx"
            refine use_pick (R7.ex (Ex.new n8)) (by walk_at "sq") (R7.ne n8) fun x8 H8 hx8 k8 R8 => ?_
            obtain ⟨z8, rfl, hz8⟩ : ∃ z8 : Str, x8 = .str z8 ∧ z8.length ≤ 1 := by
              simp only [List.mem_cons, List.not_mem_nil, or_false] at hx8
              rcases hx8 with rfl | rfl | rfl | rfl | rfl | rfl | rfl | rfl | rfl <;> exact ⟨_, rfl, by decide +kernel⟩
            walk_at "sx"
            have l1 := Txt.slice_le z5 none (some n7)
            have l2 := Txt.slice_le z5 (some (n7 + 1)) none
            refine z_slS (sz_of (by omega)) ?_
            walk_at "sx"
            refine z_addS (sz_of (by omega)) ?_
            walk_at "sx"
            refine z_slS (sz_of (by omega)) ?_
            refine z_addS (sz_of (by rw [app_len]; omega)) ?_
            walk_at "sx"
            exact ⟨R8, _, _, _, _, rfl, by rw [app_len, app_len]; omega⟩
          · walk_at "sx"
            exact ⟨R6, _, _, _, _, rfl, by omega⟩
        · rintro σ' H6 ⟨R6, z6, t, u, v, rfl, h6⟩
          walk_at "sx"
          refine use_name (by omega) fun H7 e7 => ?_
          walk_at "sx"
          refine use_name (by omega) fun H8 e8 => ?_
          walk_at "sx"
          refine use_same (.bl rfl) fun H9 e9 => ?_
          walk_at "sx"
          exact ⟨((R6.ex e7).ex e8).ex e9, _, _, _, _, rfl⟩
    · rintro σ H2 ⟨R2, t, x, u, v, rfl⟩
      walk_at "sx"
      refine use_name (by decide +kernel) fun H7 e7 => ?_
      walk_at "sx"
      refine use_name (by decide +kernel) fun H8 e8 => ?_
      walk_at "sx"
      refine use_name (by decide +kernel) fun H9 e9 => ?_
      walk_at "sx"
      refine z_lst fun p1 n1 => ?_
      walk_at "sx"
      refine z_lst fun p2 n2 => ?_
      walk_at "sx"
      have i1 : isName (Str.ofString "abcdef") = true := by decide +kernel
      have i2 : isName (Str.ofString "abcdefg") = false := by decide +kernel
      have i3 : isName (Str.ofString "") = false := by decide +kernel
      rw [i1, i2, i3]
      rw [i1, i2, i3] at n2
      refine use_same (.lst (by walk_at "sl") (by walk_at "sl") rfl (by decide) (tre_all ?_)) fun H10 e10 => ?_
      · intro x hx
        simp only [List.mem_cons, List.not_mem_nil, or_false] at hx
        rcases hx with rfl | rfl | rfl <;> exact .bl _
      · exact k H10
end
end R

/-! # E: the end -/
namespace R
open PySem PySem.Spec PyProof.Rows L2
theorem df_ex {K : PySem.W.Frag} {h : Heap} {mg : Str → Option Value} (X : K.In h) (G : h.Ns mainGlobals mg) {x : Str} {st : Stmt} {ps : List Str} {f : Addr} {od an : Option Addr} {sl : Array (Option Value)} {oc kV dc pm cd ct : Value}
    (a : PySem.W.nsIn K mainGlobals x = some (some (.ref f))) (l : K.lookup f = some ⟨oc, od, .func (PySem.W.fnOf x x (defArgs st) (defBody st) (defScope st) .none kV dc pm an cd ct), sl⟩) (c : PySem.W.codeIn K cd x = true) (k : PySem.W.keepIn K (.ref f) = true)
    (hb : ∀ (kV doc pm : Value) (an : Option Addr) (cdv ct : Value) (us : List Value), us.length = ps.length → bindArgs (PySem.W.fnOf x x (defArgs st) (defBody st) (defScope st) .none kV doc pm an cdv ct) ⟨us, []⟩ = pure (ps.zip us)) : Nonempty (DF K mg x st ps) :=
  ⟨⟨f, _, fun_mk l c k, PySem.W.mg_of X G a, (fun_mk l c k).binds hb⟩⟩
theorem gv_ex {K : PySem.W.Frag} {h : Heap} {mg : Str → Option Value} (X : K.In h) (G : h.Ns mainGlobals mg) {x : Str} {v : V} {u : Value} (a : PySem.W.nsIn K mainGlobals x = some (some u)) (r : RelV v u) : GV mg x v := ⟨u, PySem.W.mg_of X G a, r⟩
theorem walk {l : PySem.W.OpenLaw} {q : Program} {loose : List Str} {XP : (Str → Option Value) → Heap → Prop} {YP : World → Heap → Prop} {d : DefRec} {K : Params → PySem.W.Frag} {k : Nat} (hn : l.most = some 63) (hdf : d.params.defaults = []) (hr : Room k callerA)
    (hY : ∀ (w : World) (h : Heap), YP w h → (K w.params).In h)
    (F : ∀ (w : World) (mg : Str → Option Value) (fa : Addr) (h : Heap), (K w.params).In h → h.Ns mainGlobals mg → mg d.name = some (.ref fa) →
      ∃ T : Txt (K w.params) mg, mg d.name = some (.ref T.law.f) ∧ (∀ (s : Shared) (u : Value), BindsTo s T.law.fd ⟨[u], []⟩ [("_law_script", u)]) ∧ ∀ base : Heap, Ok l.prog w (K w.params) mg base k T.law (spLaw (K w.params))) :
    PySem.W.WalkO q loose XP YP l.row.toRowW d [] (fun f vs => PySem.call f vs) :=
  L2.walk_of (n := 63) (k := k) (x := "_law_script") (CX := fun w => L2.CX l.prog w) (sp := fun w => spLaw (K w.params)) hn (by decide) hdf hr hY
    (fun w mg fa h X G hfa => by
      obtain ⟨T, e, hb, hF⟩ := F w mg fa h X G hfa
      have e2 := e.symm.trans hfa
      have e3 : T.law.f = fa := by
        injection e2 with e2
        injection e2
      refine ⟨T.law.fd, hb, fun base _ _ => ?_⟩
      rw [← e3]
      exact hF base)
    (fun _ _ a ns _ _ hS => ⟨a, ns, rfl, hS, fun _ => rfl⟩) fun _ _ _ _ _ h => by
      obtain ⟨_, _, _, _, _, _, _, _, _, _, _, _, z⟩ := h
      exact z.elim
end R

open PySem PySem.W PyProof.Rows in
set_option maxRecDepth 100000 in
set_option maxHeartbeats 0 in
theorem PySem.Challenge.cw_rowring_k51_names_holds : PySem.Challenge.rw_rowring_k51_names.Holds := by
  w_on; o_law; k_head; (case hw => w_witness2)
  k_fill
  refine R.walk (l := PySem.Challenge.rw_rowring_k51_names) (k := 6) rfl rfl ⟨rfl, by decide, by decide⟩ (fun w h Y => PySem.W.kIn_of Y) ?F
  case F =>
    intro w mg fa h KX G hmg
    have b_all : mg "all" = none := by
      refine' PySem.W.mg_none_of KX G ?ab_all
      (case ab_all => k_is)
    have b_bool : mg "bool" = none := by
      refine' PySem.W.mg_none_of KX G ?ab_bool
      (case ab_bool => k_is)
    have b_int : mg "int" = none := by
      refine' PySem.W.mg_none_of KX G ?ab_int
      (case ab_int => k_is)
    have b_isinstance : mg "isinstance" = none := by
      refine' PySem.W.mg_none_of KX G ?ab_isinstance
      (case ab_isinstance => k_is)
    have b_len : mg "len" = none := by
      refine' PySem.W.mg_none_of KX G ?ab_len
      (case ab_len => k_is)
    have b_list : mg "list" = none := by
      refine' PySem.W.mg_none_of KX G ?ab_list
      (case ab_list => k_is)
    have b_range : mg "range" = none := by
      refine' PySem.W.mg_none_of KX G ?ab_range
      (case ab_range => k_is)
    have b_str : mg "str" = none := by
      refine' PySem.W.mg_none_of KX G ?ab_str
      (case ab_str => k_is)
    have b_tuple : mg "tuple" = none := by
      refine' PySem.W.mg_none_of KX G ?ab_tuple
      (case ab_tuple => k_is)
    have b_zip : mg "zip" = none := by
      refine' PySem.W.mg_none_of KX G ?ab_zip
      (case ab_zip => k_is)
    have c_LETTERS : R.GV mg "LETTERS" (.str "abcdefghijklmnopqrstuvwxyz") := by
      refine' R.gv_ex KX G ?ac_LETTERS ?rc_LETTERS
      (case ac_LETTERS => k_is)
      (case rc_LETTERS => exact ⟨_, rfl⟩)
    have c_IDENTITY : R.GV mg "IDENTITY" (.str "id") := by
      refine' R.gv_ex KX G ?ac_IDENTITY ?rc_IDENTITY
      (case ac_IDENTITY => k_is)
      (case rc_IDENTITY => exact ⟨_, rfl⟩)
    have c_MAX_NAME : R.GV mg "MAX_NAME" (.int 6) := by
      refine' R.gv_ex KX G ?ac_MAX_NAME ?rc_MAX_NAME
      (case ac_MAX_NAME => k_is)
      (case rc_MAX_NAME => exact ⟨_, rfl⟩)
    obtain ⟨d_is_valid_name⟩ : Nonempty (R.DF _ mg "is_valid_name" R.s_is_valid_name R.P_is_valid_name) := by
      refine' R.df_ex KX G ?a_is_valid_name ?l_is_valid_name ?c_is_valid_name ?k_is_valid_name ?b_is_valid_name
      (case a_is_valid_name => k_is); (case l_is_valid_name => k_is); (case c_is_valid_name => k_is); (case k_is_valid_name => k_is)
      (case b_is_valid_name => exact fun _ _ _ _ _ _ us hl => match us, hl with | [_], _ => rfl)
    obtain ⟨d_source⟩ : Nonempty (R.DF _ mg "_law_source" R.s_source R.P_source) := by
      refine' R.df_ex KX G ?a_source ?l_source ?c_source ?k_source ?b_source
      (case a_source => k_is); (case l_source => k_is); (case c_source => k_is); (case k_source => k_is)
      (case b_source => exact fun _ _ _ _ _ _ us hl => match us, hl with | [_], _ => rfl)
    obtain ⟨d_draw⟩ : Nonempty (R.DF _ mg "_law_draw" R.s_draw R.P_draw) := by
      refine' R.df_ex KX G ?a_draw ?l_draw ?c_draw ?k_draw ?b_draw
      (case a_draw => k_is); (case l_draw => k_is); (case c_draw => k_is); (case k_draw => k_is)
      (case b_draw => exact fun _ _ _ _ _ _ us hl => match us, hl with | [_, _], _ => rfl)
    obtain ⟨d_pick⟩ : Nonempty (R.DF _ mg "_law_pick" R.s_pick R.P_pick) := by
      refine' R.df_ex KX G ?a_pick ?l_pick ?c_pick ?k_pick ?b_pick
      (case a_pick => k_is); (case l_pick => k_is); (case c_pick => k_is); (case k_pick => k_is)
      (case b_pick => exact fun _ _ _ _ _ _ us hl => match us, hl with | [_, _], _ => rfl)
    obtain ⟨d_same⟩ : Nonempty (R.DF _ mg "_law_same" R.s_same R.P_same) := by
      refine' R.df_ex KX G ?a_same ?l_same ?c_same ?k_same ?b_same
      (case a_same => k_is); (case l_same => k_is); (case c_same => k_is); (case k_same => k_is)
      (case b_same => exact fun _ _ _ _ _ _ us hl => match us, hl with | [_, _], _ => rfl)
    obtain ⟨d_letters⟩ : Nonempty (R.DF _ mg "_law_letters" R.s_letters R.P_letters) := by
      refine' R.df_ex KX G ?a_letters ?l_letters ?c_letters ?k_letters ?b_letters
      (case a_letters => k_is); (case l_letters => k_is); (case c_letters => k_is); (case k_letters => k_is)
      (case b_letters => exact fun _ _ _ _ _ _ us hl => match us, hl with | [], _ => rfl)
    obtain ⟨d_is_name⟩ : Nonempty (R.DF _ mg "_law_is_name" R.s_is_name R.P_is_name) := by
      refine' R.df_ex KX G ?a_is_name ?l_is_name ?c_is_name ?k_is_name ?b_is_name
      (case a_is_name => k_is); (case l_is_name => k_is); (case c_is_name => k_is); (case k_is_name => k_is)
      (case b_is_name => exact fun _ _ _ _ _ _ us hl => match us, hl with | [_], _ => rfl)
    obtain ⟨d_law⟩ : Nonempty (R.DF _ mg "law" R.s_law R.P_law) := by
      refine' R.df_ex KX G ?a_law ?l_law ?c_law ?k_law ?b_law
      (case a_law => k_is); (case l_law => k_is); (case c_law => k_is); (case k_law => k_is)
      (case b_law => exact fun _ _ _ _ _ _ us hl => match us, hl with | [_], _ => rfl)
    refine ⟨{ b_all := b_all, b_bool := b_bool, b_int := b_int, b_isinstance := b_isinstance, b_len := b_len, b_list := b_list, b_range := b_range, b_str := b_str, b_tuple := b_tuple, b_zip := b_zip, c_LETTERS := c_LETTERS, c_IDENTITY := c_IDENTITY, c_MAX_NAME := c_MAX_NAME, is_valid_name := d_is_valid_name, source := d_source, draw := d_draw, pick := d_pick, same := d_same, letters := d_letters, is_name := d_is_name, law := d_law }, d_law.g, fun s u => ?_, fun base => R.ok_law _⟩
    obtain ⟨_, _, _, _, _, _, _, _, _, e, _⟩ := d_law.F.ex
    show BindsTo s d_law.fd _ _
    rw [e]
    exact .of_eq rfl
#print axioms PySem.Challenge.cw_rowring_k51_names_holds


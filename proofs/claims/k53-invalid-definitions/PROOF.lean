import PyProof.Rows.All
import Wide.All
import OpenK.AllK
import Wide.FinOn
import HandS.ForMost
import HandS.ForExc
import HandS.Wide
import HandS.IsInst
import HandS.Zip
import HandS.Flow
import HandS.EndBits
import HandS.Defaults
import HandS.TupAny
import HandS.TupMul
import HandS.Codes
import HandS.Deep
import HandS.Walk
import HandS.ExcInit
import HandS.MakeKwOnly
import HandS.RaiseMore
import HandS.FStr
import HandS.More
import HandS.Lambda
import HandS.HotCalls
import HandS.ExcField
import KE.KTryMore
import KE.GoesMore
import HandS.EndOwn
import HandS.TupSets
import HandS.SortInts
import HandS.Conv
import HandS.SetFor
import HandS.SetBool
import HandS.SetKeys
import HandS.OwnEq
import HandS.Style
import HandS.RepeatKit
import KE.SortData
import KE.DataMinMax
import HandS.TupLen
import KE.KDictDisplayH
import PySem.Challenge.RW_rowring_k53_invalid_texts_of_definitions
set_option Elab.async false
set_option linter.all false
set_option maxRecDepth 100000
set_option maxHeartbeats 4000000
/-! # U0: tuple * n for any n from 0 -/
namespace R
open PySem PySem.Spec PyProof.Rows L2
theorem tuple_mul1 (l : Addr) (items : Array Value) (n : Nat) (dd : Option Addr) (sl : Array (Option Value)) (u : Tok) :
    Meets (Builtin.«tuple.__mul__» ⟨[.ref l, .int 1 u], []⟩) (fun _ R s => s.heap.get? l = some { cls := .type "tuple", dict := dd, data := .seq items n, slots := sl } ∧
      R (.ok (.ret (Value.ref l))) s) :=
  .of_wp fun prog w A R s h => by
    obtain ⟨hp, g, d, tk, os⟩ := s
    obtain ⟨hl, h⟩ := h
    have f1 := AutoSeq1.idx_int
    have c0 : (decide ((1 : Int) < -(2 ^ 63)) || decide ((1 : Int) ≥ 2 ^ 63)) = false := by decide
    have c1 : (items.isEmpty || (1 : Int) == 1) = true := by simp
    wp_walk using wpAny_loadPart' hl
    repeat (first
      | (refine wpAny_ite_false (decide_eq_false (by rw [c0]; exact Bool.false_ne_true)) ?_; wp_walk using wpAny_loadPart' hl)
      | (refine wpAny_ite_true (decide_eq_true c1) ?_; wp_walk using wpAny_loadPart' hl))
    exact ⟨_, rfl, h⟩
theorem tuple_mul0 (l : Addr) (items : Array Value) (n : Nat) (dd : Option Addr) (sl : Array (Option Value)) (u : Tok) (k : Int) (k0 : k ≤ 0) (k1 : -1000 ≤ k) (c1 : (items.isEmpty || k == 1) = false) :
    Meets (Builtin.«tuple.__mul__» ⟨[.ref l, .int k u], []⟩) (fun _ R s => s.heap.get? l = some { cls := .type "tuple", dict := dd, data := .seq items n, slots := sl } ∧
      R (.ok (.ret (Value.ref s.heap.objs.size))) { s with heap := s.heap.push { cls := Value.type "tuple", data := Data.seq #[] }, toks := s.toks }) :=
  .of_wp fun prog w A R s h => by
    obtain ⟨hp, g, d, tk, os⟩ := s
    obtain ⟨hl, h⟩ := h
    have f1 := AutoSeq1.idx_int
    have c0 : (decide (k < -(2 ^ 63)) || decide (k ≥ 2 ^ 63)) = false := by
      rw [decide_eq_false (by omega), decide_eq_false (by omega)]
      rfl
    have c2 : (decide (k ≤ 0) || items.isEmpty) = true := by
      rw [decide_eq_true k0]
      rfl
    wp_walk using wpAny_loadPart' hl
    repeat (first
      | (refine wpAny_ite_false (decide_eq_false (by rw [c0]; exact Bool.false_ne_true)) ?_; wp_walk using wpAny_loadPart' hl)
      | (refine wpAny_ite_false (decide_eq_false (by rw [c1]; exact Bool.false_ne_true)) ?_; wp_walk using wpAny_loadPart' hl)
      | (refine wpAny_ite_true (decide_eq_true c2) ?_; wp_walk using wpAny_loadPart' hl))
    exact ⟨_, rfl, h⟩
/-- a tuple that is not empty, times n: one is the tuple itself -/
def rMulT (K : PySem.W.Frag) : R2 := fun x y H Q => ∃ l k xs, x = .ref l ∧ y = .int k ∧ SqT K H l xs ∧ xs ≠ [] ∧ -1000 ≤ k ∧ k ≤ 1000 ∧ xs.length ≤ 1000 ∧ (k = 1 → Q (.ref l) H) ∧ (k ≠ 1 → ∀ p, H p = none → Q (.ref p) (upd H p (.tup (List.replicate k.toNat xs).flatten)))
theorem op_mulT {X : Cx} : OpR X (binaryOp .Mult) (rMulT X.K) := by
  intro pins s σ H x y v u Q I rx ry h
  obtain ⟨l, k, xs, rfl, rfl, hT, hne, h1, h2, hz, q1, q2⟩ := h
  by_cases hk : 2 ≤ k
  · exact op_repT pins s σ H _ _ v u Q I rx ry ⟨l, k, xs, rfl, rfl, hT, hne, hk, h2, hz, q2 (by omega)⟩
  cases rx
  obtain ⟨t, rfl⟩ := ry
  obtain ⟨its, r, ⟨⟨cls, dd, data, sl⟩, ho, hc, n, hd⟩, hs⟩ := I.tuple hT
  simp only at hc hd
  subst hc hd
  have hle : its.length = xs.length := r.length.symm
  have hn : its ≠ [] := fun e => hne (by
    rw [e] at hle
    exact List.eq_nil_of_length_eq_zero hle.symm)
  have hi : its.toArray.isEmpty = false := by
    cases its with
    | nil => exact absurd rfl hn
    | cons a b => rfl
  by_cases hk1 : k = 1
  · subst hk1
    refine wpAny_binaryOp_repeat_ref (T := "tuple") (U := "int") (by decide) ⟨_, ho, rfl⟩ (fun s' => typeIs_int s' 1 t) noFill_tuple_mul F.fills_int_mul F.slot_int_rmul repeat_tuple F.slot_int_index.lookup
      (call_meets F.slot_int_rmul (typeIs_int s 1 t) F.entry_int_rmul (F.args_int_rmul_2 _ _) (int_rmul_tuple 1 t l its.toArray n dd sl)
        ⟨ho, rfl, ⟨_, ho, rfl⟩, call_meets F.slot_tuple_mul ⟨_, ho, rfl⟩ F.entry_tuple_mul (F.args_tuple_mul_2 _ _) (tuple_mul1 l its.toArray n dd sl t) ⟨ho, ?_⟩⟩)
    exact ⟨.ref l, H, I, rfl, q1 rfl⟩
  · have hk0 : k ≤ 0 := by omega
    refine wpAny_binaryOp_repeat_ref (T := "tuple") (U := "int") (by decide) ⟨_, ho, rfl⟩ (fun s' => typeIs_int s' k t) noFill_tuple_mul F.fills_int_mul F.slot_int_rmul repeat_tuple F.slot_int_index.lookup
      (call_meets F.slot_int_rmul (typeIs_int s k t) F.entry_int_rmul (F.args_int_rmul_2 _ _) (int_rmul_tuple k t l its.toArray n dd sl)
        ⟨ho, rfl, ⟨_, ho, rfl⟩, call_meets F.slot_tuple_mul ⟨_, ho, rfl⟩ F.entry_tuple_mul (F.args_tuple_mul_2 _ _) (tuple_mul0 l its.toArray n dd sl t k hk0 h1 (by rw [hi, Bool.false_or]; exact beq_eq_false_iff_ne.mpr hk1)) ⟨ho, ?_⟩⟩)
    refine ⟨.ref s.heap.objs.size, _, I.laid (t' := s.toks) (o := .tup []) (fun b ob q => Heap.get?_push_of_some _ q) (Nat.le_refl _) ?_, rfl, ?_⟩
    · exact ⟨Nat.zero_le _, [], .nil, IsTup.new _ _⟩
    · have := q2 hk1 _ (I.hok.fresh (Nat.le_refl _))
      have e : k.toNat = 0 := by omega
      rw [e] at this
      exact this
/-- a tuple and a tuple: an empty one gives the other itself -/
def rCat3 (K : PySem.W.Frag) : R2 := fun x y H Q => ∃ a b xs ys, x = .ref a ∧ y = .ref b ∧ SqT K H a xs ∧ SqT K H b ys ∧ xs.length + ys.length ≤ sizeLine ∧
  (xs = [] → Q (.ref b) H) ∧ (xs ≠ [] → ys = [] → Q (.ref a) H) ∧ (xs ≠ [] → ys ≠ [] → ∀ p, H p = none → Q (.ref p) (upd H p (.tup (xs ++ ys))))
theorem op_cat3 {X : Cx} : OpR X (binaryOp .Add) (rCat3 X.K) := by
  intro pins s σ H x y v u Q I rx ry h
  obtain ⟨a, b, xs, ys, rfl, rfl, ha, hb, hz, q0, q1, q2⟩ := h
  by_cases hx : xs = []
  · subst hx
    cases rx
    cases ry
    obtain ⟨its, r1, p1, _⟩ := I.tuple ha
    obtain ⟨its2, r2, p2, _⟩ := I.tuple hb
    cases r1
    obtain ⟨⟨cls, dd, data, sl⟩, ho, hc, n, hd⟩ := id p1
    obtain ⟨⟨cls2, dd2, data2, sl2⟩, ho2, hc2, n2, hd2⟩ := id p2
    simp only at hc hd hc2 hd2
    subst hc hd hc2 hd2
    exact concat_meets ⟨_, ho, rfl⟩ ⟨_, ho2, rfl⟩ noFill_tuple_add seq_tuple_add PySem.F.slot_tuple_add PySem.F.entry_tuple_add (PySem.F.args_tuple_add_2 _ _)
      (tuple_addW0 a b #[] its2.toArray n n2 dd dd2 sl sl2 rfl) ⟨ho, ho2, ⟨.ref b, H, I, rfl, q0 rfl⟩⟩
  · exact op_catT pins s σ H _ _ v u Q I rx ry ⟨a, b, xs, ys, rfl, rfl, ha, hb, hx, hz, q1 hx, q2 hx⟩
/-- a text times n, two or more -/
def repS (a : Str) (n : Nat) : Str := ⟨(List.replicate n a.cps).foldl (· ++ ·) #[]⟩
theorem repS_foldl (c : Array Nat) : ∀ (n : Nat) (b : Array Nat), ((List.replicate n c).foldl (· ++ ·) b).toList = b.toList ++ (List.replicate n c.toList).flatten
  | 0, b => by simp
  | n + 1, b => by
    rw [List.replicate_succ, List.foldl_cons, repS_foldl c n]
    simp [List.replicate_succ]
theorem repS_toList (a : Str) (n : Nat) : (repS a n).cps.toList = (List.replicate n a.cps.toList).flatten := by
  have := repS_foldl a.cps n #[]
  simpa [repS] using this
theorem repS_len (a : Str) (n : Nat) : (repS a n).length = n * a.length := by
  show (repS a n).cps.size = n * a.cps.size
  rw [← Array.length_toList, repS_toList, List.length_flatten]
  simp
theorem op_mulS {X : Cx} : OpR X (binaryOp .Mult) (fun x y H Q => ∃ a n, x = .str a ∧ y = .int n ∧ (2 ≤ n ∧ n ≤ 1000 ∧ 0 < a.length ∧ a.length ≤ 1000) ∧ Q (.str (repS a n.toNat)) H) := by
  intro pins s σ H x y v u Q I rx ry h
  obtain ⟨a, n, rfl, rfl, ⟨h1, h2, h3, h4⟩, q⟩ := h
  obtain ⟨t, rfl⟩ := rx
  obtain ⟨t', rfl⟩ := ry
  have e1 : (n == 1 || a.length == 0) = false := by
    simp only [Bool.or_eq_false_iff, beq_eq_false_iff_ne]
    omega
  have hm : a.length * n.toNat ≤ 1000 * 1000 := Nat.mul_le_mul h4 (by omega)
  refine PySem.P.mul_str (by
      have g1 : ¬ n < -(2 ^ 63) := by omega
      have g2 : ¬ n ≥ 2 ^ 63 := by omega
      rw [decide_eq_false g1, decide_eq_false g2]; rfl) (fun _ _ => ?_) (fun _ _ => ?_) ?_
  · have : (2 ^ 63 - 1) / n ≥ (2 ^ 63 - 1) / 1000 := by
      refine Int.le_ediv_of_mul_le (by omega) ?_
      have : (2 ^ 63 - 1) / 1000 * n ≤ (2 ^ 63 - 1) / 1000 * 1000 := Int.mul_le_mul_of_nonneg_left h2 (by decide)
      omega
    omega
  · show decide (_ > _) = false
    refine decide_eq_false ?_
    have : (1000 * 1000 : Nat) ≤ sizeLine := by decide
    omega
  · rw [if_neg (by omega), e1, if_neg Bool.false_ne_true]
    exact ⟨by
      show (repS a n.toNat).length ≤ sizeLine
      rw [repS_len, Nat.mul_comm]
      exact Nat.le_trans hm (by decide), .str (repS a n.toNat), H, I.tok _, ⟨_, rfl⟩, q⟩
end R

/-! # U1: heaps, smart operators, readings as rules by their heads -/
namespace R
open PySem PySem.Spec PyProof.Rows L2

/-! ### heaps: all but r is kept -/
def Kp (r : Addr) (H H' : Hp) : Prop := ∀ b o, H b = some o → b ≠ r → H' b = some o
abbrev Ex (H H' : Hp) : Prop := L2.Same H H'
theorem Ex.kp {r : Addr} {H H' : Hp} (e : Ex H H') : Kp r H H' := fun b o h _ => e b o h
theorem Kp.refl (r : Addr) (H : Hp) : Kp r H H := fun _ _ h _ => h
theorem Kp.trans {r : Addr} {H H1 H2 : Hp} (a : Kp r H H1) (b : Kp r H1 H2) : Kp r H H2 := fun c o h n => b c o (a c o h n) n
theorem Ex.new {H : Hp} {p : Addr} {o : HO} (h : H p = none) : Ex H (upd H p o) := fun a u e => by
  rw [upd_ne (ne_of_none e h)]
  exact e
theorem Kp.new {r : Addr} {H : Hp} {p : Addr} {o : HO} (h : H p = none) : Kp r H (upd H p o) := (Ex.new h).kp
theorem Kp.set {r : Addr} {H : Hp} {o : HO} : Kp r H (upd H r o) := fun b u e n => by
  rw [upd_ne n]
  exact e
theorem Ex.mut {H H' : Hp} {p : Addr} {o : HO} (e : Ex H H') (h : H p = none) : Ex H (upd H' p o) := fun a u ha => by
  rw [upd_ne (ne_of_none ha h)]
  exact e a u ha
theorem Kp.mut {r : Addr} {H H' : Hp} {p : Addr} {o : HO} (e : Kp r H H') (h : H p = none) : Kp r H (upd H' p o) := fun a u ha n => by
  rw [upd_ne (ne_of_none ha h)]
  exact e a u ha n
theorem Kp.ex {r : Addr} {H H' : Hp} (e : Kp r H H') (h : H r = none) : Ex H H' := fun b o hb => e b o hb (ne_of_none hb h)
theorem Ex.none {H H' : Hp} (e : Ex H H') {l : Addr} (h : H' l = none) : H l = none := Same.free e h
theorem Kp.none {r : Addr} {H H' : Hp} (e : Kp r H H') {l : Addr} (h : H' l = none) (n : l ≠ r) : H l = none := by
  cases q : H l with
  | none => rfl
  | some o =>
    rw [e l o q n] at h
    cases h
theorem ex_at {H H' : Hp} {b : Addr} {o : HO} (e : Ex H H') (h : H b = some o) : H' b = some o := e b o h
theorem ne_at {H : Hp} {a b : Addr} {o u : HO} (n : b ≠ a) (h : H b = some u) : upd H a o b = some u := (upd_ne n).trans h
theorem ne_none {H : Hp} {a b : Addr} {o : HO} (h' : H b = none) (h : H a = some o) : a ≠ b := ne_of_none h h'
theorem kp_at {r : Addr} {H H' : Hp} {b : Addr} {o : HO} (e : Kp r H H') (h : H b = some o) (n : b ≠ r) : H' b = some o := e b o h n
theorem upd_none {H : Hp} {a p : Addr} {o : HO} (h : upd H a o p = none) : p ≠ a ∧ H p = none := by
  by_cases e : p = a
  · rw [e, upd_same] at h
    cases h
  · rw [upd_ne e] at h
    exact ⟨e, h⟩
theorem sq_ex {K : PySem.W.Frag} {H H' : Hp} {a : Addr} {xs : List V} (e : Ex H H') (h : SqL K H a xs) : SqL K H' a xs := e.seq h
theorem rd_ex {H H' : Hp} {a : Addr} {u : HO} (e : Ex H H') (h : Rd H a u) : Rd H' a u := by
  rcases h with h | ⟨o, h⟩
  · exact .inl (e a _ h)
  · exact .inr ⟨o, e a _ h⟩
theorem st_ex {K : PySem.W.Frag} {H H' : Hp} {a : Addr} {xs : List V} (e : Ex H H') (h : SqT K H a xs) : SqT K H' a xs := by
  rcases h with h | h
  · exact .inl (rd_ex e h)
  · exact .inr h
theorem rd_kp {r : Addr} {H H' : Hp} {a : Addr} {u : HO} (e : Kp r H H') (h : Rd H a u) (n : a ≠ r) : Rd H' a u := by
  rcases h with h | ⟨o, h⟩
  · exact .inl (e a _ h n)
  · exact .inr ⟨o, e a _ h n⟩
theorem sq_kp {K : PySem.W.Frag} {r : Addr} {H H' : Hp} {a : Addr} {xs : List V} (e : Kp r H H') (h : SqL K H a xs) (n : a ≠ r) : SqL K H' a xs := h.imp (fun h => rd_kp e h n) id
theorem st_kp {K : PySem.W.Frag} {r : Addr} {H H' : Hp} {a : Addr} {xs : List V} (e : Kp r H H') (h : SqT K H a xs) (n : a ≠ r) : SqT K H' a xs := h.imp (fun h => rd_kp e h n) id
theorem sq_of {K : PySem.W.Frag} {H : Hp} {a : Addr} {xs : List V} (h : H a = some (.lst xs)) : SqL K H a xs := .inl (.inl h)
theorem st_of {K : PySem.W.Frag} {H : Hp} {a : Addr} {xs : List V} (h : H a = some (.tup xs)) : SqT K H a xs := .inl (.inl h)
theorem sz_of {n : Nat} (h : n ≤ 1000000) : n ≤ sizeLine := Nat.le_trans h (by decide)
theorem sz_lt {n : Nat} (h : n < 1000000) : n < sizeLine := Nat.lt_of_lt_of_le h (by decide)

/-! ### readings by their heads -/
/-- a new tuple, a new list -/
def mkT (xs : List V) (H : Hp) (Q : VK) : Prop := xs.length ≤ sizeLine ∧ ∀ p, H p = none → Q (.ref p) (upd H p (.tup xs))
def mkL (xs : List V) (H : Hp) (Q : VK) : Prop := xs.length ≤ sizeLine ∧ ∀ p, H p = none → Q (.ref p) (upd H p (.lst xs))
section
variable {σ : L2.St} {H : Hp} {Q : VK} {D : Ends} {v w : V} {i : Nat} {K : PySem.W.Frag}
theorem x_var (h : σ[i]? = some (some v)) (q : Q v H) : tVar i σ H Q := ⟨v, h, q⟩
theorem x_c (q : Q v H) : tC v σ H Q := q
theorem x_op {r : R2} {ta tb : TE} (q : ta σ H fun x H1 => tb σ H1 fun y H2 => r x y H2 Q) : tOp r ta tb σ H Q := q
theorem x_un {r : V → Hp → VK → Prop} {ta : TE} (q : ta σ H fun x H1 => r x H1 Q) : tUn r ta σ H Q := q
theorem x_nil {Q : List V → Hp → Prop} (q : Q [] H) : tNil σ H Q := q
theorem x_cons {Q : List V → Hp → Prop} {ta : TE} {tr : TA} (q : ta σ H fun x H1 => tr σ H1 fun xs H2 => Q (x :: xs) H2) : tCons ta tr σ H Q := q
theorem x_cb {r : List V → Hp → VK → Prop} {t : TA} (q : t σ H fun vs H1 => r vs H1 Q) : tCB r t σ H Q := q
theorem x_tup {t : TA} (q : t σ H fun xs H1 => mkT xs H1 Q) : tTup t σ H Q := q
theorem x_lst {t : TA} (q : t σ H fun xs H1 => mkL xs H1 Q) : tLst t σ H Q := q
theorem z_tup {xs : List V} (h : ∀ p, H p = none → Q (.ref p) (upd H p (.tup xs))) (hl : xs.length ≤ 1000000 := by exact Nat.le_of_ble_eq_true rfl) : mkT xs H Q := ⟨sz_of hl, h⟩
theorem z_lst {xs : List V} (h : ∀ p, H p = none → Q (.ref p) (upd H p (.lst xs))) (hl : xs.length ≤ 1000000 := by exact Nat.le_of_ble_eq_true rfl) : mkL xs H Q := ⟨sz_of hl, h⟩
theorem x_if {c : TT} {ta tb : TE} (q : c σ H fun b H1 => if b = true then ta σ H1 Q else tb σ H1 Q) : tIf c ta tb σ H Q := q
theorem x_andV {ta tb : TE} (q : ta σ H fun x H1 => ∃ c, x = .bl c ∧ if c = true then tb σ H1 Q else Q (.bl false) H1) : tAndV ta tb σ H Q := q
theorem x_orV {ta tb : TE} (q : ta σ H fun x H1 => ∃ c, x = .bl c ∧ if c = true then Q (.bl true) H1 else tb σ H1 Q) : tOrV ta tb σ H Q := q
theorem x_notV {ta : TE} (q : ta σ H fun x H1 => ∃ c, x = .bl c ∧ Q (.bl (!c)) H1) : tNotV ta σ H Q := q
theorem x_bl {b : Bool} {P : Bool → Prop} (q : P b) : ∃ c, V.bl b = .bl c ∧ P c := ⟨b, rfl, q⟩
theorem x_chain {r r' : R2} {ta tb tc : TE} (q : ta σ H fun x H1 => tb σ H1 fun y H2 => r x y H2 fun z H3 => ∃ k, z = .bl k ∧ (if k = true then tc σ H3 fun w' H4 => r' y w' H4 Q else Q (.bl false) H3)) : tChain r r' ta tb tc σ H Q := q
variable {B : Bool → Hp → Prop}
theorem x_tB {t : TE} (q : t σ H fun x H1 => ∃ c, x = .bl c ∧ B c H1) : tB t σ H B := q
theorem x_test {t : TE} (q : t σ H fun x H1 => ∃ c, x = .bl c ∧ B c H1) : tTest t σ H B := q
theorem x_and {t u : TT} (q : t σ H fun c H1 => if c = true then u σ H1 B else B false H1) : tAnd t u σ H B := q
theorem x_or {t u : TT} (q : t σ H fun c H1 => if c = true then B true H1 else u σ H1 B) : tOr t u σ H B := q
theorem x_not {t : TT} (q : t σ H fun c H1 => B (!c) H1) : tNot t σ H B := q
/-! statements -/
theorem x_seq {t u : TS} (q : t { D with nx := u D } σ H) : tSeq t u D σ H := q
theorem x_cut {t u : TS} (h : ∃ Mid : L2.St → Hp → Prop, t { D with nx := Mid } σ H ∧ ∀ σ' H', Mid σ' H' → u D σ' H') : C8.tCut t u D σ H := h
theorem x_next (q : D.nx σ H) : tNext D σ H := q
theorem x_brk (q : D.bk σ H) : tBreak D σ H := q
theorem x_cont (q : D.ct σ H) : tCont D σ H := q
theorem x_drop {te : TE} (q : te σ H fun _ H1 => D.nx σ H1) : tDrop te D σ H := q
theorem x_ret {te : TE} (q : te σ H D.rt) : tRet te D σ H := q
theorem x_retN (q : D.rt .non H) : tRetN D σ H := q
theorem x_ifS {c : TT} {t u : TS} (q : c σ H fun b H1 => if b = true then t D σ H1 else u D σ H1) : tIfS c t u D σ H := q
theorem x_asg {te : TE} {g : TG} (q : te σ H fun x H1 => g x σ H1 D.nx) : tAsg te g D σ H := q
theorem x_par {i j : Nat} {ta : TA} (q : ta σ H fun vs H1 => ∃ v w, vs = [v, w] ∧ D.nx ((σ.set i (some v)).set j (some w)) H1) : tPar i j ta D σ H := q
theorem x_two {P : V → V → Prop} (h : P v w) : ∃ a b, [v, w] = [a, b] ∧ P a b := ⟨_, _, rfl, h⟩
theorem x_name {Q : L2.St → Hp → Prop} {σ' : L2.St} (e : σ.set i (some v) = σ') (q : Q σ' H) : gName i v σ H Q := by
  subst e
  exact q
/-! known tests -/
theorem y_ite {c : Prop} [Decidable c] {A B : Prop} (h1 : c → A) (h2 : ¬ c → B) : if (decide c) = true then A else B := by
  by_cases h : c
  · rw [decide_eq_true h, if_pos rfl]
    exact h1 h
  · rw [decide_eq_false h, if_neg Bool.false_ne_true]
    exact h2 h
theorem y_iteN {c : Prop} [Decidable c] {A B : Prop} (h1 : ¬ c → A) (h2 : c → B) : if (!decide c) = true then A else B := by
  by_cases h : c
  · rw [decide_eq_true h]
    exact iteF (h2 h)
  · rw [decide_eq_false h]
    exact iteT (h1 h)
theorem y_iteb {b : Bool} {A B : Prop} (h1 : b = true → A) (h2 : b = false → B) : if b = true then A else B := by
  cases b with
  | true => exact iteT (h1 rfl)
  | false => exact iteF (h2 rfl)
theorem y_yes {c : Prop} [Decidable c] {A B : Prop} (h : c) (q : A) : if (decide c) = true then A else B := by
  rw [decide_eq_true h]
  exact iteT q
theorem y_no {c : Prop} [Decidable c] {A B : Prop} (h : ¬ c) (q : B) : if (decide c) = true then A else B := by
  rw [decide_eq_false h]
  exact iteF q
theorem y_yesV {x : V} {A B : Prop} (q : A) : if (decide (x = x)) = true then A else B := y_yes rfl q
theorem y_noV {x y : V} {A B : Prop} (h : ¬ x = y) (q : B) : if (decide (x = y)) = true then A else B := y_no h q
theorem y_yesN {c : Prop} [Decidable c] {A B : Prop} (h : ¬ c) (q : A) : if (!decide c) = true then A else B := by
  rw [decide_eq_false h]
  exact iteT q
theorem y_noN {c : Prop} [Decidable c] {A B : Prop} (h : c) (q : B) : if (!decide c) = true then A else B := by
  rw [decide_eq_true h]
  exact iteF q
theorem y_ff {A B : Prop} (q : B) : if (false || false) = true then A else B := iteF q
theorem y_tx {b : Bool} {A B : Prop} (q : A) : if (true || b) = true then A else B := iteT q
theorem y_ft {A B : Prop} (q : A) : if (false || true) = true then A else B := iteT q
theorem y_nt {A B : Prop} (q : B) : if (!true) = true then A else B := iteF q
theorem y_nf {A B : Prop} (q : A) : if (!false) = true then A else B := iteT q
theorem y_dyes {b : Bool} {A B : Prop} (q : A) : if (decide (b = b)) = true then A else B := y_yes rfl q
theorem y_dno {b : Bool} {A B : Prop} (q : B) : if (!decide (b = b)) = true then A else B := y_noN rfl q
end

/-! ### smart operators: the reading is reckoned from the values -/
def sI (g : Int → Int → V) (C : Int → Int → Prop) : R2 := fun x y H Q => match x, y with
  | .int i, .int j => C i j ∧ Q (g i j) H
  | _, _ => False
def sI0 (g : Int → Int → V) : R2 := fun x y H Q => match x, y with
  | .int i, .int j => Q (g i j) H
  | _, _ => False
theorem opr_imp {X : Cx} {f : Value → Value → Sem Value} {r r' : R2} (h : OpR X f r) (i : ∀ x y H Q, r' x y H Q → r x y H Q) : OpR X f r' :=
  fun pins s σ H x y u v Q I rx ry q => h pins s σ H x y u v Q I rx ry (i _ _ _ _ q)
theorem opr_or {X : Cx} {f : Value → Value → Sem Value} {r1 r2 r' : R2} (h1 : OpR X f r1) (h2 : OpR X f r2) (i : ∀ x y H Q, r' x y H Q → r1 x y H Q ∨ r2 x y H Q) : OpR X f r' :=
  fun pins s σ H x y u v Q I rx ry q => (i _ _ _ _ q).elim (fun q => h1 pins s σ H x y u v Q I rx ry q) (fun q => h2 pins s σ H x y u v Q I rx ry q)
def sAdd (K : PySem.W.Frag) : R2 := fun x y H Q => match x, y with
  | .int i, .int j => Q (.int (i + j)) H
  | .str a, .str b => a.length + b.length ≤ sizeLine ∧ Q (.str (a ++ b)) H
  | .ref a, .ref b => (∃ xs zs, H a = some (.lst xs) ∧ H b = some (.lst zs) ∧ xs.length + zs.length ≤ sizeLine ∧ ∀ p, H p = none → Q (.ref p) (upd H p (.lst (xs ++ zs)))) ∨ rCat3 K (.ref a) (.ref b) H Q
  | _, _ => False
theorem op_sAdd {X : Cx} : OpR X (binaryOp .Add) (sAdd X.K) := by
  refine opr_or (opr_or op_add op_add_str (r' := fun x y H Q => _ ∨ _) fun _ _ _ _ q => q) (opr_or op_cat op_cat3 (r' := fun x y H Q => _ ∨ _) fun _ _ _ _ q => q) fun x y H Q q => ?_
  cases x <;> cases y <;> first | exact False.elim q | skip
  · exact .inl (.inl ⟨_, _, rfl, rfl, q⟩)
  · exact .inl (.inr ⟨_, _, rfl, rfl, q⟩)
  · rcases q with ⟨xs, zs, h1, h2, h3, h4⟩ | q
    · exact .inr (.inl ⟨_, _, xs, zs, rfl, rfl, h1, h2, h3, h4⟩)
    · exact .inr (.inr q)
def sSub : R2 := sI0 fun i j => .int (i - j)
theorem op_sSub {X : Cx} : OpR X (binaryOp .Sub) sSub := opr_imp op_sub fun x y H Q q => by
  cases x <;> cases y <;> first | exact False.elim q | exact ⟨_, _, rfl, rfl, q⟩
def sMod : R2 := sI (fun i j => .int (i % j)) fun _ j => 0 < j
theorem op_sMod {X : Cx} : OpR X (binaryOp .Mod) sMod := opr_imp op_mod fun x y H Q q => by
  cases x <;> cases y <;> first | exact False.elim q | exact ⟨_, _, rfl, rfl, q.1, q.2⟩
def sDiv : R2 := sI (fun i j => .int (i / j)) fun _ j => 0 < j ∧ j < 2 ^ 200
theorem op_sDiv {X : Cx} : OpR X (binaryOp .FloorDiv) sDiv := opr_imp op_fdivW fun x y H Q q => by
  cases x <;> cases y <;> first | exact False.elim q | exact ⟨_, _, rfl, rfl, wide_div q.1.1 (b := 200) (by have := q.1; omega) (by decide) (by decide), q.2⟩
def sMul (K : PySem.W.Frag) : R2 := fun x y H Q => match x, y with
  | .int i, .int j => ((-(2 ^ 64) < i ∧ i < 2 ^ 64) ∨ (-(2 ^ 64) < j ∧ j < 2 ^ 64) ∨ (i.natAbs < 2 ^ 400000 ∧ j.natAbs < 2 ^ 400000)) ∧ Q (.int (i * j)) H
  | .ref l, .int k => rRep (.ref l) (.int k) H Q ∨ rMulT K (.ref l) (.int k) H Q
  | .str a, .int k => (2 ≤ k ∧ k ≤ 1000 ∧ 0 < a.length ∧ a.length ≤ 1000) ∧ Q (.str (repS a k.toNat)) H
  | _, _ => False
theorem op_sMul {X : Cx} : OpR X (binaryOp .Mult) (sMul X.K) := by
  refine opr_or (opr_or (opr_or op_mul op_mulW (r' := fun x y H Q => _ ∨ _) fun _ _ _ _ q => q) op_mulS (r' := fun x y H Q => _ ∨ _) fun _ _ _ _ q => q) (opr_or op_rep op_mulT (r' := fun x y H Q => _ ∨ _) fun _ _ _ _ q => q) fun x y H Q q => ?_
  cases x <;> cases y <;> first | exact False.elim q | skip
  · obtain ⟨c, q⟩ := q
    rcases c with c | c | c
    · exact .inl (.inl (.inl ⟨_, _, rfl, rfl, .inl c, q⟩))
    · exact .inl (.inl (.inl ⟨_, _, rfl, rfl, .inr c, q⟩))
    · exact .inl (.inl (.inr ⟨_, _, rfl, rfl, wide_mul c.1 c.2 (by decide) (by decide) (by decide), q⟩))
  · exact .inl (.inr ⟨_, _, rfl, rfl, q.1, q.2⟩)
  · exact .inr q
def sPow : R2 := sI (fun i j => .int (i ^ j.toNat)) fun i j => 0 ≤ j ∧ j ≤ 1000000 ∧ i.natAbs < 2 ^ 64
theorem op_sPow {X : Cx} : OpR X (binaryOp .Pow) sPow := opr_imp op_pow fun x y H Q q => by
  cases x <;> cases y <;> first | exact False.elim q | exact ⟨_, _, rfl, rfl, q.1, q.2⟩
def Sq (K : PySem.W.Frag) (H : Hp) (p : Addr) (xs : List V) : Prop := SqL K H p xs ∨ SqT K H p xs
theorem sq_l {K : PySem.W.Frag} {H : Hp} {p : Addr} {xs : List V} (h : SqL K H p xs) : Sq K H p xs := .inl h
theorem sq_t {K : PySem.W.Frag} {H : Hp} {p : Addr} {xs : List V} (h : SqT K H p xs) : Sq K H p xs := .inr h
theorem Sq.ex {K : PySem.W.Frag} {H H' : Hp} {a : Addr} {xs : List V} (e : Ex H H') (h : Sq K H a xs) : Sq K H' a xs := h.imp (sq_ex e) (st_ex e)
/-! comparisons -/
def sCmp (p : Int → Int → Bool) : R2 := fun x y H Q => match x, y with
  | .int i, .int j => Q (.bl (p i j)) H
  | _, _ => False
theorem opr_cmp {X : Cx} {f : Value → Value → Sem Value} {p : Int → Int → Bool} (h : OpR X f (rI0 fun i j => .bl (p i j))) : OpR X f (sCmp p) := opr_imp h fun x y H Q q => by
  cases x <;> cases y <;> first | exact False.elim q | exact ⟨_, _, rfl, rfl, q⟩
def sLt : R2 := sCmp fun i j => decide (i < j)
def sLe : R2 := sCmp fun i j => decide (i ≤ j)
def sGt : R2 := sCmp fun i j => decide (j < i)
def sGe : R2 := sCmp fun i j => decide (j ≤ i)
theorem op_sLt {X : Cx} : OpR X (compareOp .Lt) sLt := opr_cmp op_lt
theorem op_sLe {X : Cx} : OpR X (compareOp .LtE) sLe := opr_cmp op_le
theorem op_sGt {X : Cx} : OpR X (compareOp .Gt) sGt := opr_cmp op_gt
theorem op_sGe {X : Cx} : OpR X (compareOp .GtE) sGe := opr_cmp op_ge
def sEq (K : PySem.W.Frag) : R2 := fun x y H Q => match x, y with
  | .int i, .int j => Q (.bl (decide (i = j))) H
  | .str a, .str b => Q (.bl (decide (a = b))) H
  | .bl a, .bl b => Q (.bl (decide (a = b))) H
  | .ref a, .ref b => rEqD K (.ref a) (.ref b) H Q
  | x, y => rEqD K x y H Q
def sNe (K : PySem.W.Frag) : R2 := fun x y H Q => match x, y with
  | .int i, .int j => Q (.bl (!decide (i = j))) H
  | .str a, .str b => Q (.bl (!decide (a = b))) H
  | .bl a, .bl b => Q (.bl (!decide (a = b))) H
  | .ref a, .ref b => rNeD K (.ref a) (.ref b) H Q
  | x, y => rNeD K x y H Q
theorem dec_i {i j : Int} : decide (V.int i = V.int j) = decide (i = j) := by
  rw [Bool.eq_iff_iff]
  simp
theorem dec_s {i j : Str} : decide (V.str i = V.str j) = decide (i = j) := by
  rw [Bool.eq_iff_iff]
  simp
theorem dec_b {i j : Bool} : decide (V.bl i = V.bl j) = decide (i = j) := by
  rw [Bool.eq_iff_iff]
  simp
theorem op_sEq {X : Cx} (hu : X.A.units + 64 < cLine) : OpR X (compareOp .Eq) (sEq X.K) := opr_or op_eq (op_eqD hu) fun x y H Q q => by
  unfold sEq at q
  split at q
  · exact .inl ⟨rfl, by rw [dec_i]; exact q⟩
  · exact .inl ⟨rfl, by rw [dec_s]; exact q⟩
  · exact .inl ⟨rfl, by rw [dec_b]; exact q⟩
  · exact .inr q
  · exact .inr q
theorem op_sNe {X : Cx} (hu : X.A.units + 64 < cLine) : OpR X (compareOp .NotEq) (sNe X.K) := opr_or op_ne (op_neD hu) fun x y H Q q => by
  unfold sNe at q
  split at q
  · exact .inl ⟨rfl, by rw [dec_i]; exact q⟩
  · exact .inl ⟨rfl, by rw [dec_s]; exact q⟩
  · exact .inl ⟨rfl, by rw [dec_b]; exact q⟩
  · exact .inr q
  · exact .inr q
/-- in: one sign in a text; a flat thing in a list or a tuple -/
def sIn (K : PySem.W.Frag) : R2 := fun x y H Q => match x, y with
  | .str a, .str z => ∃ c, a = ⟨#[c]⟩ ∧ Q (.bl (decide (c ∈ z.cps.toList))) H
  | x, .ref p => ∃ xs, Sq K H p xs ∧ flatV x = true ∧ xs.all flatV = true ∧ Q (.bl (inV x xs)) H
  | _, _ => False
def sNotIn (K : PySem.W.Frag) : R2 := fun x y H Q => match x, y with
  | .str a, .str z => ∃ c, a = ⟨#[c]⟩ ∧ Q (.bl (!decide (c ∈ z.cps.toList))) H
  | x, .ref p => ∃ xs, Sq K H p xs ∧ flatV x = true ∧ xs.all flatV = true ∧ Q (.bl (!inV x xs)) H
  | _, _ => False
theorem op_sIn {X : Cx} : OpR X (compareOp .In) (sIn X.K) := opr_or op_in_sign op_in_seq fun x y H Q q => by
  unfold sIn at q
  split at q
  · obtain ⟨c, rfl, q⟩ := q
    exact .inl ⟨c, _, rfl, rfl, q⟩
  · obtain ⟨xs, h1, h2, h3, q⟩ := q
    exact .inr ⟨_, xs, rfl, h1, h2, h3, q⟩
  · exact q.elim
theorem op_sNotIn {X : Cx} : OpR X (compareOp .NotIn) (sNotIn X.K) := opr_or op_notIn_sign op_notIn_seq fun x y H Q q => by
  unfold sNotIn at q
  split at q
  · obtain ⟨c, rfl, q⟩ := q
    exact .inl ⟨c, _, rfl, rfl, q⟩
  · obtain ⟨xs, h1, h2, h3, q⟩ := q
    exact .inr ⟨_, xs, rfl, h1, h2, h3, q⟩
  · exact q.elim
def sIs : R2 := fun x y H Q => match y with
  | .bl b => ∃ a, x = .bl a ∧ Q (.bl (decide (a = b))) H
  | y => y = .non ∧ Q (.bl (decide (x = .non))) H
def sIsNot : R2 := fun x y H Q => match y with
  | .bl b => ∃ a, x = .bl a ∧ Q (.bl (!decide (a = b))) H
  | y => y = .non ∧ Q (.bl (!decide (x = .non))) H
theorem op_sIs {X : Cx} : OpR X (compareOp .Is) sIs := by
  intro pins s σ H x y v u Q I rx ry h
  match y, ry, h with
  | .bl b, ry, h =>
    obtain ⟨a, e, q⟩ := h
    subst e
    cases rx
    cases ry
    refine PyProof.Rows.is_bool (fin_bl I q ?_)
    cases a <;> cases b <;> rfl
  | .non, ry, h => exact op_isN pins s σ H x .non v u Q I rx ry h
  | .int i, ry, h => exact absurd h.1 (by intro z; cases z)
  | .str i, ry, h => exact absurd h.1 (by intro z; cases z)
  | .ref i, ry, h => exact absurd h.1 (by intro z; cases z)
theorem op_sIsNot {X : Cx} : OpR X (compareOp .IsNot) sIsNot := by
  intro pins s σ H x y v u Q I rx ry h
  match y, ry, h with
  | .bl b, ry, h =>
    obtain ⟨a, e, q⟩ := h
    subst e
    cases rx
    cases ry
    refine PyProof.Rows.isnot_bool (fin_bl I q ?_)
    cases a <;> cases b <;> rfl
  | .non, ry, h => exact op_notN pins s σ H x .non v u Q I rx ry h
  | .int i, ry, h => exact absurd h.1 (by intro z; cases z)
  | .str i, ry, h => exact absurd h.1 (by intro z; cases z)
  | .ref i, ry, h => exact absurd h.1 (by intro z; cases z)
/-- xs[i], t[i], s[i] -/
def sIx (K : PySem.W.Frag) : R2 := fun x y H Q => match x, y with
  | .ref p, .int i => ∃ xs v, Sq K H p xs ∧ atI xs i = some v ∧ Q v H
  | .str z, .int i => ∃ c, z.length ≤ sizeLine ∧ atI z.cps.toList i = some c ∧ Q (.str ⟨#[c]⟩) H
  | _, _ => False
theorem ix_s {X : Cx} : IxR X (sIx X.K) := fun a b pins s σ H x y v u Q I rx ry q hs => by
  refine ix_seq a b pins s σ H x y v u Q I rx ry ?_ hs
  unfold sIx at q
  split at q
  · obtain ⟨xs, v, h, h2, q⟩ := q
    rcases h with h | h
    · exact .inl ⟨_, xs, _, v, rfl, rfl, h, h2, q⟩
    · exact .inr (.inl ⟨_, xs, _, v, rfl, rfl, h, h2, q⟩)
  · obtain ⟨c, h, h2, q⟩ := q
    exact .inr (.inr ⟨_, _, c, rfl, rfl, h, h2, q⟩)
  · exact q.elim
/-! built-ins -/
def sLen (K : PySem.W.Frag) : List V → Hp → VK → Prop := fun vs H Q => match vs with
  | [.str z] => z.length ≤ sizeLine ∧ Q (.int z.length) H
  | [.ref p] => ∃ xs, Sq K H p xs ∧ Q (.int xs.length) H
  | _ => False
theorem call_imp {X : Cx} {f : Value} {r r' : List V → Hp → VK → Prop} (h : CallR X f r) (i : ∀ vs H Q, r' vs H Q → r vs H Q) : CallR X f r' :=
  fun pins s σ H xs us Q I rx q => h pins s σ H xs us Q I rx (i _ _ _ q)
theorem call_or {X : Cx} {f : Value} {r1 r2 r' : List V → Hp → VK → Prop} (h1 : CallR X f r1) (h2 : CallR X f r2) (i : ∀ vs H Q, r' vs H Q → r1 vs H Q ∨ r2 vs H Q) : CallR X f r' :=
  fun pins s σ H xs us Q I rx q => (i _ _ _ q).elim (fun q => h1 pins s σ H xs us Q I rx q) (fun q => h2 pins s σ H xs us Q I rx q)
theorem call_sLen {X : Cx} : CallR X (.builtin "len") (sLen X.K) := call_or call_len_str call_len_seq fun vs H Q q => by
  unfold sLen at q
  split at q
  · exact .inl ⟨_, rfl, q.1, q.2⟩
  · obtain ⟨xs, h, q⟩ := q
    exact .inr ⟨_, xs, rfl, h, q⟩
  · exact q.elim
def sList (K : PySem.W.Frag) : List V → Hp → VK → Prop := fun vs H Q => match vs with
  | [.ref p] => ∃ xs, Sq K H p xs ∧ ∀ l, H l = none → Q (.ref l) (upd H l (.lst xs))
  | _ => False
theorem call_sList {X : Cx} : CallR X (.type "list") (sList X.K) := call_imp call_list_of fun vs H Q q => by
  unfold sList at q
  split at q
  · obtain ⟨xs, h, q⟩ := q
    exact ⟨_, xs, rfl, h, q⟩
  · exact q.elim
def sTuple (K : PySem.W.Frag) : List V → Hp → VK → Prop := fun vs H Q => match vs with
  | [.ref p] => ∃ xs, (SqL K H p xs ∧ ∀ l, H l = none → Q (.ref l) (upd H l (.tup xs))) ∨ (SqT K H p xs ∧ Q (.ref p) H)
  | _ => False
theorem call_sTuple {X : Cx} : CallR X (.type "tuple") (sTuple X.K) := call_imp call_tuple_of fun vs H Q q => by
  unfold sTuple at q
  split at q
  · obtain ⟨xs, h⟩ := q
    exact ⟨_, xs, rfl, h⟩
  · exact q.elim
def sAll (K : PySem.W.Frag) : List V → Hp → VK → Prop := fun vs H Q => ∃ (a : Addr) (bs : List Bool), vs = [V.ref a] ∧ SqL K H a (bs.map V.bl) ∧ Q (.bl (bs.all id)) H
theorem call_sAll {X : Cx} (hc : X.calm = true) : CallR X (.builtin "all") (sAll X.K) := cr_all hc
def sSum (K : PySem.W.Frag) : List V → Hp → VK → Prop := fun vs H Q => ∃ (a : Addr) (ns : List Int), vs = [V.ref a] ∧ SqL K H a (ns.map V.int) ∧ Q (.int ns.sum) H
theorem call_sSum {X : Cx} (hc : X.calm = true) : CallR X (.builtin "sum") (sSum X.K) := cr_sum hc
/-! slices -/
def sSl (K : PySem.W.Frag) : V → Option Int → Option Int → Hp → VK → Prop := fun x lo hi H Q => match x with
  | .ref a => (∃ xs, SqL K H a xs ∧ ∀ p, H p = none → Q (.ref p) (upd H p (.lst (cutV xs lo hi)))) ∨ rSlA K (.ref a) lo hi H Q
  | .str z => z.length ≤ sizeLine ∧ Q (.str (Txt.slice z lo hi)) H
  | _ => False
theorem sl_s {X : Cx} : SlR X (sSl X.K) := fun pins s σ H x v vl vu lo hi sl Q I rx hs pl pu q => by
  unfold sSl at q
  split at q
  · rcases q with ⟨xs, h, q⟩ | q
    · exact sl_list pins s σ H _ v vl vu lo hi sl Q I rx hs pl pu ⟨_, xs, rfl, h, q⟩
    · exact sl_tupA pins s σ H _ v vl vu lo hi sl Q I rx hs pl pu q
  · exact C8.sl_txt pins s σ H _ v vl vu lo hi sl Q I rx hs pl pu ⟨_, rfl, q.1, q.2⟩
  · exact q.elim

/-! ### what the operators give, by heads -/
section
variable {H : Hp} {Q : VK} {K : PySem.W.Frag} {i j : Int} {a b : Str} {p q : Addr} {xs zs : List V} {v : V}
theorem z_addI (h : Q (.int (i + j)) H) : sAdd K (.int i) (.int j) H Q := h
theorem z_addS (h1 : a.length + b.length ≤ sizeLine) (h : Q (.str (a ++ b)) H) : sAdd K (.str a) (.str b) H Q := ⟨h1, h⟩
theorem z_addL (h1 : H p = some (.lst xs)) (h2 : H q = some (.lst zs)) (h3 : xs.length + zs.length ≤ sizeLine) (h : ∀ r, H r = none → Q (.ref r) (upd H r (.lst (xs ++ zs)))) : sAdd K (.ref p) (.ref q) H Q := .inl ⟨xs, zs, h1, h2, h3, h⟩
theorem z_sub (h : Q (.int (i - j)) H) : sSub (.int i) (.int j) H Q := h
theorem z_neg {f : Int → V} (h : Q (f i) H) : rU f (.int i) H Q := ⟨i, rfl, h⟩
theorem z_mod (h1 : 0 < j) (h : Q (.int (i % j)) H) : sMod (.int i) (.int j) H Q := ⟨h1, h⟩
theorem z_div (h1 : 0 < j) (h2 : j < 2 ^ 200) (h : Q (.int (i / j)) H) : sDiv (.int i) (.int j) H Q := ⟨⟨h1, h2⟩, h⟩
theorem z_mulL (h1 : -(2 ^ 64) < i ∧ i < 2 ^ 64) (h : Q (.int (i * j)) H) : sMul K (.int i) (.int j) H Q := ⟨.inl h1, h⟩
theorem z_mulR (h1 : -(2 ^ 64) < j ∧ j < 2 ^ 64) (h : Q (.int (i * j)) H) : sMul K (.int i) (.int j) H Q := ⟨.inr (.inl h1), h⟩
theorem z_mulW (h1 : i.natAbs < 2 ^ 400000) (h2 : j.natAbs < 2 ^ 400000) (h : Q (.int (i * j)) H) : sMul K (.int i) (.int j) H Q := ⟨.inr (.inr ⟨h1, h2⟩), h⟩
/-- a list, a tuple times n -/
theorem z_mulLst (h1 : H p = some (.lst xs)) (h2 : 0 ≤ i ∧ i < 2 ^ 62) (h3 : xs.length * i.toNat ≤ 1000000) (h : ∀ r, H r = none → Q (.ref r) (upd H r (.lst (List.replicate i.toNat xs).flatten))) : sMul K (.ref p) (.int i) H Q := .inl ⟨p, i, xs, rfl, rfl, h1, by omega, by omega, sz_of h3, h⟩
theorem z_mulTup (h1 : SqT K H p xs) (h0 : xs ≠ []) (h2 : -1000 ≤ i ∧ i ≤ 1000) (h3 : xs.length ≤ 1000) (h4 : i = 1 → Q (.ref p) H) (h5 : i ≠ 1 → ∀ r, H r = none → Q (.ref r) (upd H r (.tup (List.replicate i.toNat xs).flatten))) : sMul K (.ref p) (.int i) H Q := .inr ⟨p, i, xs, rfl, rfl, h1, h0, h2.1, h2.2, h3, h4, h5⟩
/-- a tuple and a tuple -/
theorem z_addT (h1 : SqT K H p xs) (h2 : SqT K H q zs) (h3 : xs.length + zs.length ≤ 1000000) (k0 : xs = [] → Q (.ref q) H) (k1 : xs ≠ [] → zs = [] → Q (.ref p) H) (k2 : xs ≠ [] → zs ≠ [] → ∀ r, H r = none → Q (.ref r) (upd H r (.tup (xs ++ zs)))) : sAdd K (.ref p) (.ref q) H Q := .inr ⟨p, q, xs, zs, rfl, rfl, h1, h2, sz_of h3, k0, k1, k2⟩
theorem z_pow (h1 : 0 ≤ j ∧ j ≤ 1000000 ∧ i.natAbs < 2 ^ 64) (h : Q (.int (i ^ j.toNat)) H) : sPow (.int i) (.int j) H Q := ⟨h1, h⟩
theorem z_lt (h : Q (.bl (decide (i < j))) H) : sLt (.int i) (.int j) H Q := h
theorem z_le (h : Q (.bl (decide (i ≤ j))) H) : sLe (.int i) (.int j) H Q := h
theorem z_gt (h : Q (.bl (decide (j < i))) H) : sGt (.int i) (.int j) H Q := h
theorem z_ge (h : Q (.bl (decide (j ≤ i))) H) : sGe (.int i) (.int j) H Q := h
theorem z_eqI (h : Q (.bl (decide (i = j))) H) : sEq K (.int i) (.int j) H Q := h
theorem z_eqS (h : Q (.bl (decide (a = b))) H) : sEq K (.str a) (.str b) H Q := h
theorem z_eqB {a b : Bool} (h : Q (.bl (decide (a = b))) H) : sEq K (.bl a) (.bl b) H Q := h
theorem z_neI (h : Q (.bl (!decide (i = j))) H) : sNe K (.int i) (.int j) H Q := h
theorem z_neS (h : Q (.bl (!decide (a = b))) H) : sNe K (.str a) (.str b) H Q := h
theorem z_neB {a b : Bool} (h : Q (.bl (!decide (a = b))) H) : sNe K (.bl a) (.bl b) H Q := h
theorem z_eqR (h : rEqD K (.ref p) (.ref q) H Q) : sEq K (.ref p) (.ref q) H Q := h
theorem z_neR (h : rNeD K (.ref p) (.ref q) H Q) : sNe K (.ref p) (.ref q) H Q := h
theorem z_inS {c : Nat} {z : Str} (h : Q (.bl (decide (c ∈ z.cps.toList))) H) : sIn K (.str ⟨#[c]⟩) (.str z) H Q := ⟨c, rfl, h⟩
theorem z_inI (h1 : Sq K H p xs) (h2 : xs.all flatV = true) (h : Q (.bl (inV (.int i) xs)) H) : sIn K (.int i) (.ref p) H Q := ⟨xs, h1, rfl, h2, h⟩
theorem z_ninI (h1 : Sq K H p xs) (h2 : xs.all flatV = true) (h : Q (.bl (!inV (.int i) xs)) H) : sNotIn K (.int i) (.ref p) H Q := ⟨xs, h1, rfl, h2, h⟩
theorem z_ninS {c : Nat} {z : Str} (h : Q (.bl (!decide (c ∈ z.cps.toList))) H) : sNotIn K (.str ⟨#[c]⟩) (.str z) H Q := ⟨c, rfl, h⟩
theorem z_is (h : Q (.bl (decide (v = .non))) H) : sIs v .non H Q := ⟨rfl, h⟩
theorem z_isnot (h : Q (.bl (!decide (v = .non))) H) : sIsNot v .non H Q := ⟨rfl, h⟩
theorem z_ix (h1 : Sq K H p xs) (h2 : atI xs i = some v) (h : Q v H) : sIx K (.ref p) (.int i) H Q := ⟨xs, v, h1, h2, h⟩
theorem z_ixS {c : Nat} (h1 : a.length ≤ sizeLine) (h2 : atI a.cps.toList i = some c) (h : Q (.str ⟨#[c]⟩) H) : sIx K (.str a) (.int i) H Q := ⟨c, h1, h2, h⟩
theorem z_lenS (h1 : a.length ≤ sizeLine) (h : Q (.int a.length) H) : sLen K [.str a] H Q := ⟨h1, h⟩
theorem z_len (h1 : Sq K H p xs) (h : Q (.int xs.length) H) : sLen K [.ref p] H Q := ⟨xs, h1, h⟩
theorem z_list (h1 : Sq K H p xs) (h : ∀ l, H l = none → Q (.ref l) (upd H l (.lst xs))) : sList K [.ref p] H Q := ⟨xs, h1, h⟩
theorem z_tupL (h1 : SqL K H p xs) (h : ∀ l, H l = none → Q (.ref l) (upd H l (.tup xs))) : sTuple K [.ref p] H Q := ⟨xs, .inl ⟨h1, h⟩⟩
theorem z_tupT (h1 : SqT K H p xs) (h : Q (.ref p) H) : sTuple K [.ref p] H Q := ⟨xs, .inr ⟨h1, h⟩⟩
theorem z_slL {lo hi : Option Int} (h1 : SqL K H p xs) (h : ∀ r, H r = none → Q (.ref r) (upd H r (.lst (cutV xs lo hi)))) : sSl K (.ref p) lo hi H Q := .inl ⟨xs, h1, h⟩
theorem z_slS {lo hi : Option Int} (h1 : a.length ≤ sizeLine) (h : Q (.str (Txt.slice a lo hi)) H) : sSl K (.str a) lo hi H Q := ⟨h1, h⟩
theorem z_all {bs : List Bool} (h1 : SqL K H p (bs.map V.bl)) (h : Q (.bl (bs.all id)) H) : sAll K [.ref p] H Q := ⟨p, bs, rfl, h1, h⟩
theorem z_sum {ns : List Int} (h1 : SqL K H p (ns.map V.int)) (h : Q (.int ns.sum) H) : sSum K [.ref p] H Q := ⟨p, ns, rfl, h1, h⟩
/-! pieces of a slice -/
theorem x_nopart {σ : L2.St} {Q : Option Int → Hp → Prop} (h : Q none H) : tNoPart σ H Q := h
theorem x_part {σ : L2.St} {t : TE} {Q : Option Int → Hp → Prop} (h : t σ H fun x H1 => ∃ i, x = .int i ∧ Q (some i) H1) : tPart t σ H Q := h
theorem x_int {P : Int → Prop} (h : P i) : ∃ j, V.int i = .int j ∧ P j := ⟨i, rfl, h⟩
theorem x_sl {σ : L2.St} {r : V → Option Int → Option Int → Hp → VK → Prop} {te : TE} {tl th : TO} (h : te σ H fun x H1 => tl σ H1 fun l H2 => th σ H2 fun u H3 => r x l u H3 Q) : tSl r te tl th σ H Q := h
/-! methods of built-ins -/
theorem x_bm {σ : L2.St} {T : String} {r : V → List V → Hp → VK → Prop} {to : TE} {t : TA} (h : to σ H fun x H1 => tyV K T x H1 ∧ t σ H1 fun xs H2 => r x xs H2 Q) : tBM K T r to t σ H Q := h
theorem x_bm0 {σ : L2.St} {T : String} {r : V → List V → Hp → VK → Prop} {to : TE} (h : to σ H fun x H1 => tyV K T x H1 ∧ r x [] H1 Q) : tBM0 K T r to σ H Q := h
theorem ty_list (h : H p = some (.lst xs)) : tyV K "list" (.ref p) H := .inl ⟨rfl, _, .inl (.inl h)⟩
theorem z_append (h : H p = some (.lst xs)) (hz : xs.length < 1000000) (k : Q .non (upd H p (.lst (xs ++ [v])))) : rAppend (.ref p) [v] H Q := ⟨p, xs, v, rfl, rfl, h, sz_lt hz, k⟩
/-! items stored -/
theorem x_sub {σ : L2.St} {to ti : TE} {t : TSet} {Q : L2.St → Hp → Prop} (h : to σ H fun o H1 => ti σ H1 fun i H2 => t o i v H2 fun H3 => Q σ H3) : gSub to ti t v σ H Q := h
theorem z_setL {j : Nat} {Q : Hp → Prop} (h : H p = some (.lst xs)) (hj : ixN xs.length i = some j) (k : Q (upd H p (.lst (xs.set j v)))) : rSetL (.ref p) (.int i) v H Q := ⟨p, xs, i, j, rfl, rfl, h, hj, k⟩
theorem x_gtup {σ : L2.St} {n : Nat} {t : TGs} {Q : L2.St → Hp → Prop} (h1 : SqT K H p xs) (h2 : xs.length = n) (h : t xs σ H Q) : gTup K n t (.ref p) σ H Q := ⟨p, xs, rfl, h1, h2, h⟩
theorem x_gnil {σ : L2.St} {Q : L2.St → Hp → Prop} (h : Q σ H) : gNil [] σ H Q := ⟨rfl, h⟩
theorem x_gcons {σ : L2.St} {vs : List V} {t : TG} {u : TGs} {Q : L2.St → Hp → Prop} (h : t v σ H fun σ' H' => u vs σ' H' Q) : gCons t u (v :: vs) σ H Q := ⟨v, vs, rfl, h⟩
/-! loops -/
theorem x_for {σ : L2.St} {wi : TI} {g : TG} {tb : TS} {D : Ends} (h : wi σ H fun J H1 => ∃ W : Nat → Nat → L2.St → Hp → Prop, (∃ m, W 0 m σ H1) ∧ ∀ i m σ H, W i m σ H →
    (J.stop i H ∧ D.nx σ H) ∨ (J.go i H ∧ ∃ N : L2.St → Hp → Prop, (∀ σ' H', N σ' H' → ∃ m', m' < m ∧ W (i + 1) m' σ' H') ∧ ∀ x H', J.yld i H x H' → g x σ H' fun σ2 H2 => tb { D with nx := N, ct := N, bk := D.nx } σ2 H2)) : tFor wi g tb D σ H := h
theorem x_forL {σ : L2.St} {tl : TE} {g : TG} {tb : TS} {D : Ends} {R : It → Hp → Prop} (h : tl σ H fun x H1 => ∃ a, x = .ref a ∧ (∃ xs, SqL K H1 a xs) ∧ R (Itl K a) H1) : iList K tl σ H R := h
end
end R

/-! # U2: defs of the text as bundles, calls, passing of errors -/
namespace R
open PySem PySem.Spec PyProof.Rows L2
/-- a def of the text as it stands behind the top -/
structure DF (K : PySem.W.Frag) (mg : Str → Option Value) (x : Str) (st : Stmt) (ps : List Str) where
  f : Addr
  fd : FuncData
  F : Fun K x x st f fd
  g : mg x = some (.ref f)
  b : Binds K fd ps []
section
variable {P : Program} {w : World} {K : PySem.W.Frag} {mg : Str → Option Value} {base : Heap}
/-- what a def at f promises -/
abbrev Ok (P : Program) (w : World) (K : PySem.W.Frag) (mg : Str → Option Value) (base : Heap) (k : Nat) {x : Str} {st : Stmt} {ps : List Str} (d : DF K mg x st ps) (sp : Sp) : Prop := FnOk P w K mg base (L2.CX P w) k d.f d.fd ps sp
theorem ok_of {x : Str} {st : Stmt} {ps N : List Str} {k : Nat} {sp : Sp} (d : DF K mg x st ps) (S : FnScope N ps (defScope st)) (len : ∀ vs H Q E, sp vs H Q E → vs.length = ps.length)
    (hbody : ∀ (cdv : Value) (A : Around) (outer : List Env) (s : Shared) (H : Hp) (vs : List V) (Q : VK) (E : XK), Room k (A.deeper (envOfC x (defScope st) s.heap.objs.size d.f cdv)) → sp vs H Q E →
      ∃ t, PSs (cxOf (L2.CX P w) P w K mg base N x (defScope st) d.f cdv A outer s H E) (defBody st) t ∧ t { nx := fun _ H' => Q .non H', rt := Q } (L2.start N vs) H) : Ok P w K mg base (k + 1) d sp := d.F.okX S len hbody
variable {A : Around} {outer : List Env} {s : Shared} {H : Hp} {E : XK} {N : List Str} {q : Str} {sc : Scope} {f : Addr} {cdv : Value}
/-- an error of a callee leaves the def -/
theorem passE : Passes (L2.CX P w) (cxOf (L2.CX P w) P w K mg base N q sc f cdv A outer s H E) E := passes_call (W := fun cls d _ H => E cls d H) (takes_of rfl rfl rfl rfl) (fun _ _ _ _ h => h)
theorem ownE : PassesOwn (model P w) (A.deeper (envOfC q sc s.heap.objs.size f cdv)) (envOfC q sc s.heap.objs.size f cdv) (cxOf (L2.CX P w) P w K mg base N q sc f cdv A outer s H E).xe := passes_of rfl
end
section
variable {X : Cx} {x : Str} {st : Stmt} {ps : List Str} {k : Nat} {sp : Sp} {E : XK} {p pos : Pos} {e : Expr} {es : List Expr} {t : TA}
theorem pcall (d : DF X.K X.mg x st ps) (G : Ok X.prog X.w X.K X.mg X.base k d sp) (hr : Room k X.A) (hx : Passes (L2.CX X.prog X.w) X E) (ha : PA X (e :: es) t) (hg : Gl X x := by rfl) (hdb : (x == ("__debug__" : Str)) = false := by decide)
    (he : starEach (e :: es) X.env = (false, eval e X.env) :: starEach es X.env := by rfl) (hpl : (backTo pos (starEach es X.env)).any (·.1) = false := by rfl) : PE X (.Call (.Name x p) (e :: es) [] pos) (tCall sp [] E t) :=
  pe_call G hr hg d.g d.F.kp d.b .nil hx ha hdb he hpl
theorem pcall0 (d : DF X.K X.mg x st ps) (G : Ok X.prog X.w X.K X.mg X.base k d sp) (hr : Room k X.A) (hx : Passes (L2.CX X.prog X.w) X E) (hg : Gl X x := by rfl) (hdb : (x == ("__debug__" : Str)) = false := by decide) : PE X (.Call (.Name x p) [] [] pos) (tCall sp [] E tNil) :=
  pe_call0 G hr hg d.g d.F.kp d.b .nil hx hdb
theorem x_call {σ : L2.St} {H : Hp} {Q : VK} {t : TA} (h : t σ H fun vs H1 => sp vs H1 Q E) : tCall sp [] E t σ H Q := by
  have e : (fun vs H1 => sp (vs ++ []) H1 Q E) = (fun vs H1 => sp vs H1 Q E) := by
    funext vs H1
    rw [List.append_nil]
  show t σ H (fun vs H1 => sp (vs ++ []) H1 Q E)
  rw [e]
  exact h
theorem go {t : TS} {D : Ends} {N : List Str} {vs : List V} {H : Hp} (σ : L2.St) (e : L2.start N vs = σ) (h : t D σ H) : t D (L2.start N vs) H := by
  rw [e]
  exact h
/-- a global that is a constant -/
def GV (mg : Str → Option Value) (x : Str) (v : V) : Prop := ∃ u, mg x = some u ∧ RelV v u
theorem pglob {v : V} (h : GV X.mg x v) (hg : Gl X x) (hd : (x == ("__debug__" : Str)) = false := by decide) : PE X (.Name x pos) (tC v) := by
  obtain ⟨u, h1, h2⟩ := h
  exact pe_glob hg h1 h2 hd
/-! what a for walks: a list, a tuple, a text -/
def rS (K : PySem.W.Frag) : V → Hp → (It → Hp → Prop) → Prop := fun x H R => match x with
  | .ref a => (∃ xs, SqL K H a xs ∧ R (Itl K a) H) ∨ (∃ xs, SqT K H a xs ∧ R (Itt K a) H)
  | .str z => R (Its z) H
  | _ => False
def iS (K : PySem.W.Frag) (tl : TE) : TI := fun σ H R => tl σ H fun x H1 => rS K x H1 R
theorem pi_s {tg l : Expr} {tl : TE} (hl : PE X l tl) : PI X tg l (iS X.K tl) := by
  refine ⟨fun pins s σ H R I h => ?_⟩
  refine thn (hl.run pins s σ H _ I h) fun v s1 ⟨y, H1, I1, r1, q1⟩ => ?_
  have q1 : rS X.K y H1 R := q1
  cases y with
  | ref a =>
    obtain rfl : v = Value.ref a := r1
    rcases q1 with ⟨xs, hq, q⟩ | ⟨xs, hq, q⟩
    · obtain ⟨its, rv, p, hz⟩ := I1.list hq
      refine wpAny_pyIter_list p.isList ?_
      refine ⟨s1.heap.objs.size, [s1.heap.objs.size], _, _, H1, rfl, I1.kept (t' := s1.toks) fun b o e => Heap.get?_push_of_some _ e, turn_list a _, ⟨_, Heap.get?_push_size _ rfl, rfl, rfl⟩, fun b hb => ?_, q⟩
      have e : b = s1.heap.objs.size := by simpa using hb
      subst e
      exact I1.fpOk (Nat.le_refl _) (I1.hok.fresh (Nat.le_refl _))
    · obtain ⟨its, rv, p, hz⟩ := I1.tuple hq
      refine wpAny_pyIter_tuple (show s1.heap.IsTuple a its.toArray from p) ?_
      refine ⟨s1.heap.objs.size, [s1.heap.objs.size], _, _, H1, rfl, I1.kept (t' := s1.toks) fun b o e => Heap.get?_push_of_some _ e, turn_tuple a _, ⟨_, Heap.get?_push_size _ rfl, rfl, rfl⟩, fun b hb => ?_, q⟩
      have e : b = s1.heap.objs.size := by simpa using hb
      subst e
      exact I1.fpOk (Nat.le_refl _) (I1.hok.fresh (Nat.le_refl _))
  | str z =>
    obtain ⟨t, rfl⟩ := r1
    cases ha : z.cps.all (· < 128)
    · exact wpAny_pyIter_wide ha (pi_one (tk := s1.toks) I1 _ (turn_str _ z t "str_iterator" (.inr rfl)) ⟨_, Heap.get?_push_size _ rfl, rfl, rfl⟩ q1)
    · exact wpAny_pyIter_ascii ha (pi_one (tk := s1.toks) I1 _ (turn_str _ z t "str_ascii_iterator" (.inl rfl)) ⟨_, Heap.get?_push_size _ rfl, rfl, rfl⟩ q1)
  | _ => exact q1.elim
section
variable {σ : L2.St} {H : Hp} {K : PySem.W.Frag} {R : It → Hp → Prop} {a : Addr} {xs : List V} {z : Str}
theorem x_s {tl : TE} (h : tl σ H fun x H1 => rS K x H1 R) : iS K tl σ H R := h
theorem z_sL (h : SqL K H a xs) (q : R (Itl K a) H) : rS K (.ref a) H R := .inl ⟨xs, h, q⟩
theorem z_sT (h : SqT K H a xs) (q : R (Itt K a) H) : rS K (.ref a) H R := .inr ⟨xs, h, q⟩
theorem z_sS (q : R (Its z) H) : rS K (.str z) H R := q
def rR1 (vs : List V) (H : Hp) (R : It → Hp → Prop) : Prop := ∃ j : Int, vs = [.int j] ∧ -(2 ^ 62) ≤ j ∧ j < 2 ^ 62 ∧ R (Itr 0 j.toNat) H
def rR2 (vs : List V) (H : Hp) (R : It → Hp → Prop) : Prop := ∃ i j : Int, vs = [.int i, .int j] ∧ (-(2 ^ 62) ≤ i ∧ i < 2 ^ 62 ∧ -(2 ^ 62) ≤ j ∧ j < 2 ^ 62) ∧ R (Itr i (j - i).toNat) H
theorem x_r1 {t : TA} (h : t σ H fun vs H1 => rR1 vs H1 R) : iRng1 t σ H R := h
theorem z_r1 {j : Int} (h1 : -(2 ^ 62) ≤ j) (h2 : j < 2 ^ 62) (q : R (Itr 0 j.toNat) H) : rR1 [.int j] H R := ⟨j, rfl, h1, h2, q⟩
theorem x_r2 {t : TA} (h : t σ H fun vs H1 => rR2 vs H1 R) : iRng2 t σ H R := h
theorem z_r2 {lo j : Int} (h : -(2 ^ 62) ≤ lo ∧ lo < 2 ^ 62 ∧ -(2 ^ 62) ≤ j ∧ j < 2 ^ 62) (q : R (Itr lo (j - lo).toNat) H) : rR2 [.int lo, .int j] H R := ⟨lo, j, rfl, h, q⟩
end
end
/-! ### comprehensions: the list made so far -/
def LcP (D : Addr) (Iv : Nat → List V → Hp → Prop) (i : Nat) (H : Hp) : Prop := ∃ ys, H D = some (.lst ys) ∧ ys.length ≤ i ∧ Iv i ys H
section
variable {D : Addr} {Iv : Nat → List V → Hp → Prop} {i n : Nat} {H : Hp} {ys : List V} {y : V}
theorem lc0 (h : Iv 0 [] (upd H D (.lst []))) : LcP D Iv 0 (upd H D (.lst [])) := ⟨[], upd_same, Nat.le_refl _, h⟩
theorem lc_put (hD : H D = some (.lst ys)) (hl : ys.length ≤ i) (hi : i < n) (hn : n ≤ 900000) (h : Iv (i + 1) (ys ++ [y]) (upd H D (.lst (ys ++ [y])))) :
    ∃ acc, H D = some (.lst acc) ∧ acc.length < sizeLine ∧ LcP D Iv (i + 1) (upd H D (.lst (acc ++ [y]))) :=
  ⟨ys, hD, sz_lt (by omega), ys ++ [y], upd_same, by rw [List.length_append, List.length_singleton]; omega, h⟩
theorem lc_skip (hD : H D = some (.lst ys)) (hl : ys.length ≤ i) (h : Iv (i + 1) ys H) : LcP D Iv (i + 1) H := ⟨ys, hD, by omega, h⟩
theorem x_lc {wi : TI} {g : TG} {tt : TT} {te : TE} {vs : List Nat} {σ : L2.St} {Q : VK} (h : wi σ H fun J H1 => ∀ D, H1 D = none → ∃ W : Nat → Nat → Hp → Prop, (∃ m, W 0 m (upd H1 D (.lst []))) ∧ ∀ i m H, W i m H →
      (J.stop i H ∧ Q (.ref D) H) ∨ (J.go i H ∧ ∃ Nx : Hp → Prop, (∀ H', Nx H' → ∃ m', m' < m ∧ W (i + 1) m' H') ∧ ∀ x H', J.yld i H x H' → g x (wipe σ vs) H' fun σ2 H2 => wipe σ2 vs = wipe σ vs ∧ tt σ2 H2 fun b H3 =>
        if b = true then te σ2 H3 fun y H4 => ∃ acc, H4 D = some (.lst acc) ∧ acc.length < sizeLine ∧ Nx (upd H4 D (.lst (acc ++ [y]))) else Nx H3)) : tLc wi g tt te vs σ H Q := h
theorem x_yes {σ : L2.St} {Q : Bool → Hp → Prop} (h : Q true H) : tYes σ H Q := h
end
/-! what a zip walks -/
def rZip (K : PySem.W.Frag) (vs : List V) (H : Hp) (R : It → Hp → Prop) : Prop := ∃ a b xs ys, vs = [.ref a, .ref b] ∧ ((SqL K H a xs ∧ SqL K H b ys ∧ R (Itz K a b) H) ∨ (SqT K H a xs ∧ SqT K H b ys ∧ R (RZ.ItzT K a b) H))
theorem x_zip {K : PySem.W.Frag} {σ : L2.St} {H : Hp} {t : TA} {R : It → Hp → Prop} (h : t σ H fun vs H1 => rZip K vs H1 R) : RZ.iZipA K t σ H R := h
theorem z_zipL {K : PySem.W.Frag} {H : Hp} {p q : Addr} {xs ys : List V} {R : It → Hp → Prop} (h1 : SqL K H p xs) (h2 : SqL K H q ys) (h : R (Itz K p q) H) : rZip K [.ref p, .ref q] H R := ⟨p, q, xs, ys, rfl, .inl ⟨h1, h2, h⟩⟩
theorem z_zipT {K : PySem.W.Frag} {H : Hp} {p q : Addr} {xs ys : List V} {R : It → Hp → Prop} (h1 : SqT K H p xs) (h2 : SqT K H q ys) (h : R (RZ.ItzT K p q) H) : rZip K [.ref p, .ref q] H R := ⟨p, q, xs, ys, rfl, .inr ⟨h1, h2, h⟩⟩
theorem walk_zipT {K : PySem.W.Frag} {a b : Addr} {xs ys : List V} {n : Nat} (hn : n = min xs.length ys.length) : Walk (RZ.ItzT K a b) n (fun H => SqT K H a xs ∧ SqT K H b ys) (YPair (fun i => xs[i]?) (fun i => ys[i]?)) := by
  subst hn
  refine ⟨fun i _ hi q => ?_, fun _ q => ⟨xs, ys, q.1, q.2, by omega⟩, fun i H v H' _ q y => ?_⟩
  · have h1 : i < xs.length := by omega
    have h2 : i < ys.length := by omega
    exact ⟨xs, ys, xs[i], ys[i], q.1, q.2, by simp [h1], by simp [h2]⟩
  · obtain ⟨T, x, z, h1, h2, h3, h4, h5⟩ := y
    exact ⟨T, x, z, h1, h2, h3, h4 xs q.1, h5 ys q.2⟩
/-! ### isinstance -/
theorem ki_bool_list : kitB "bool" "list" = some false := by decide +kernel
theorem ki_bool_tuple : kitB "bool" "tuple" = some false := by decide +kernel
theorem ki_bool_bool : kitB "bool" "bool" = some true := by decide +kernel
theorem ki_bool_int : kitB "bool" "int" = some true := by decide +kernel
theorem ki_bool_str : kitB "bool" "str" = some false := by decide +kernel
theorem ki_int_list : kitB "int" "list" = some false := by decide +kernel
theorem ki_int_tuple : kitB "int" "tuple" = some false := by decide +kernel
theorem ki_int_bool : kitB "int" "bool" = some false := by decide +kernel
theorem ki_int_int : kitB "int" "int" = some true := by decide +kernel
theorem ki_int_str : kitB "int" "str" = some false := by decide +kernel
theorem ki_str_list : kitB "str" "list" = some false := by decide +kernel
theorem ki_str_tuple : kitB "str" "tuple" = some false := by decide +kernel
theorem ki_str_bool : kitB "str" "bool" = some false := by decide +kernel
theorem ki_str_int : kitB "str" "int" = some false := by decide +kernel
theorem ki_str_str : kitB "str" "str" = some true := by decide +kernel
theorem ki_list_list : kitB "list" "list" = some true := by decide +kernel
theorem ki_list_tuple : kitB "list" "tuple" = some false := by decide +kernel
theorem ki_list_bool : kitB "list" "bool" = some false := by decide +kernel
theorem ki_list_int : kitB "list" "int" = some false := by decide +kernel
theorem ki_list_str : kitB "list" "str" = some false := by decide +kernel
theorem ki_tuple_list : kitB "tuple" "list" = some false := by decide +kernel
theorem ki_tuple_tuple : kitB "tuple" "tuple" = some true := by decide +kernel
theorem ki_tuple_bool : kitB "tuple" "bool" = some false := by decide +kernel
theorem ki_tuple_int : kitB "tuple" "int" = some false := by decide +kernel
theorem ki_tuple_str : kitB "tuple" "str" = some false := by decide +kernel
theorem ki_NoneType_list : kitB "NoneType" "list" = some false := by decide +kernel
theorem ki_NoneType_tuple : kitB "NoneType" "tuple" = some false := by decide +kernel
theorem ki_NoneType_bool : kitB "NoneType" "bool" = some false := by decide +kernel
theorem ki_NoneType_int : kitB "NoneType" "int" = some false := by decide +kernel
theorem ki_NoneType_str : kitB "NoneType" "str" = some false := by decide +kernel
section
variable {K : PySem.W.Frag} {H : Hp} {Q : VK} {x : V} {t : String} {b : Bool} {n : String}
theorem tyx_l {a : Addr} {xs : List V} (h : SqL K H a xs) : TyX K H (.ref a) (.type "list") := by
  rcases h with (h | ⟨o, h⟩) | ⟨o, its, m, h1, h2, _⟩
  · exact .base (.lst h)
  · exact .base (.frz h)
  · exact .kList h1 h2
theorem tyx_t {a : Addr} {xs : List V} (h : SqT K H a xs) : TyX K H (.ref a) (.type "tuple") := by
  rcases h with (h | ⟨o, h⟩) | ⟨o, its, m, h1, h2, _⟩
  · exact .base (.tup h)
  · exact .fTuple h
  · exact .kTuple h1 h2
theorem z_isi (ty : TyX K H x (.type t)) (e : kitB t n = some b) (q : Q (.bl b) H) : rIsi K [x, .ty n] H Q := ⟨x, .ty n, .type t, .type n, b, rfl, .ty n, ty, kit_ty e, q⟩
theorem z_isiT {tp : Addr} {n1 n2 : String} {b1 b2 : Bool} (ht : H tp = some (.tup [.ty n1, .ty n2])) (ty : TyX K H x (.type t)) (e1 : kitB t n1 = some b1) (e2 : kitB t n2 = some b2) (q : Q (.bl (b1 || b2)) H) : rIsiT K [x, .ref tp] H Q := by
  refine ⟨x, tp, [.ty n1, .ty n2], .type t, [.type n1, .type n2], b1 || b2, rfl, ht, .cons (.ty n1) (.cons (.ty n2) .nil), ty, kitAny_cons (kit_ty e1) (fun h => ?_) (fun h => by rw [h]; rfl), q⟩
  subst h
  refine kitAny_cons (kit_ty e2) (fun h => ?_) (fun h => by rw [h]; rfl)
  subst h
  exact kitAny_nil
end
end R

/-! # U3: more built-ins -/
namespace R
open PySem PySem.Spec PyProof.Rows L2
def sInt (_ : PySem.W.Frag) : List V → Hp → VK → Prop := fun vs H Q => match vs with
  | [.int i] => Q (.int i) H
  | [.bl k] => Q (.int (if k then 1 else 0)) H
  | [.str a] => ∃ n, PySem.intText? a = some n ∧ a.length ≤ 640 ∧ Q (.int n) H
  | _ => False
theorem call_sInt {X : Cx} : CallR X (.type "int") (sInt X.K) := call_or call_int1 call_int_str fun vs H Q q => by
  unfold sInt at q
  split at q
  · exact .inl (.inl ⟨_, rfl, q⟩)
  · exact .inl (.inr ⟨_, rfl, q⟩)
  · obtain ⟨n, h1, h2, q⟩ := q
    exact .inr ⟨_, n, rfl, h1, h2, q⟩
  · exact q.elim
def sStr (_ : PySem.W.Frag) : List V → Hp → VK → Prop := fun vs H Q => match vs with
  | [.int i] => i.natAbs.log2 < 1920 ∧ Q (.str (toString i)) H
  | [.str a] => Q (.str a) H
  | _ => False
theorem call_sStr {X : Cx} : CallR X (.type "str") (sStr X.K) := call_or call_str_int SkE.call_str_str fun vs H Q q => by
  unfold sStr at q
  split at q
  · exact .inl ⟨_, rfl, q⟩
  · exact .inr ⟨_, rfl, q⟩
  · exact q.elim
def sAbs (_ : PySem.W.Frag) : List V → Hp → VK → Prop := fun vs H Q => match vs with
  | [.int i] => Q (.int (if i < 0 then -i else i)) H
  | _ => False
theorem call_sAbs {X : Cx} : CallR X (.builtin "abs") (sAbs X.K) := call_imp call_abs fun vs H Q q => by
  unfold sAbs at q
  split at q
  · exact ⟨_, rfl, q⟩
  · exact q.elim
section
variable {K : PySem.W.Frag} {H : Hp} {Q : VK} {i : Int} {b : Bool} {a : Str}
theorem z_intI (h : Q (.int i) H) : sInt K [.int i] H Q := h
theorem z_intB (h : Q (.int (if b then 1 else 0)) H) : sInt K [.bl b] H Q := h
theorem z_strS (h : Q (.str a) H) : sStr K [.str a] H Q := h
theorem z_strI (h1 : i.natAbs.log2 < 1920) (h : Q (.str (toString i)) H) : sStr K [.int i] H Q := ⟨h1, h⟩
theorem z_abs (h : Q (.int (if i < 0 then -i else i)) H) : sAbs K [.int i] H Q := h
end
end R

/-! # X1: the package's own errors, raised -/
namespace R
open PySem PySem.Spec PyProof.Rows L2
/-- the fields of the package's errors -/
def efs : List Str := ["tag", "state", "position", "name", "row"]
/-- a class of errors under ValueError, with its own __init__ at fI -/
structure EX (K : PySem.W.Frag) (mg : Str → Option Value) (x qual : Str) (st : Stmt) (ps : List Str) where
  C : Addr
  fI : Addr
  fd : FuncData
  cls : OexC K C
  g : mg x = some (.ref C)
  iC : PySem.W.findIn K (.ref C) "__init__" = some (some (.ref fI))
  tI : PySem.W.typeIn K (.ref fI) = some (.type "function")
  F : Fun K "__init__" qual (inClass st 0) fI fd
  b : Binds K fd ps []
  no : ∀ f : Str, f ∈ efs → PySem.W.findIn K (.ref C) f = some none
theorem pmk_oex0 {X : Cx} {CX : CXT} {x : Str} {C fI : Addr} {k : Nat} {fd : FuncData} {ps : List Str} {sp : Sp} {p pos : Pos} (T : OexC X.K C) (iC : PySem.W.findIn X.K (.ref C) "__init__" = some (some (.ref fI))) (tI : PySem.W.typeIn X.K (.ref fI) = some (.type "function"))
    (F1 : FnOk X.prog X.w X.K X.mg X.base CX k fI fd ps sp) (hr : Room (k + 1) X.A) (hb : Binds X.K fd ps []) (hx : Passes CX X (fun _ _ _ => False)) (hg : Gl X x) (hm : X.mg x = some (.ref C))
    (hdb : (x == ("__debug__" : Str)) = false := by decide) : PMk X (.Call (.Name x p) [] [] pos) (tMkO C sp [] tNil) := by
  intro pins s σ H Q I h
  obtain ⟨nm, q, N, bs, bm, sn, sub, ab, col, dd, k0, k1, k2, k3, k5, hC, hbm⟩ := T.cls
  refine wpAny_Call_Name_kw (ld_glob I hg hm ?_ hdb)
  refine PySem.W.callWith_K0 I.kIn T.kC ?_
  obtain ⟨hz, q1⟩ := h
  show wpAny _ _ (call (.ref C) []) _ _ _
  obtain ⟨hp, g, dr, tk, os⟩ := s
  have hsz : hp.objs.size ≤ hp.objs.size + 1 := Nat.le_succ _
  have hn : H (hp.objs.size + 1) = none := I.hok.fresh hsz
  have hq := q1 (hp.objs.size + 1) hn
  have kk : ∀ b o, hp.get? b = some o → ((hp.push (PySem.W.kdv_tup [])).push (PySem.HandSPX.excO C hp.objs.size)).get? b = some o := fun b o e => Heap.get?_push_of_some _ (Heap.get?_push_of_some _ e)
  have hget : ((hp.push (PySem.W.kdv_tup [])).push (PySem.HandSPX.excO C hp.objs.size)).get? (hp.objs.size + 1) = some (PySem.HandSPX.excO C hp.objs.size) := by heap_get
  have I2 : Inv X pins σ (upd H (hp.objs.size + 1) (exo (hp.objs.size + 1) C none)) ⟨(hp.push (PySem.W.kdv_tup [])).push (PySem.HandSPX.excO C hp.objs.size), g, dr, tk, os⟩ :=
    I.laid (t' := tk) (a := hp.objs.size + 1) (o := exo (hp.objs.size + 1) C none) (h' := (hp.push (PySem.W.kdv_tup [])).push (PySem.HandSPX.excO C hp.objs.size)) kk hsz (exo_ok hget)
  have r2 : Vals (V.ref (hp.objs.size + 1) :: ([] ++ [])) ([Value.ref (hp.objs.size + 1)] ++ []) := .cons rfl .nil
  have hl : (Value.ref (hp.objs.size + 1) :: [] ++ []).length = ps.length := by
    have e := F1.len _ _ _ _ hq
    exact e
  refine wpAny_call (PySem.HandSPX.call_own F.excBase_ValueError (fun Y => PySem.HandSPX.refsVE_contains Y bm hbm) (I.kIn _ _ hC) (PySem.W.looks_findIn I.kIn iC) (fun self => PySem.W.bind_fn I.kIn self tI) (Nat.zero_le _)
    (codeAny_mono (F1.run _ X.stack _ _ ⟨Value.ref (hp.objs.size + 1) :: [], []⟩ ([Value.ref (hp.objs.size + 1)] ++ []) _ _ (fun _ _ _ => False) (hr.make C [] []) (I2.env0.make C [] []) (hb _ [Value.ref (hp.objs.size + 1)] I2.kIn hl) r2 hq) fun r s' hq' => ?_))
  cases r with
  | error er => exact hx pins σ _ _ er s' I2 hq'
  | ok fl =>
    cases fl with
    | ret u =>
      obtain ⟨v, H2, os2, bare2, un2, hok2, rv, ev, d, fs, ea, ed, hd1, q2⟩ := hq'
      subst ev
      obtain ⟨h2, g2, d2, t2, os'⟩ := s'
      exact ⟨rv, mk_end (raises_own T.exC T.tyC) I hsz kk un2 hok2 os2 bare2 ea ed hd1 q2⟩
    | next => exact False.elim hq'
    | brk => exact False.elim hq'
    | cont => exact False.elim hq'
/-- what a maker of such an error leaves: the fields of its own dict -/
def spErr (C : Addr) (fs : List V → List (Str × V)) (n : Nat) : Sp := fun vs H Q _ => ∃ a ws, vs = .ref a :: ws ∧ ws.length = n ∧ H a = some (exo a C none) ∧
  ∀ (d : Addr) (H' : Hp), H d = none → H' a = some (exo a C (some d)) → H' d = some (exd d (fs ws)) → (∀ b o, H b = some o → b ≠ a → H' b = some o) → Q .non H'
/-- an error of the class at C with the fields fs is wanted: all that stood stands -/
def Er (E : XK) (C : Addr) (fs : List (Str × V)) (H : Hp) : Prop := ∀ (d : Addr) (H' : Hp), H d = none → H' d = some (.xd fs) → Ex H H' → E (.ref C) (some d) H'
/-- X(e, ..) made, then thrown -/
def rMk (C : Addr) (sp : Sp) (vs : List V) (H : Hp) (Q : XK) : Prop := vs.length ≤ 1000 ∧ ∀ a, H a = none → sp (.ref a :: (vs ++ [])) (upd H a (exo a C none))
  (fun v H2 => v = .non ∧ ∃ (d : Addr) (fs : List (Str × V)), H2 a = some (exo a C (some d)) ∧ H2 d = some (exd d fs) ∧ H d = none ∧ Q (.ref C) (some d) (upd (del H2 a) d (.xd fs))) (fun _ _ _ => False)
def tRs (C : Addr) (sp : Sp) (W : WX) (ta : TA) : TS := fun _ σ H => ta σ H fun vs H1 => rMk C sp vs H1 fun cls d H' => W cls d σ H'
theorem x_rs {C : Addr} {sp : Sp} {W : WX} {ta : TA} {D : Ends} {σ : L2.St} {H : Hp} (h : ta σ H fun vs H1 => rMk C sp vs H1 fun cls d H' => W cls d σ H') : tRs C sp W ta D σ H := h
theorem z_rs {C : Addr} {n : Nat} {fs : List V → List (Str × V)} {Q : XK} {vs : List V} {H : Hp} (h1 : vs.length = n) (h2 : n ≤ 1000) (h : Er Q C (fs vs) H) : rMk C (spErr C fs n) vs H Q := by
  refine ⟨by omega, fun a na => ⟨a, vs ++ [], rfl, by rw [List.append_nil]; exact h1, upd_same, fun d H' nd ea ed kp => ⟨rfl, d, fs vs, ea, by rw [List.append_nil] at ed; exact ed, ?_, ?_⟩⟩⟩
  · exact (upd_none nd).2
  · refine h d _ (upd_none nd).2 upd_same fun b o e => ?_
    have nb : b ≠ a := ne_of_none e na
    rw [upd_ne (ne_of_none e (upd_none nd).2), del_ne nb]
    exact kp b o (by rw [upd_ne nb]; exact e) nb
section
variable {X : Cx} {x q : Str} {st : Stmt} {ps : List Str} {k : Nat} {sp : Sp} {W : WX} {p pos pos2 : Pos}
theorem praise0 (d : EX X.K X.mg x q st ps) (G : FnOk X.prog X.w X.K X.mg X.base (L2.CX X.prog X.w) k d.fI d.fd ps sp) (hr : Room (k + 1) X.A) (hc : X.calm = true) (tk : Takes X W) (hg : Gl X x := by rfl) (hdb : (x == ("__debug__" : Str)) = false := by decide) :
    PS X (.Raise (some (.Call (.Name x p) [] [] pos)) none pos2) (tRs d.C sp W tNil) := ps_raise hc tk (pmk_oex0 d.cls d.iC d.tI G hr d.b passL hg d.g hdb)
theorem praise {e : Expr} {es : List Expr} {ta : TA} (d : EX X.K X.mg x q st ps) (G : FnOk X.prog X.w X.K X.mg X.base (L2.CX X.prog X.w) k d.fI d.fd ps sp) (hr : Room (k + 1) X.A) (hc : X.calm = true) (tk : Takes X W) (ha : PA X (e :: es) ta) (hg : Gl X x := by rfl) (hdb : (x == ("__debug__" : Str)) = false := by decide)
    (he : starEach (e :: es) X.env = (false, eval e X.env) :: starEach es X.env := by rfl) (hpl : (backTo pos (starEach es X.env)).any (·.1) = false := by rfl) :
    PS X (.Raise (some (.Call (.Name x p) (e :: es) [] pos)) none pos2) (tRs d.C sp W ta) := ps_raise hc tk (pmk_oex d.cls d.iC d.tI G hr d.b .nil passL hg d.g ha hdb he hpl)
end
theorem ei_end {K : PySem.W.Frag} {C a : Addr} {D : Ends} {σ : L2.St} {H : Hp} {f : Str} {y : V} {Q : VK} (cls : OexC K C) (no : PySem.W.findIn K (.ref C) f = some none) (ha : H a = some (exo a C none))
    (k : ∀ dx, H dx = none → dx ≠ a → D.nx σ (upd (upd H dx (exd dx [(f, y)])) a (exo a C (some dx)))) : ∃ (b C' : Addr), V.ref a = .ref b ∧ OexC K C' ∧ PySem.W.findIn K (.ref C') f = some none ∧
      ((H b = some (exo b C' none) ∧ ∀ dx, H dx = none → dx ≠ b → D.nx σ (upd (upd H dx (exd dx [(f, y)])) b (exo b C' (some dx)))) ∨
        ∃ (dx : Addr) (fs : List (Str × V)), H b = some (exo b C' (some dx)) ∧ H dx = some (exd dx fs) ∧ fs.length ≤ 900 ∧ D.nx σ (upd H dx (exd dx ((f, y) :: fs)))) := ⟨a, C, rfl, cls, no, .inl ⟨ha, k⟩⟩
end R

/-! # C1: classes of the text, defs with a keyword-only parameter -/
namespace R
open PySem PySem.Spec PyProof.Rows L2
/-- a class -/
structure CK (K : PySem.W.Frag) (mg : Str → Option Value) (x : Str) (fl : List Str) where
  C : Addr
  cl : Cls K C
  g : mg x = some (.ref C)
  no : ∀ f ∈ fl, NoAttr K C f
theorem gv_of {mg : Str → Option Value} {x : Str} {C : Addr} (h : mg x = some (.ref C)) : GV mg x (.ref C) := ⟨_, h, rfl⟩
/-- its own __eq__ at f, no own __ne__ -/
structure EQ (K : PySem.W.Frag) (C f : Addr) : Prop where
  eq : PySem.W.findIn K (.ref C) "__eq__" = some (some (.ref f))
  fn : PySem.W.isFn K (.ref f) = true
  ne : PySem.W.findIn K (.ref C) "__ne__" = some (some (.builtin "object.__ne__"))
  pl : PySem.W.plainOver K C = true
  ca : PySem.W.findIn K (.ref C) "__class__" = some (some (.builtin "object.__class__"))
  cn : PySem.W.specialIn K (.builtin "object.__class__") "__get__" = some (some (.builtin "getset_descriptor.__get__"))
  ct : PySem.W.takesIn K (.builtin "object.__class__") = some true
  cm : PySem.W.mroIn K C (.type "object") = some true
  ki : ∀ n ∈ (["NoneType", "tuple", "str"] : List String), PySem.W.kitOne K (.type n) (.ref C) = some false
/-- its __init__, with one keyword-only parameter -/
structure IK (K : PySem.W.Frag) (C : Addr) (qual : Str) (st : Stmt) (ps : List Str) (n : Nat) (kws : List (Str × V)) where
  f : Addr
  fd : FuncData
  F : FunD K "__init__" qual (defArgs st) (defBody st) (defScope st) [] kws f fd
  mak : Mk K C f
  dv : List Value
  hdv : Vals (kws.map (·.2)) dv
  b : Binds K fd ps dv
  kb : KBn K fd ps n (kws.map (·.1)) (fun us ws => us ++ ws) (fun vs zs => vs ++ zs)
/-- a method -/
structure MT (K : PySem.W.Frag) (C : Addr) (m qual : Str) (st : Stmt) (ps : List Str) where
  f : Addr
  fd : FuncData
  F : Fun K m qual st f fd
  mt : Meth K C m f
  b : Binds K fd ps []
/-- a def with one keyword-only parameter -/
structure DK (K : PySem.W.Frag) (mg : Str → Option Value) (x : Str) (st : Stmt) (ps : List Str) (n : Nat) (kws : List (Str × V)) where
  f : Addr
  fd : FuncData
  F : FunD K x x (defArgs st) (defBody st) (defScope st) [] kws f fd
  g : mg x = some (.ref f)
  dv : List Value
  hdv : Vals (kws.map (·.2)) dv
  b : Binds K fd ps dv
  kb : KBn K fd ps n (kws.map (·.1)) (fun us ws => us ++ ws) (fun vs zs => vs ++ zs)
section
variable {X : Cx} {C : Addr} {fl : List Str} {x m qual : Str} {st : Stmt} {ps : List Str} {k n : Nat} {kws : List (Str × V)} {sp : Sp} {E : XK} {p pos apos : Pos} {e o : Expr} {es : List Expr} {ta : TE} {t tk : TA} {kw : List Keyword}
theorem pmeth {pl : Sem Bool} (d : MT X.K C m qual st ps) (c : Cls X.K C) (G : FnOk X.prog X.w X.K X.mg X.base (L2.CX X.prog X.w) k d.f d.fd ps sp) (hr : Room k X.A) (hx : Passes (L2.CX X.prog X.w) X E) (he : PE X o ta) (ha : PA X (e :: es) t)
    (hst : starEach (e :: es) X.env = (false, eval e X.env) :: starEach es X.env := by rfl) (hpl : (backTo pos (starEach es X.env)).any (·.1) = false := by rfl)
    (ht : eval (.Call (.Attribute o m apos) (e :: es) [] pos) X.env = (do
      let ov ← eval o X.env
      standAt apos.atName
      let (f, first) ← holding [ov] (getMethod ov m pl)
      callWith pos f first (backTo pos (starEach (e :: es) X.env)) (backToKw pos (keywordEach [] X.env))) := by rfl) :
    PE X (.Call (.Attribute o m apos) (e :: es) [] pos) (tMeth C m sp [] E ta t) := pe_meth he c d.mt G hr d.b .nil hx ha hst hpl ht
theorem pmeth0 {pl : Sem Bool} (d : MT X.K C m qual st ps) (c : Cls X.K C) (G : FnOk X.prog X.w X.K X.mg X.base (L2.CX X.prog X.w) k d.f d.fd ps sp) (hr : Room k X.A) (hx : Passes (L2.CX X.prog X.w) X E) (he : PE X o ta)
    (ht : eval (.Call (.Attribute o m apos) [] [] pos) X.env = (do
      let ov ← eval o X.env
      standAt apos.atName
      let (f, first) ← holding [ov] (getMethod ov m pl)
      callWith pos f first (backTo pos (starEach [] X.env)) (backToKw pos (keywordEach [] X.env))) := by rfl) :
    PE X (.Call (.Attribute o m apos) [] [] pos) (tMeth C m sp [] E ta tNil) := pe_meth0 he c d.mt G hr d.b .nil hx ht
theorem pmake (g : X.mg x = some (.ref C)) (d : IK X.K C qual st ps n kws) (G : FnOk X.prog X.w X.K X.mg X.base (L2.CX X.prog X.w) k d.f d.fd ps sp) (hr : Room (k + 1) X.A) (hx : Passes (L2.CX X.prog X.w) X E) (ha : PA X (e :: es) t) (hg : Gl X x := by rfl) (hdb : (x == ("__debug__" : Str)) = false := by decide)
    (he : starEach (e :: es) X.env = (false, eval e X.env) :: starEach es X.env := by rfl) (hpl : (backTo pos (starEach es X.env)).any (·.1) = false := by rfl) :
    PE X (.Call (.Name x p) (e :: es) [] pos) (tMake C sp (kws.map (·.2)) E t) := pe_make d.mak G hr hg g d.b d.hdv hx ha hdb he hpl
theorem pmakeK (g : X.mg x = some (.ref C)) (d : IK X.K C qual st ps (n + 1) kws) (G : FnOk X.prog X.w X.K X.mg X.base (L2.CX X.prog X.w) k d.f d.fd ps sp) (hr : Room (k + 1) X.A) (hx : Passes (L2.CX X.prog X.w) X E) (ha : PA X (e :: es) t) (hkw : PK X kw tk) (hg : Gl X x := by rfl) (hdb : (x == ("__debug__" : Str)) = false := by decide)
    (hall : (backToKw pos (keywordEach kw X.env)).all (·.1.isSome) = true := by rfl) (hks : (backToKw pos (keywordEach kw X.env)).filterMap (·.1) = kws.map (·.1) := by rfl)
    (he : starEach (e :: es) X.env = (false, eval e X.env) :: starEach es X.env := by rfl) (hpl : ((backTo pos (starEach (e :: es) X.env)).any (·.1) || (backToKw pos (keywordEach kw X.env)).any (·.1.isNone)) = false := by rfl) :
    PE X (.Call (.Name x p) (e :: es) kw pos) (tMakeK C n (kws.map (·.1)).length sp (fun vs zs => vs ++ zs) E t tk) := pe_makeK d.mak G hr hg g d.kb hx ha hkw hall hks hdb he hpl
/-- f(e, ..) of such a def, the keyword left out; with it -/
theorem pcallD (d : DK X.K X.mg x st ps n kws) (G : FnOk X.prog X.w X.K X.mg X.base (L2.CX X.prog X.w) k d.f d.fd ps sp) (hr : Room k X.A) (hx : Passes (L2.CX X.prog X.w) X E) (ha : PA X (e :: es) t) (hg : Gl X x := by rfl) (hdb : (x == ("__debug__" : Str)) = false := by decide)
    (he : starEach (e :: es) X.env = (false, eval e X.env) :: starEach es X.env := by rfl) (hpl : (backTo pos (starEach es X.env)).any (·.1) = false := by rfl) : PE X (.Call (.Name x p) (e :: es) [] pos) (tCall sp (kws.map (·.2)) E t) :=
  pe_call G hr hg d.g d.F.kp d.b d.hdv hx ha hdb he hpl
theorem pcallD0 (d : DK X.K X.mg x st ps n kws) (G : FnOk X.prog X.w X.K X.mg X.base (L2.CX X.prog X.w) k d.f d.fd ps sp) (hr : Room k X.A) (hx : Passes (L2.CX X.prog X.w) X E) (hg : Gl X x := by rfl) (hdb : (x == ("__debug__" : Str)) = false := by decide) : PE X (.Call (.Name x p) [] [] pos) (tCall sp (kws.map (·.2)) E tNil) :=
  pe_call0 G hr hg d.g d.F.kp d.b d.hdv hx hdb
theorem pcallN (d : DK X.K X.mg x st ps n kws) (G : FnOk X.prog X.w X.K X.mg X.base (L2.CX X.prog X.w) k d.f d.fd ps sp) (hr : Room k X.A) (hx : Passes (L2.CX X.prog X.w) X E) (ha : PA X (e :: es) t) (hkw : PK X kw tk) (hg : Gl X x := by rfl) (hdb : (x == ("__debug__" : Str)) = false := by decide)
    (hall : (backToKw pos (keywordEach kw X.env)).all (·.1.isSome) = true := by rfl) (hks : (backToKw pos (keywordEach kw X.env)).filterMap (·.1) = kws.map (·.1) := by rfl)
    (he : starEach (e :: es) X.env = (false, eval e X.env) :: starEach es X.env := by rfl) (hpl : ((backTo pos (starEach (e :: es) X.env)).any (·.1) || (backToKw pos (keywordEach kw X.env)).any (·.1.isNone)) = false := by rfl) :
    PE X (.Call (.Name x p) (e :: es) kw pos) (tCallN n (kws.map (·.1)).length sp (fun vs zs => vs ++ zs) E t tk) := pe_callN G hr hg d.g d.F.kp d.kb hx ha hkw hall hks hdb he hpl
theorem pcallN0 (d : DK X.K X.mg x st ps 0 kws) (G : FnOk X.prog X.w X.K X.mg X.base (L2.CX X.prog X.w) k d.f d.fd ps sp) (hr : Room k X.A) (hx : Passes (L2.CX X.prog X.w) X E) (hkw : PK X kw tk) (hg : Gl X x := by rfl) (hdb : (x == ("__debug__" : Str)) = false := by decide)
    (hall : (backToKw pos (keywordEach kw X.env)).all (·.1.isSome) = true := by rfl) (hks : (backToKw pos (keywordEach kw X.env)).filterMap (·.1) = kws.map (·.1) := by rfl)
    (hpl : ((backTo pos (starEach [] X.env)).any (·.1) || (backToKw pos (keywordEach kw X.env)).any (·.1.isNone)) = false := by rfl) :
    PE X (.Call (.Name x p) [] kw pos) (tCallN 0 (kws.map (·.1)).length sp (fun vs zs => vs ++ zs) E tNil tk) := by
  refine ⟨fun pins s σ H Q I h => ?_⟩
  refine wpAny_Call_Name_kw (ld_glob I hg d.g ?_ hdb)
  refine PySem.W.callWith_KW0 (h₀ := X.base) I.ok.mod.kin d.F.kp hall ?_ hpl
  refine thn (hkw.run pos pins s σ H _ I h) fun ws s2 ⟨zs, H2, I2, rz, l1, l2, q2⟩ => ⟨I2.kIn, ?_⟩
  rw [hks]
  exact run_fnN (us := []) (vs := []) G hr d.kb hx I2 .nil rz rfl l2 q2
end
/-! readings by heads -/
section
variable {σ : L2.St} {H : Hp} {Q : VK} {E : XK} {sp : Sp} {C : Addr} {m : Str}
def rMeth (C : Addr) (m : Str) (sp : Sp) (t : TA) (σ : L2.St) (E : XK) (x : V) (H : Hp) (Q : VK) : Prop := ∃ a dx fs, x = .ref a ∧ H a = some (.ins C dx fs) ∧ fs.lookup m = none ∧ t σ H fun vs H2 => sp (x :: (vs ++ [])) H2 Q E
theorem x_meth {ta : TE} {t : TA} (h : ta σ H fun x H1 => rMeth C m sp t σ E x H1 Q) : tMeth C m sp [] E ta t σ H Q := h
theorem z_meth {t : TA} {a dx : Addr} {fs : List (Str × V)} (h : H a = some (.ins C dx fs)) (hl : fs.lookup m = none) (k : t σ H fun vs H2 => sp (.ref a :: vs) H2 Q E) : rMeth C m sp t σ E (.ref a) H Q := by
  refine ⟨a, dx, fs, rfl, h, hl, ?_⟩
  have e : (fun vs H2 => sp (V.ref a :: (vs ++ [])) H2 Q E) = (fun vs H2 => sp (V.ref a :: vs) H2 Q E) := by
    funext vs H2
    rw [List.append_nil]
  rw [e]
  exact k
def rMake (C : Addr) (sp : Sp) (dvs : List V) (E : XK) (vs : List V) (H : Hp) (Q : VK) : Prop := ∀ x dx, H x = none → H dx = none → dx ≠ x → sp (.ref x :: (vs ++ dvs)) (upd (upd H dx (.own x)) x (.ins C dx [])) (fun v H2 => v = .non ∧ Q (.ref x) H2) E
theorem x_make {dvs : List V} {t : TA} (h : t σ H fun vs H1 => rMake C sp dvs E vs H1 Q) : tMake C sp dvs E t σ H Q := h
def rMakeK (C : Addr) (n j : Nat) (sp : Sp) (E : XK) (vs zs : List V) (H : Hp) (Q : VK) : Prop := vs.length = n ∧ zs.length = j ∧ rMake C sp zs E vs H Q
theorem x_makeK' {n j : Nat} {t tk : TA} (h : t σ H fun vs H1 => tk σ H1 fun zs H2 => rMakeK C n j sp E vs zs H2 Q) : tMakeK C n j sp (fun vs zs => vs ++ zs) E t tk σ H Q := h
theorem z_makeK {n j : Nat} {vs zs : List V} (h1 : vs.length = n) (h2 : zs.length = j) (k : rMake C sp zs E vs H Q) : rMakeK C n j sp E vs zs H Q := ⟨h1, h2, k⟩
def rFld (K : PySem.W.Frag) (f : Str) (x : V) (H : Hp) (Q : VK) : Prop := ∃ a C dx fs v, x = .ref a ∧ H a = some (.ins C dx fs) ∧ Cls K C ∧ NoAttr K C f ∧ fs.lookup f = some v ∧ Q v H
theorem x_fld {K : PySem.W.Frag} {ta : TE} {f : Str} (h : ta σ H fun x H1 => rFld K f x H1 Q) : tFld K ta f σ H Q := h
theorem z_fld {K : PySem.W.Frag} {f : Str} {a dx : Addr} {fs : List (Str × V)} {v : V} (h : H a = some (.ins C dx fs)) (c : Cls K C) (n : NoAttr K C f) (hl : fs.lookup f = some v) (k : Q v H) : rFld K f (.ref a) H Q := ⟨a, C, dx, fs, v, rfl, h, c, n, hl, k⟩
def rSfld (K : PySem.W.Frag) (f : Str) (x y : V) (H : Hp) (P : Hp → Prop) : Prop := ∃ a C dx fs, x = .ref a ∧ H a = some (.ins C dx fs) ∧ Cls K C ∧ NoAttr K C f ∧ fs.length < 1000 ∧ P (upd H a (.ins C dx (putF f y fs)))
theorem x_sfld {K : PySem.W.Frag} {ta tv : TE} {f : Str} {D : Ends} (h : tv σ H fun y H1 => ta σ H1 fun x H2 => rSfld K f x y H2 fun H3 => D.nx σ H3) : sFld K ta tv f D σ H := h
theorem z_sfld {K : PySem.W.Frag} {f : Str} {a dx : Addr} {fs : List (Str × V)} {y : V} {P : Hp → Prop} (h : H a = some (.ins C dx fs)) (c : Cls K C) (n : NoAttr K C f) (hl : fs.length < 1000) (k : P (upd H a (.ins C dx (putF f y fs)))) : rSfld K f (.ref a) y H P := ⟨a, C, dx, fs, rfl, h, c, n, hl, k⟩
/-- the same, the fields told; what changed is x alone -/
theorem z_sfldC {K : PySem.W.Frag} {f : Str} {a dx : Addr} {fs : List (Str × V)} {y : V} {P : Hp → Prop} (gs : List (Str × V)) (h : H a = some (.ins C dx fs)) (c : Cls K C) (n : NoAttr K C f) (e : putF f y fs = gs) (k : ∀ H', Kp a H H' → H' a = some (.ins C dx gs) → (∀ b, H' b = none → H b = none) → P H') (hl : fs.length < 1000 := by exact Nat.le_of_ble_eq_true rfl) : rSfld K f (.ref a) y H P := by
  subst e
  exact z_sfld h c n hl (k _ Kp.set upd_same fun b hb => (upd_none hb).2)
def rCallN (n j : Nat) (sp : Sp) (E : XK) (vs zs : List V) (H : Hp) (Q : VK) : Prop := vs.length = n ∧ zs.length = j ∧ sp (vs ++ zs) H Q E
theorem x_callN {n j : Nat} {t tk : TA} (h : t σ H fun vs H1 => tk σ H1 fun zs H2 => rCallN n j sp E vs zs H2 Q) : tCallN n j sp (fun vs zs => vs ++ zs) E t tk σ H Q := h
theorem z_callN {n j : Nat} {vs zs : List V} (h1 : vs.length = n) (h2 : zs.length = j) (k : sp (vs ++ zs) H Q E) : rCallN n j sp E vs zs H Q := ⟨h1, h2, k⟩
theorem x_callD {dvs : List V} {t : TA} (h : t σ H fun vs H1 => sp (vs ++ dvs) H1 Q E) : tCall sp dvs E t σ H Q := h
end
/-! enumerate of a list -/
def rEnum (K : PySem.W.Frag) (vs : List V) (H : Hp) (R : It → Hp → Prop) : Prop := ∃ a xs, vs = [.ref a] ∧ SqL K H a xs ∧ R (Ite K a) H
theorem x_enum {K : PySem.W.Frag} {σ : L2.St} {H : Hp} {t : TA} {R : It → Hp → Prop} (h : t σ H fun vs H1 => rEnum K vs H1 R) : iEnum K t σ H R := h
theorem z_enum {K : PySem.W.Frag} {H : Hp} {p : Addr} {xs : List V} {R : It → Hp → Prop} (h1 : SqL K H p xs) (h : R (Ite K p) H) : rEnum K [.ref p] H R := ⟨p, xs, rfl, h1, h⟩
end R

/-! # DX: texts -/
namespace R
open PySem PySem.Spec PyProof.Rows L2
def sJoin (K : PySem.W.Frag) : V → List V → Hp → VK → Prop := fun x xs H Q => ∃ a p, ∃ ys : List Str, x = .str a ∧ xs = [.ref p] ∧ (SqL K H p (ys.map V.str) ∨ SqT K H p (ys.map V.str)) ∧ (ys.map (·.length)).sum + ys.length * a.length ≤ 16777216 ∧ Q (.str (Txt.join a ys)) H
theorem pjoin {X : Cx} {o e : Expr} {to te : TE} {apos pos : Pos} (ho : PE X o to) (he : PE X e te) (hs : starEach [e] X.env = [(false, eval e X.env)] := by rfl) (hbase : attributeBase o "join" X.env (eval o X.env) = eval o X.env := by rfl) (hline : (apos.endLine == pos.line) = true := by rfl) :
    PE X (.Call (.Attribute o "join" apos) [e] [] pos) (tM1 (sJoin X.K) to te) := pe_join ho he hs hbase hline
section
variable {σ : L2.St} {H : Hp} {Q : VK} {K : PySem.W.Frag} {p : Addr} {ys : List Str} {a : Str}
theorem x_m1 {r : V → List V → Hp → VK → Prop} {to te : TE} (h : to σ H fun x H1 => (∃ a, x = .str a) ∧ te σ H1 fun y H2 => r x [y] H2 Q) : tM1 r to te σ H Q := h
theorem x_isstr {P : Prop} (h : P) : (∃ b, V.str a = .str b) ∧ P := ⟨⟨a, rfl⟩, h⟩
theorem z_join (h : Sq K H p (ys.map V.str)) (hz : (ys.map (·.length)).sum + ys.length * a.length ≤ 16777216) (k : Q (.str (Txt.join a ys)) H) : sJoin K (.str a) [.ref p] H Q := ⟨a, p, ys, rfl, rfl, h, hz, k⟩
end
theorem join_len (a : Str) (ys : List Str) : (Txt.join a ys).length ≤ (ys.map (·.length)).sum + ys.length * a.length := by
  show (Builtin.Str.glued a ys).length ≤ _
  rw [StrLaws.glued_eq_join]
  exact StrLaws.join_length_le a ys
theorem app_len (a b : Str) : (a ++ b).length = a.length + b.length := Str.length_append a b
end R

/-! # O1: try: body, except (x1, x2, x3) as n: suite -/
namespace R
open PySem PySem.Spec PyProof.Rows L2
theorem flyingZ_keeps {B h h' : Heap} {l : List Env} {e : Addr} {Z : Obj → Prop} (R : HandSPX.FlyingZ B l e Z h) (k : ∀ b o, h.get? b = some o → h'.get? b = some o) : HandSPX.FlyingZ B l e Z h' := by
  obtain ⟨f1, f2, f3, oe, ws, T, oT, ts, he, hc, hd, h1, hn, hne, hT, hdT, h3⟩ := R
  exact ⟨fun b o q => k b o (f1 b o q), f2, f3.of_keeps fun b o q _ => ⟨o, k b o q, rfl⟩, oe, ws, T, oT, ts, k _ _ he, hc, hd, h1, hn, hne, k _ _ hT, hdT, h3⟩
/-- what the clause wishes of an exception of the body: it matches -/
def wAs3 (K : PySem.W.Frag) (cs : List Value) (i : Nat) (ts : Addr → Value → Option Addr → TS) (D : Ends) : WX := fun cls d σ H =>
  PySem.W.exmAny K cls cs = some true ∧ ∀ a, H a = none → ts a cls d { nx := fun σ' H' => D.nx (σ'.set i none) H', rt := D.rt, bk := fun σ' H' => D.bk (σ'.set i none) H', ct := fun σ' H' => D.ct (σ'.set i none) H' } (σ.set i (some (.ref a))) H
section
variable {X : Cx} {x1 x2 x3 n : Str} {c1 c2 c3 : Value} {i kk : Nat} {body suite : List Stmt} {b₀ : Stmt} {p1 p2 p3 tpos pos pos' : Pos} {tb : WX → TS} {ts : Addr → Value → Option Addr → TS}
theorem ps_try_as3 (hs : X.stack = X.env :: X.outer) (hf : X.env.frame = some X.env.locals) (hN : X.N.Nodup) (hi : X.N[i]? = some n) (hln : X.env.kindOf n = some .local) (n1 : Names X x1 c1) (n2 : Names X x2 c2) (n3 : Names X x3 c3)
    (hb : ∀ (W : WX) (pn : List (Addr × Obj)) (xe : Value → Shared → Prop), Takes (X.tr pn xe) W → PassesOwn (model X.prog X.w) X.A X.env xe → PSs (X.tr pn xe) body (tb W))
    (hsu : ∀ (a : Addr) (oe : Obj) (cls : Value) (d : Option Addr) (pn : List (Addr × Obj)), Zc cls d oe → (∃ vs, oe.data = .fields vs) → PSs (X.suite a ((a, oe) :: pn)) (b₀ :: suite) (ts a cls d)) :
    PS X (.Try body [.ExceptHandler (some (.Tuple [.Name x1 p1, .Name x2 p2, .Name x3 p3] kk tpos)) (some n) (b₀ :: suite) pos'] [] [] pos) (fun D σ H => tb (wAs3 X.K [c1, c2, c3] i ts D) D σ H) := by
  refine ⟨fun pins s σ H D I h => ?_⟩
  have ok := I.ok
  have hfr : X.A.frames = some (X.env :: X.outer) := by rw [ok.frames, hs]
  have hloc : Loc X.env.scope n := .inl hln
  refine wpAny_Try_except ?_
  refine wpAny_mono ((hb (wAs3 X.K [c1, c2, c3] i ts D) (X.pn ++ pins) (fun e s₁ => wpAny (model X.prog X.w) X.A (noteFrame e X.env) (fun _ s₂ => wpAny (model X.prog X.w) X.A (setFlight e none) (fun _ s₃ =>
    wpAny (model X.prog X.w) X.A (handleBy e X.env [.ExceptHandler (some (.Tuple [.Name x1 p1, .Name x2 p2, .Name x3 p3] kk tpos)) (some n) (b₀ :: suite) pos']) (SP X pins D) X.xe s₃) X.xe s₂) X.xe s₁) (fun u s' xx => ?_) PassesOwn.looking).run [] s σ H D (I.toTry _) h) (fun f s1 hsp => ?_) (fun e s1 he => he)
  · -- the catch
    obtain ⟨a, B, sI, pins', σ', H', cls, d, rfl, J', nb, up, sky, na, os, ag, hb1, hyes⟩ := xx
    have J : Inv X pins σ' H' sI := J'.ofTry ok
    have sky' : Sky B (X.env :: X.outer) a (Zc cls d) X.env.locals s'.heap := by rw [← hs]; exact sky
    show wpAny (model X.prog X.w) X.A (noteFrame (.ref a) X.env) _ _ _
    refine Sky.land Zc.steady hfr hf sky' fun h3 fl3 up3 => ?_
    obtain ⟨oe3, vs3, he3, hz3, hd3⟩ := fl3.there
    have notFr : ∀ {h : Heap} {o : Obj} {vs : Array Value}, h.FunFrames B (X.env :: X.outer) → h.get? a = some o → o.data = .fields vs → a ∉ frs (X.env :: X.outer) := fun {h o vs} ff e dd hm => by
      obtain ⟨_, o', e', hnf⟩ := ff.mem hm
      rw [e] at e'; cases e'
      exact hnf _ dd
    have nfr := notFr fl3.2.2.1 he3 hd3
    have nL : a ≠ X.env.locals := fun z => nfr (List.mem_filterMap.mpr ⟨X.env, List.mem_cons_self, by rw [hf, z]⟩)
    have nF : a ∉ X.fs := fun hm => by
      obtain ⟨e, he, q⟩ := List.mem_filterMap.mp hm
      exact nfr (List.mem_filterMap.mpr ⟨e, List.mem_cons_of_mem _ he, q⟩)
    have J3 : Inv X pins σ' H' { s' with heap := h3 } := J.landed nb fl3.1 (up.trans up3) os ag
    have S3 := J3.suite he3 hd3 na nL nF
    refine wpAny_handleBy_cons (codeAny_handlers_test ?_) (by intro q; cases q)
    have LT : PySem.W.Looks (model X.prog X.w) h3 (typeOf (.ref a)) cls := fun A Q E s k q => wpAny_typeOf_ref (k _ _ he3) (by rw [hz3.1]; exact q)
    have one : ∀ {x : Str} {c : Value} {p : Pos}, Names X x c → ∀ {Q : Value → Shared → Prop} {E : Value → Shared → Prop}, Q c { s' with heap := h3 } → wpAny (model X.prog X.w) (X.A.mark (some (.ref a))) (eval (.Name x p) X.env) Q E { s' with heap := h3 } := fun {x c p} hc {Q E} q => by
      obtain ⟨hg, hdbg, hm | ⟨hm, hv, hnn⟩⟩ := hc
      · exact ld_glob (X := X.suite a ((a, oe3) :: (X.pn ++ pins))) S3 hg hm q hdbg
      · exact ld_blt (X := X.suite a ((a, oe3) :: (X.pn ++ pins))) S3 hg hm hv q hnn hdbg
    refine wpAny_Tuple (PySem.wpAny_items_cons (one n1 ?_))
    refine PySem.wpAny_items_cons (one n2 ?_)
    refine PySem.wpAny_items_cons (one n3 ?_)
    refine PySem.wpAny_items_nil ⟨by size_fits, ?_⟩
    have kp : ∀ q o, h3.get? q = some o → (h3.push { cls := .type "tuple", data := .seq [c1, c2, c3].toArray }).get? q = some o := fun _ _ z => Heap.get?_push_of_some _ z
    refine (PySem.W.exm_tup3 (J3.kIn.keeps kp) (LT.keeps kp) (Heap.get?_push_size h3 rfl) hb1).here ?_
    generalize h3.push { cls := .type "tuple", data := .seq [c1, c2, c3].toArray } = h3' at kp
    have fl3' := flyingZ_keeps fl3 kp
    have up3' := (up.trans up3).trans (Heap.UpToSlots.of_keeps kp)
    refine codeAny_handlers_suite_as ?_
    refine HandSPX.lands_againZ fl3' fun h4 fl4 up4 => ?_
    have J4 : Inv X pins σ' H' { s' with heap := h4 } := J.landed nb fl4.1 (up3'.trans up4) os ag
    obtain ⟨oe4, vs4, he4, hz4, hd4⟩ := fl4.there
    have S4 := J4.suite he4 hd4 na nL nF
    refine store_ok (X := X.suite a ((a, oe4) :: (X.pn ++ pins))) (v := .ref a) S4 hN hi hloc rfl (fun s5 S5 => ?_) (.inr hln)
    refine wpAny_mono ((hsu a oe4 cls d (X.pn ++ pins) hz4 ⟨_, hd4⟩).run [] s5 _ H' _ S5 (hyes a na)) (fun f s6 hsp => ?_) (fun _ _ z => False.elim z)
    have end_ : ∀ {σ6 : L2.St} {H6 : Hp} {Q : Shared → Prop}, Inv (X.suite a ((a, oe4) :: (X.pn ++ pins))) [] σ6 H6 s6 → (∀ s7, Inv X pins (σ6.set i none) H6 s7 → Q s7) →
        wpAny (model X.prog X.w) X.A (do bindName X.env n .none; unbindBehindTheSuite X.env n pos') (fun _ s7 => Q s7) X.xe s6 := fun {σ6 H6 Q} S6 hq => gone_ok (S6.unsuite ok) hN hi hln hq
    cases f with
    | next =>
      obtain ⟨σ6, H6, S6, q6⟩ := hsp
      exact end_ S6 fun s7 J7 => ⟨_, _, J7, q6⟩
    | brk =>
      obtain ⟨σ6, H6, S6, q6⟩ := hsp
      exact end_ S6 fun s7 J7 => ⟨_, _, J7, q6⟩
    | cont =>
      obtain ⟨σ6, H6, S6, q6⟩ := hsp
      exact end_ S6 fun s7 J7 => ⟨_, _, J7, q6⟩
    | ret u =>
      obtain ⟨v6, σ6, H6, S6, r6, q6⟩ := hsp
      exact end_ S6 fun s7 J7 => ⟨_, _, _, J7, r6, q6⟩
  · cases f with
    | next =>
      obtain ⟨σ', H', J', q⟩ := hsp
      exact wpAny_execs_nil ⟨σ', H', J'.ofTry ok, q⟩
    | brk =>
      obtain ⟨σ', H', J', q⟩ := hsp
      exact ⟨σ', H', J'.ofTry ok, q⟩
    | cont =>
      obtain ⟨σ', H', J', q⟩ := hsp
      exact ⟨σ', H', J'.ofTry ok, q⟩
    | ret u =>
      obtain ⟨v, σ', H', J', r, q⟩ := hsp
      exact ⟨v, σ', H', J'.ofTry ok, r, q⟩
end
end R

/-! # DA: lists and tuples in the heap itself -/
namespace R
open PySem PySem.Spec PyProof.Rows L2
/-- a list, a tuple in the heap itself -/
abbrev RL (H : Hp) (a : Addr) (xs : List V) : Prop := Rd H a (.lst xs)
abbrev RT (H : Hp) (a : Addr) (xs : List V) : Prop := Rd H a (.tup xs)
abbrev RQ (H : Hp) (a : Addr) (xs : List V) : Prop := RL H a xs ∨ RT H a xs
theorem rl_of {H : Hp} {a : Addr} {xs : List V} (h : H a = some (.lst xs)) : RL H a xs := .inl h
theorem rt_of {H : Hp} {a : Addr} {xs : List V} (h : H a = some (.tup xs)) : RT H a xs := .inl h
theorem RQ.sq {K : PySem.W.Frag} {H : Hp} {a : Addr} {xs : List V} (h : RQ H a xs) : Sq K H a xs := h.imp .inl .inl
theorem RQ.kp {r : Addr} {H H' : Hp} {a : Addr} {xs : List V} (h : RQ H a xs) (e : Kp r H H') (n : a ≠ r) : RQ H' a xs := h.imp (fun h => rd_kp e h n) (fun h => rd_kp e h n)
theorem RQ.ex {H H' : Hp} {a : Addr} {xs : List V} (h : RQ H a xs) (e : Ex H H') : RQ H' a xs := h.imp (rd_ex e) (rd_ex e)
theorem Rd.ne {H : Hp} {a p : Addr} {u : HO} (h : Rd H a u) (n : H p = none) : a ≠ p := by
  rintro rfl
  rcases h with h | ⟨o, h⟩
  all_goals
    rw [n] at h
    cases h
theorem RQ.ne {H : Hp} {a p : Addr} {xs : List V} (h : RQ H a xs) (n : H p = none) : a ≠ p := h.elim (fun h => Rd.ne h n) (fun h => Rd.ne h n)
theorem rt_ne_l {H : Hp} {a r : Addr} {xs zs : List V} (h : RT H a xs) (h2 : H r = some (.lst zs)) : a ≠ r := by
  rintro rfl
  rcases h with h | ⟨o, h⟩
  all_goals
    rw [h2] at h
    cases h
theorem rq_ne_ins {H : Hp} {a x : Addr} {xs : List V} {C dx : Addr} {fs : List (Str × V)} (h : RQ H a xs) (hx : H x = some (.ins C dx fs)) : a ≠ x := by
  rintro rfl
  rcases h with (h | ⟨o, h⟩) | (h | ⟨o, h⟩)
  all_goals
    rw [hx] at h
    cases h
end R

/-! # MC: machines, plainly -/
namespace R
open PySem PySem.Spec PyProof.Rows L2
structure Mac where
  p : Nat
  ad : List Nat
  tg : List (List Nat)
  st : Nat
deriving DecidableEq
structure Mac.Ok (M : Mac) : Prop where
  p : M.p = 2 ∨ M.p = 3 ∨ M.p = 5
  n1 : 1 ≤ M.ad.length
  n40 : M.ad.length ≤ 40
  tl : M.tg.length = M.ad.length
  st : M.st < M.ad.length
  ad : ∀ a ∈ M.ad, a < M.p
  tg : ∀ ts ∈ M.tg, ts.length = M.p ∧ ∀ t ∈ ts, t < M.ad.length
abbrev vN (n : Nat) : V := .int (n : Int)
end R

/-! # RG: the law's source of numbers -/
namespace R
open PySem PySem.Spec PyProof.Rows L2
/-- the law's source of numbers stands at r, the script's part at l -/
def Rng (H : Hp) (r l : Addr) : Prop := ∃ (ns : List Int) (i c s : Int), H r = some (.lst [.ref l, .int i, .int c, .int s]) ∧ H l = some (.lst (ns.map V.int)) ∧ l ≠ r ∧ ns.length ≤ 63 ∧ 0 ≤ i ∧ 0 ≤ c ∧ 0 ≤ s ∧ s < 2147483563
theorem Rng.ex {H H' : Hp} {r l : Addr} (h : Rng H r l) (e : Ex H H') : Rng H' r l := by
  obtain ⟨ns, i, c, s, h1, h2, h3⟩ := h
  exact ⟨ns, i, c, s, e _ _ h1, e _ _ h2, h3⟩
theorem Rng.kp {H H' : Hp} {r l q : Addr} (h : Rng H r l) (e : Kp q H H') (n : q ≠ r) (m : q ≠ l) : Rng H' r l := by
  obtain ⟨ns, i, c, s, h1, h2, h3⟩ := h
  exact ⟨ns, i, c, s, e _ _ h1 (Ne.symm n), e _ _ h2 (Ne.symm m), h3⟩
theorem Rng.upd {H : Hp} {r l q : Addr} {o : HO} (h : Rng H r l) (n : q ≠ r) (m : q ≠ l) : Rng (upd H q o) r l := h.kp Kp.set n m
theorem Rng.ne {H : Hp} {r l p : Addr} (h : Rng H r l) (n : H p = none) : p ≠ r := by
  obtain ⟨ns, i, c, s, h1, h2, h3⟩ := h
  exact Ne.symm (ne_of_none h1 n)
theorem Rng.nel {H : Hp} {r l p : Addr} (h : Rng H r l) (n : H p = none) : p ≠ l := by
  obtain ⟨ns, i, c, s, h1, h2, h3⟩ := h
  exact Ne.symm (ne_of_none h2 n)
theorem atN {α : Type} {xs : List α} {i : Int} (h0 : 0 ≤ i) (h1 : i < (xs.length : Int)) : ∃ v, xs[i.toNat]? = some v ∧ atI xs i = some v := by
  have h2 : i.toNat < xs.length := by omega
  refine ⟨xs[i.toNat], List.getElem?_eq_getElem h2, ?_⟩
  have e : ((i.toNat : Nat) : Int) = i := by omega
  have q := atI_nat (List.getElem?_eq_getElem h2)
  rw [e] at q
  exact q
theorem atM {xs : List V} {i : Int} (h0 : 0 ≤ i) (h1 : i < (xs.length : Int)) : ∃ v, v ∈ xs ∧ atI xs i = some v := by
  obtain ⟨v, h2, h3⟩ := atN h0 h1
  exact ⟨v, List.mem_of_getElem? h2, h3⟩
end R

/-! # EN: enumerate of a text, of a tuple -/
namespace R
open PySem PySem.Spec PyProof.Rows L2 HT
set_option maxHeartbeats 1000000 in
theorem meets_enumB1 {v : Value} {o : Obj} {H : Heap → Prop} (B : Begins v o H) :
    Meets (Builtin.«enumerate.__new__» ⟨[.type "enumerate", v], []⟩) (fun _ R s => H s.heap ∧
      R (.ok (.ret (.ref (s.heap.push o).objs.size))) { s with heap := (s.heap.push o).push { cls := .type "enumerate", data := .fields #[.none, .bool false, .ref s.heap.objs.size, rawInt 0, .none, .none] } }) :=
  .of_wp fun prog w A R s h => by
    obtain ⟨hp, g, d, tk, os⟩ := s; obtain ⟨h1, h⟩ := h
    have hsub := sub_enumerate
    have q1 : ∀ {A' : Around} {E : Value → Shared → Prop} {Q : Value → Shared → Prop}, Q (.ref hp.objs.size) ⟨hp.push o, g, d, tk, os⟩ → wpAny (model prog w) A' (pyIter v) Q E ⟨hp, g, d, tk, os⟩ :=
      fun q => B.iter prog w _ _ ⟨hp, g, d, tk, os⟩ _ h1 q
    wp_walk using q1
    refine wpAny_stack_any fun st => wpAny_pure ?_
    split
    · rename_i c _ _ _ _ _
      cases (c == Value.type "enumerate")
      · wp_walk using q1
        exact ⟨_, rfl, h⟩
      · wp_walk using q1
        exact ⟨_, rfl, h⟩
    · wp_walk using q1
      exact ⟨_, rfl, h⟩
section
variable {prog : Program} {w : World} {A : Around} {E : Value → Shared → Prop} {s : Shared}
theorem call_enumB1 {v : Value} {o : Obj} {H : Heap → Prop} {Q : Value → Shared → Prop} (B : Begins v o H) (h1 : H s.heap)
    (h : ∀ h', IsEnum h' (s.heap.objs.size + 1) s.heap.objs.size 0 .none → h'.get? s.heap.objs.size = some o → h'.objs.size = s.heap.objs.size + 2 →
      (∀ b o, s.heap.get? b = some o → h'.get? b = some o) → Q (.ref (s.heap.objs.size + 1)) { s with heap := h' }) :
    wpAny (model prog w) A (call (.type "enumerate") [v]) Q E s := by
  refine callType_new F.called_enumerate (by decide) (F.typeCall_enumerate_1 _) (F.newCall_enumerate_1 _) (fun obj => F.args_object_init_2 obj _) F.entry_enumerate_new
    (meets_enumB1 B) ⟨h1, ?_⟩
  have hz : (s.heap.push o).objs.size = s.heap.objs.size + 1 := Heap.size_push ..
  show _ ∧ _
  rw [hz]
  have he : IsEnum ((s.heap.push o).push { cls := .type "enumerate", data := .fields #[.none, .bool false, .ref s.heap.objs.size, rawInt 0, .none, .none] }) (s.heap.objs.size + 1) s.heap.objs.size 0 .none := by
    have := Heap.get?_push_size (s.heap.push o) (o := { cls := .type "enumerate", data := .fields #[.none, .bool false, .ref s.heap.objs.size, rawInt 0, .none, .none] }) rfl
    rw [hz] at this; exact this
  refine ⟨⟨_, he, rfl⟩, h _ he (Heap.get?_push_of_some _ (Heap.get?_push_size _ B.free)) (by rw [Heap.size_push, hz]) fun b o x => Heap.get?_push_of_some _ (Heap.get?_push_of_some _ x)⟩
end
/-- a text, each character in a new pair -/
def IteS (x : Str) : It :=
  ⟨fun i _ => i < x.cps.size, fun i H v H' => ∃ T c, v = .ref T ∧ H T = none ∧ H' = upd H T (.tup [.int (i : Nat), .str ⟨#[c]⟩]) ∧ x.cps[i]? = some c, fun i _ => i = x.cps.size⟩
theorem turn_enumS {P : Program} {w : World} {K : PySem.W.Frag} {elts : List Expr} {kk : Nat} {tpos : Pos} (x : Str) (t : Tok) (e it : Addr) :
    Turn P w K (.Tuple elts kk tpos) (IteS x) [e, it] e (fun i h => (∃ old, IsEnum h e it ((i : Nat) : Int) old) ∧ h.IsStrIter it (strIterType x) x t i ∧ e ≠ it) where
  mem := by simp
  obj := fun i h st b hb => by
    obtain ⟨⟨old, he⟩, ⟨o, ho, hc, hd⟩, _⟩ := st
    have e' : b = e ∨ b = it := by simpa using hb
    rcases e' with z | z
    · rw [z]; exact ⟨_, he, fun v q => nomatch q⟩
    · rw [z]; exact ⟨o, ho, fun v q => by rw [hd] at q; cases q⟩
  keep := fun i h h' st k => let ⟨⟨old, he⟩, ⟨o, ho, r⟩, hne⟩ := st; ⟨⟨old, k e (by simp) _ he⟩, ⟨o, k it (by simp) o ho, r⟩, hne⟩
  item := by
    intro X hP hw hK hc i pins s σ H E I hf st hg
    subst hP hw hK
    obtain ⟨⟨old, he⟩, hit, hne⟩ := st
    have D := Draws.text (prog := X.prog) (w := X.w) (A := X.A.in1) (I.ok.hd hc) it x t
    have st0 := hit
    have hlt : i < x.cps.size := hg
    have hef : e ∉ [it] := by simpa using hne
    have hel : e < s.heap.objs.size := Heap.lt_size he
    have hil : it < s.heap.objs.size := by obtain ⟨_, q, _⟩ := hit; exact Heap.lt_size q
    refine wpAny_pyNext_enum_itemD D he st0 hlt hne hef fun u h' tk hp ho hst' hT hsz hk => ?_
    obtain ⟨c, u0, hcx, rfl⟩ := hp
    have hit'' : h'.IsStrIter it (strIterType x) x t (i + 1) := hst'
    refine ⟨_, rfl, wpAny_letOwnedTupleGo_enum (s := { s with heap := h', toks := tk + 1 }) ho fun h'' he' sb => ?_⟩
    have hT2 : h''.get? s.heap.objs.size = some { cls := .type "tuple", data := .seq #[.int i tk, (.str ⟨#[c]⟩ u0)] } := (sb.2 _ (Nat.ne_of_gt hel)).trans hT
    have new : ObjOk X.prog X.w (upd H s.heap.objs.size (.tup [.int (i : Nat), .str ⟨#[c]⟩])) h'' s.heap.objs.size (.tup [.int (i : Nat), .str ⟨#[c]⟩]) :=
      ⟨by show 2 ≤ sizeLine; decide, [.int i tk, (.str ⟨#[c]⟩ u0)], .cons ⟨_, rfl⟩ (.cons ⟨u0, rfl⟩ .nil), ⟨_, hT2, rfl, _, rfl⟩⟩
    have I1 : Inv X pins σ (upd H s.heap.objs.size (.tup [.int (i : Nat), .str ⟨#[c]⟩])) { s with heap := h'', toks := tk + 1 } :=
      I.turnedNew (ch := [e, it]) (fun b ob hb q => (sb.2 b (fun z => hb (by simp [z]))).trans (hk b ob (fun z => hb (by simp [z])) (fun z => hb (by simp [z])) q)) hf (Nat.le_refl _) new
    refine ⟨.ref s.heap.objs.size, _, I1, rfl, ⟨_, c, rfl, I.hok.fresh (Nat.le_refl _), rfl, hcx⟩, ⟨⟨(.str ⟨#[c]⟩ u0), ?_⟩, ?_, hne⟩, fun b hb => ?_⟩
    · have e1 : ((i + 1 : Nat) : Int) = (i : Int) + 1 := by omega
      rw [e1]; exact he'
    · obtain ⟨o2, ho2, r2⟩ := hit''
      exact ⟨o2, (sb.2 it (Ne.symm hne)).trans ho2, r2⟩
    · have hb' : b < s.heap.objs.size := by
        have e' : b = e ∨ b = it := by simpa using hb
        rcases e' with z | z
        · rw [z]; exact hel
        · rw [z]; exact hil
      rw [upd_ne (Nat.ne_of_lt hb')]
      exact (hf b hb).1
  done := by
    intro X hP hw hK hc i pins s σ H E I hf st hg
    subst hP hw hK
    obtain ⟨⟨old, he⟩, hit, hne⟩ := st
    obtain ⟨f0, f1, f2, f3, f4, f5⟩ := hf it (by simp)
    have D := Draws.text (prog := X.prog) (w := X.w) (A := X.A.in1) (I.ok.hd hc) it x t
    have st0 : s.heap.IsStrIter it (strIterType x) x t i := hit
    have hle : i = x.cps.size := hg
    subst hle
    refine wpAny_pyNext_enum_endD D he st0 fun h' eb => ⟨rfl, I.turned (t' := s.toks) (fun b o hb q => eb b o hb q) f0 f1 f3 f4 f5⟩
  self := fun A i s Q E st h => let ⟨⟨_, he⟩, _⟩ := st; wpAny_pyIter_enum he h
/-- the tuple at a, each item in a new pair -/
def IteT (K : PySem.W.Frag) (a : Addr) : It :=
  ⟨fun i H => ∃ (xs : List V) (x : V), SqT K H a xs ∧ xs[i]? = some x, fun i H v H' => ∃ T x, v = .ref T ∧ H T = none ∧ H' = upd H T (.tup [.int (i : Nat), x]) ∧ ∀ xs, SqT K H a xs → xs[i]? = some x, fun i H => ∃ xs : List V, SqT K H a xs ∧ xs.length = i⟩
theorem turn_enumT {P : Program} {w : World} {K : PySem.W.Frag} {elts : List Expr} {kk : Nat} {tpos : Pos} (a e it : Addr) :
    Turn P w K (.Tuple elts kk tpos) (IteT K a) [e, it] e (fun i h => (∃ old, IsEnum h e it ((i : Nat) : Int) old) ∧ h.IsTupleIter it a i ∧ e ≠ it) where
  mem := by simp
  obj := fun i h st b hb => by
    obtain ⟨⟨old, he⟩, ⟨o, ho, hc, hd⟩, _⟩ := st
    have e' : b = e ∨ b = it := by simpa using hb
    rcases e' with z | z
    · rw [z]; exact ⟨_, he, fun v q => nomatch q⟩
    · rw [z]; exact ⟨o, ho, fun v q => by rw [hd] at q; cases q⟩
  keep := fun i h h' st k => let ⟨⟨old, he⟩, ⟨o, ho, r⟩, hne⟩ := st; ⟨⟨old, k e (by simp) _ he⟩, ⟨o, k it (by simp) o ho, r⟩, hne⟩
  item := by
    intro X hP hw hK hc i pins s σ H E I hf st hg
    subst hP hw hK
    obtain ⟨⟨old, he⟩, hit, hne⟩ := st
    obtain ⟨xs, x, hq, hx⟩ := hg
    obtain ⟨its, rv, p, hz⟩ := I.tuple hq
    obtain ⟨u, hu, ru⟩ := rv.get hx
    have hai : a ≠ it := fun z => by
      obtain ⟨o1, h1, c1, _⟩ := hit
      obtain ⟨o2, h2, c2, _⟩ := p
      rw [z] at h2
      rw [h1] at h2
      cases h2
      rw [c1] at c2
      exact absurd c2 (by decide)
    have hae : e ≠ a := fun z => by
      obtain ⟨o2, h2, c2, _⟩ := p
      rw [← z] at h2
      have h1 : s.heap.get? e = some _ := he
      rw [h1] at h2
      cases h2
      exact absurd (show Value.type "enumerate" = Value.type "tuple" from c2) (by decide)
    have D := Draws.tuple (prog := X.prog) (w := X.w) (A := X.A.in1) (I.ok.hd hc) it a hai its.toArray
    have hlt : i < its.toArray.size := by
      have := (List.getElem?_eq_some_iff.mp hu).1
      simpa using this
    have hef : e ∉ [it, a] := by
      intro z
      rcases List.mem_cons.mp z with z | z
      · exact hne z
      · exact hae (List.mem_singleton.mp z)
    have st0 : s.heap.IsTupleIter it a i ∧ s.heap.IsTuple a its.toArray := ⟨hit, p⟩
    have hel : e < s.heap.objs.size := Heap.lt_size he
    have hil : it < s.heap.objs.size := by obtain ⟨_, q, _⟩ := hit; exact Heap.lt_size q
    refine wpAny_pyNext_enum_itemD D he st0 hlt hne hef fun u2 h' tk hp ho hst' hT hsz hk => ?_
    have hu2 : u2 = u := by
      have hp : its.toArray[i]? = some u2 := hp
      rw [List.getElem?_toArray, hu] at hp
      exact (Option.some.inj hp).symm
    subst hu2
    have hit'' := hst'.1
    refine ⟨_, rfl, wpAny_letOwnedTupleGo_enum (s := { s with heap := h', toks := tk + 1 }) ho fun h'' he' sb => ?_⟩
    have hT2 : h''.get? s.heap.objs.size = some { cls := .type "tuple", data := .seq #[.int i tk, u2] } := (sb.2 _ (Nat.ne_of_gt hel)).trans hT
    have new : ObjOk X.prog X.w (upd H s.heap.objs.size (.tup [.int (i : Nat), x])) h'' s.heap.objs.size (.tup [.int (i : Nat), x]) :=
      ⟨by show 2 ≤ sizeLine; decide, [.int i tk, u2], .cons ⟨_, rfl⟩ (.cons ru .nil), ⟨_, hT2, rfl, _, rfl⟩⟩
    have I1 : Inv X pins σ (upd H s.heap.objs.size (.tup [.int (i : Nat), x])) { s with heap := h'', toks := tk + 1 } :=
      I.turnedNew (ch := [e, it]) (fun b ob hb q => (sb.2 b (fun z => hb (by simp [z]))).trans (hk b ob (fun z => hb (by simp [z])) (fun z => hb (by simp [z])) q)) hf (Nat.le_refl _) new
    refine ⟨.ref s.heap.objs.size, _, I1, rfl, ⟨_, x, rfl, I.hok.fresh (Nat.le_refl _), rfl, fun ys hy => by rw [I.tuple_inj hy hq]; exact hx⟩, ⟨⟨u2, ?_⟩, ?_, hne⟩, fun b hb => ?_⟩
    · have e1 : ((i + 1 : Nat) : Int) = (i : Int) + 1 := by omega
      rw [e1]; exact he'
    · obtain ⟨o2, ho2, r2⟩ := hit''
      exact ⟨o2, (sb.2 it (Ne.symm hne)).trans ho2, r2⟩
    · have hb' : b < s.heap.objs.size := by
        have e' : b = e ∨ b = it := by simpa using hb
        rcases e' with z | z
        · rw [z]; exact hel
        · rw [z]; exact hil
      rw [upd_ne (Nat.ne_of_lt hb')]
      exact (hf b hb).1
  done := by
    intro X hP hw hK hc i pins s σ H E I hf st hg
    subst hP hw hK
    obtain ⟨⟨old, he⟩, hit, hne⟩ := st
    obtain ⟨f0, f1, f2, f3, f4, f5⟩ := hf it (by simp)
    obtain ⟨xs, hq, hx⟩ := hg
    obtain ⟨its, rv, p, hz⟩ := I.tuple hq
    have hl := rv.length
    have hai : a ≠ it := fun z => by
      obtain ⟨o1, h1, c1, _⟩ := hit
      obtain ⟨o2, h2, c2, _⟩ := p
      rw [z] at h2
      rw [h1] at h2
      cases h2
      rw [c1] at c2
      exact absurd c2 (by decide)
    have D := Draws.tuple (prog := X.prog) (w := X.w) (A := X.A.in1) (I.ok.hd hc) it a hai its.toArray
    have hn : i = its.toArray.size := by simp; omega
    have st0 : s.heap.IsTupleIter it a its.toArray.size ∧ s.heap.IsTuple a its.toArray := ⟨hn ▸ hit, p⟩
    refine wpAny_pyNext_enum_endD D he st0 fun h' eb => ⟨rfl, I.turned (t' := s.toks) (fun b o hb q => eb b o hb q) f0 f1 f3 f4 f5⟩
  self := fun A i s Q E st h => let ⟨⟨_, he⟩, _⟩ := st; wpAny_pyIter_enum he h
/-- enumerate of a list, a tuple, a text -/
def iEnumA (K : PySem.W.Frag) (ta : TA) : TI := fun σ H R => ta σ H fun vs H1 => (∃ a xs, vs = [.ref a] ∧ SqL K H1 a xs ∧ R (Ite K a) H1) ∨ (∃ a xs, vs = [.ref a] ∧ SqT K H1 a xs ∧ R (IteT K a) H1) ∨ ∃ x, vs = [.str x] ∧ R (IteS x) H1
theorem pi_enumA {X : Cx} {e : Expr} {ta : TA} {p pos tpos : Pos} {elts : List Expr} {kk : Nat} (hg : Gl X "enumerate") (hm : X.mg "enumerate" = none) (ha : PA X [e] ta) (hs : starEach [e] X.env = [(false, eval e X.env)] := by rfl) :
    PI X (.Tuple elts kk tpos) (.Call (.Name "enumerate" p) [e] [] pos) (iEnumA X.K ta) := by
  refine ⟨fun pins s σ H R I h => ?_⟩
  refine Call_ (ld_blt I hg hm boot_enumerate (PyProof.Rows.callWith_type1 (thn (ha.run pos pins s σ H _ I h) fun us s1 ⟨vs, H1, I1, r1, q1⟩ => ?_) hs rfl))
  have fp : ∀ h', Inv X pins σ H1 { s1 with heap := h' } → ∀ b ∈ [s1.heap.objs.size + 1, s1.heap.objs.size], s1.heap.objs.size ≤ b := fun _ _ b hb => by
    have e' : b = s1.heap.objs.size + 1 ∨ b = s1.heap.objs.size := by simpa using hb
    rcases e' with z | z
    · rw [z]; exact Nat.le_add_right _ _
    · rw [z]; exact Nat.le_refl _
  rcases q1 with ⟨a, xs, ex, hq, q⟩ | ⟨a, xs, ex, hq, q⟩ | ⟨x, ex, q⟩
  · subst ex
    cases r1 with
    | cons r rr =>
      cases rr
      cases r
      obtain ⟨its, rv, p', hz⟩ := I1.list hq
      refine call_enumerate_list p'.isList fun h' he hit hsz hk => wpAny_pyIter_enum he ?_
      have I2 : Inv X pins σ H1 { s1 with heap := h' } := I1.kept (t' := s1.toks) hk
      exact ⟨s1.heap.objs.size + 1, [s1.heap.objs.size + 1, s1.heap.objs.size], _, _, H1, rfl, I2, turn_enum a (s1.heap.objs.size + 1) s1.heap.objs.size, ⟨⟨.none, he⟩, hit, Nat.succ_ne_self _⟩, fun b hb => I1.fpOk (fp h' I2 b hb) (I1.hok.fresh (fp h' I2 b hb)), q⟩
  · subst ex
    cases r1 with
    | cons r rr =>
      cases rr
      cases r
      obtain ⟨its, rv, p', hz⟩ := I1.tuple hq
      refine call_enumB1 (begins_tuple a its.toArray) p' fun h' he hit hsz hk => wpAny_pyIter_enum he ?_
      have I2 : Inv X pins σ H1 { s1 with heap := h' } := I1.kept (t' := s1.toks) hk
      exact ⟨s1.heap.objs.size + 1, [s1.heap.objs.size + 1, s1.heap.objs.size], _, _, H1, rfl, I2, turn_enumT a (s1.heap.objs.size + 1) s1.heap.objs.size, ⟨⟨.none, he⟩, ⟨_, hit, rfl, rfl⟩, Nat.succ_ne_self _⟩, fun b hb => I1.fpOk (fp h' I2 b hb) (I1.hok.fresh (fp h' I2 b hb)), q⟩
  · subst ex
    cases r1 with
    | cons r rr =>
      cases rr
      obtain ⟨t, rfl⟩ := r
      refine call_enumB1 (begins_text x t) trivial fun h' he hit hsz hk => wpAny_pyIter_enum he ?_
      have I2 : Inv X pins σ H1 { s1 with heap := h' } := I1.kept (t' := s1.toks) hk
      exact ⟨s1.heap.objs.size + 1, [s1.heap.objs.size + 1, s1.heap.objs.size], _, _, H1, rfl, I2, turn_enumS x t (s1.heap.objs.size + 1) s1.heap.objs.size, ⟨⟨.none, he⟩, ⟨_, hit, rfl, rfl⟩, Nat.succ_ne_self _⟩, fun b hb => I1.fpOk (fp h' I2 b hb) (I1.hok.fresh (fp h' I2 b hb)), q⟩
theorem walk_enumS {x : Str} : Walk (IteS x) x.cps.size (fun _ => True) (YPair (fun i => some (.int (i : Nat))) (fun i => x.cps[i]?.map fun c => .str ⟨#[c]⟩)) := by
  refine ⟨fun i _ hi _ => hi, fun _ _ => rfl, fun i H v H' _ q y => ?_⟩
  obtain ⟨T, c, h1, h2, h3, h4⟩ := y
  exact ⟨T, .int (i : Nat), .str ⟨#[c]⟩, h1, h2, h3, rfl, (by show (x.cps[i]?.map fun c => V.str ⟨#[c]⟩) = _; rw [h4]; rfl)⟩
theorem walk_enumT {K : PySem.W.Frag} {a : Addr} {xs : List V} : Walk (IteT K a) xs.length (fun H => SqT K H a xs) (YPair (fun i => some (.int (i : Nat))) (fun i => xs[i]?)) := by
  refine ⟨fun i _ hi q => ⟨xs, xs[i], q, by simp [hi]⟩, fun _ q => ⟨xs, q, rfl⟩, fun i H v H' _ q y => ?_⟩
  obtain ⟨T, x, h1, h2, h3, h4⟩ := y
  exact ⟨T, .int (i : Nat), x, h1, h2, h3, rfl, h4 xs q⟩
def sAny (K : PySem.W.Frag) : List V → Hp → VK → Prop := fun vs H Q => ∃ (a : Addr) (bs : List Bool), vs = [V.ref a] ∧ SqL K H a (bs.map V.bl) ∧ Q (.bl (bs.any id)) H
theorem call_sAny {X : Cx} (hc : X.calm = true) : CallR X (.builtin "any") (sAny X.K) := cr_any hc
end R

/-! # ZM: zip of a list and a tuple, in any order -/
namespace ZM
open PySem
open PySem.Sem (wp)
/-- false: a list, true: a tuple -/
def ItAt (k : Bool) (h : Heap) (it l : Addr) (i : Nat) : Prop := if k = true then h.IsTupleIter it l i else h.IsListIter it l i
def SqAt (k : Bool) (h : Heap) (l : Addr) (xs : Array Value) : Prop := if k = true then h.IsTuple l xs else h.IsList l xs
theorem ItAt.at {k : Bool} {h h' : Heap} {it l : Addr} {i : Nat} (x : ItAt k h it l i) (e : ∀ o, h.get? it = some o → h'.get? it = some o) : ItAt k h' it l i := by
  cases k
  · exact Heap.IsListIter.at x e
  · exact Heap.IsTupleIter.at x e
theorem ItAt.live {k : Bool} {h : Heap} {it l : Addr} {i : Nat} (x : ItAt k h it l i) : ∃ o, h.get? it = some o ∧ ∀ v, o.data ≠ .cell v := by
  cases k
  · obtain ⟨o, e, _, d⟩ := x
    exact ⟨o, e, fun v q => by rw [d] at q; cases q⟩
  · obtain ⟨o, e, _, d⟩ := x
    exact ⟨o, e, fun v q => by rw [d] at q; cases q⟩
theorem SqAt.ext {k : Bool} {h h' : Heap} {l b : Addr} {xs : Array Value} (x : SqAt k h l xs) (e : Heap.ExtBut b h h') (n : l ≠ b) : SqAt k h' l xs := by
  cases k
  · exact Heap.IsList.extBut x e n
  · exact Heap.IsTuple.extBut x e n
section
variable {prog : Program} {w : World} {A : Around} {E : Value → Shared → Prop} {s : Shared}
theorem next_item {k : Bool} {it l : Addr} {i : Nat} {xs : Array Value} {x : Value} {Q : Value → Shared → Prop} (h1 : ItAt k s.heap it l i) (h2 : SqAt k s.heap l xs) (hx : xs[i]? = some x)
    (q : ∀ h', ItAt k h' it l (i + 1) → Heap.SameBut it s.heap h' → Q x { s with heap := h' }) : wpAny (model prog w) A (Builtin.SmallTypes.nextOf (.ref it)) Q E s := by
  cases k
  · exact wpAny_nextOf_list_item h1 h2 hx q
  · exact RZ.nextOf_tuple_item h1 h2 hx q
theorem next_end {k : Bool} {it l : Addr} {i : Nat} {xs : Array Value} {Q : Value → Shared → Prop} (hh : A.handled = none) (h1 : ItAt k s.heap it l i) (h2 : SqAt k s.heap l xs) (hx : xs[i]? = none)
    (q : ∀ h' e, Heap.ExtBut it s.heap h' → (∃ o, h'.get? e = some o ∧ o.cls = .type "StopIteration") → E (.ref e) { s with heap := h' }) : wpAny (model prog w) A (Builtin.SmallTypes.nextOf (.ref it)) Q E s := by
  cases k
  · exact wpAny_nextOf_list_end hh h1 h2 hx q
  · exact RZ.nextOf_tuple_end hh h1 h2 hx q
/-- what the heap must still hold -/
abbrev Kept (z TO i1 i2 : Addr) (h h' : Heap) : Prop := ∀ c o, c ≠ z → c ≠ TO → c ≠ i1 → c ≠ i2 → h.get? c = some o → h'.get? c = some o
theorem turn_item {k1 k2 : Bool} {z TI TO i1 i2 l1 l2 : Addr} {i : Nat} {xs ys : Array Value} {x y a b : Value} {Q : Value → Shared → Prop} (D : ZipApart z TI TO i1 i2 l1 l2)
    (hz : IsZip s.heap z TI TO .none) (hTI : IsPair s.heap TI (.ref i1) (.ref i2)) (hTO : IsPair s.heap TO a b)
    (h1 : ItAt k1 s.heap i1 l1 i) (h2 : ItAt k2 s.heap i2 l2 i) (hl1 : SqAt k1 s.heap l1 xs) (hl2 : SqAt k2 s.heap l2 ys) (hx : xs[i]? = some x) (hy : ys[i]? = some y)
    (hQ : ∀ h', IsZip h' z TI TO (rawInt s.heap.objs.size) → IsPair h' TO x y → ItAt k1 h' i1 l1 (i + 1) → ItAt k2 h' i2 l2 (i + 1) → IsPair h' s.heap.objs.size x y → Kept z TO i1 i2 s.heap h' → Q (.ref s.heap.objs.size) { s with heap := h' }) :
    wpAny (model prog w) A (Builtin.«zip.__next__» ⟨[.ref z], []⟩) (fun fin s' => ∃ v, fin = .done (.ret v) ∧ Q v s') E s := by
  show wpAny _ _ (field (.ref z) 2 >>= _) _ _ _
  refine wpAny_bind (wpAny_field hz rfl (x := .bool false) rfl ?_)
  show wpAny _ _ (field (.ref z) 3 >>= _) _ _ _
  refine wpAny_bind (wpAny_field hz rfl (x := .ref TI) rfl ?_)
  refine wpAny_bind (wpAny_seqItems hTI rfl ?_)
  show wpAny _ _ (Builtin.SmallTypes.ownedTupleIsFree (.ref z) >>= _) _ _ _
  refine wpAny_bind ?_
  unfold Builtin.SmallTypes.ownedTupleIsFree
  refine wpAny_bind (wpAny_field hz rfl (x := .none) rfl (wpAny_pure ?_))
  simp only [if_true]
  refine wpAny_bind (wpAny_rule ?_)
  refine wpAny_bind (wpAny_field hz rfl (x := .ref TO) rfl ?_)
  refine wpAny_bind (wpAny_setField_rec hz (by simp) fun ha za sa => ?_)
  replace za : IsZip ha z TI TO .ellipsis := za
  refine wpAny_bind ?_
  simp only [List.zipIdx_cons, List.zipIdx_nil, List.forIn_cons, List.forIn_nil]
  refine wpAny_bind (wpAny_bind (wpAny_onRaise ?_))
  show wpAny _ _ (Builtin.SmallTypes.nextOf (.ref i1) >>= _) _ _ _
  refine wpAny_bind (next_item (h1.at fun o => sa.extBut _ o D.i1z) (hl1.ext sa.extBut D.l1z) hx fun hb it1 sb => wpAny_pure ?_)
  have Tb : IsPair hb TO a b := sb.extBut _ _ D.TOi1 (sa.extBut _ _ D.TOz hTO)
  refine wpAny_bind (wpAny_seqItems Tb rfl ?_)
  refine wpAny_bind (wpAny_updateSeq_pair Tb fun hc Tc sc => ?_)
  replace Tc : IsPair hc TO x b := Tc
  refine wpAny_bind (wpAny_letGo (wpAny_pure ?_))
  refine wpAny_bind (wpAny_bind (wpAny_onRaise ?_))
  show wpAny _ _ (Builtin.SmallTypes.nextOf (.ref i2) >>= _) _ _ _
  have g2 : ItAt k2 hc i2 l2 i := h2.at fun o e => sc.extBut _ o D.TOi2.symm (sb.extBut _ o D.i12.symm (sa.extBut _ o D.i2z e))
  refine wpAny_bind (next_item g2 (((hl2.ext sa.extBut D.l2z).ext sb.extBut D.l2i1).ext sc.extBut D.l2TO) hy fun hd it2 sd => wpAny_pure ?_)
  have Td : IsPair hd TO x b := sd.extBut _ _ D.TOi2 Tc
  refine wpAny_bind (wpAny_seqItems Td rfl ?_)
  refine wpAny_bind (wpAny_updateSeq_pair Td fun he Te se => ?_)
  replace Te : IsPair he TO x y := Te
  refine wpAny_bind (wpAny_letGo (wpAny_pure (wpAny_pure ?_)))
  refine wpAny_bind (wpAny_seqItems Te rfl ?_)
  refine wpAny_bind (wpAny_newTuple ?_)
  have sz : he.objs.size = s.heap.objs.size := by rw [se.1, sd.1, sc.1, sb.1, sa.1]
  have ze : IsZip he z TI TO .ellipsis := se.extBut _ _ D.TOz.symm (sd.extBut _ _ D.i2z.symm (sc.extBut _ _ D.TOz.symm (sb.extBut _ _ D.i1z.symm za)))
  have ke : Kept z TO i1 i2 s.heap he := fun c o c1 c2 c3 c4 e => se.extBut _ _ c2 (sd.extBut _ _ c4 (sc.extBut _ _ c2 (sb.extBut _ _ c3 (sa.extBut _ _ c1 e))))
  have f1 : ItAt k1 he i1 l1 (i + 1) := it1.at fun o e => se.extBut _ o D.TOi1.symm (sd.extBut _ o D.i12 (sc.extBut _ o D.TOi1.symm e))
  have f2 : ItAt k2 he i2 l2 (i + 1) := it2.at fun o e => se.extBut _ o D.TOi2.symm e
  have zlt : z < he.objs.size := Heap.lt_size ze
  show wpAny _ _ (Builtin.SmallTypes.ownedTupleHandOut (.ref z) (.ref he.objs.size) >>= _) _ _ _
  refine wpAny_bind ?_
  unfold Builtin.SmallTypes.ownedTupleHandOut
  have zf : IsZip (he.push { cls := .type "tuple", data := .seq #[x, y] }) z TI TO .ellipsis := Heap.get?_push_of_some _ ze
  refine wpAny_bind (wpAny_setField_rec zf (by simp) fun hg zg sg => ?_)
  replace zg : IsZip hg z TI TO (rawInt he.objs.size) := zg
  refine wpAny_setField_rec zg (by simp) fun hj zj sj => ?_
  replace zj : IsZip hj z TI TO (rawInt he.objs.size) := zj
  have up : ∀ c o, c ≠ z → he.get? c = some o → hj.get? c = some o := fun c o c1 e => sj.extBut _ _ c1 (sg.extBut _ _ c1 (Heap.get?_push_of_some _ e))
  have Tj : IsPair hj he.objs.size x y := sj.extBut _ _ (Nat.ne_of_gt zlt) (sg.extBut _ _ (Nat.ne_of_gt zlt) (Heap.get?_push_size _ rfl))
  rw [sz] at zj Tj
  refine wpAny_pure ⟨_, rfl, ?_⟩
  show Q (.ref he.objs.size) _
  rw [sz]
  exact hQ hj zj (up _ _ D.TOz Te) (f1.at fun o e => up _ o D.i1z e) (f2.at fun o e => up _ o D.i2z e) Tj fun c o c1 c2 c3 c4 e => up c o c1 (ke c o c1 c2 c3 c4 e)
theorem turn_end {k1 k2 : Bool} {z TI TO i1 i2 l1 l2 : Addr} {i : Nat} {xs ys : Array Value} {a b : Value} {Q : Fin → Shared → Prop} (hh : A.handled = none) (D : ZipApart z TI TO i1 i2 l1 l2)
    (hz : IsZip s.heap z TI TO .none) (hTI : IsPair s.heap TI (.ref i1) (.ref i2)) (hTO : IsPair s.heap TO a b)
    (h1 : ItAt k1 s.heap i1 l1 i) (h2 : ItAt k2 s.heap i2 l2 i) (hl1 : SqAt k1 s.heap l1 xs) (hl2 : SqAt k2 s.heap l2 ys) (hend : xs[i]? = none ∨ ys[i]? = none)
    (hE : ∀ h' e, Kept z TO i1 i2 s.heap h' → (∃ o, h'.get? e = some o ∧ o.cls = .type "StopIteration") → E (.ref e) { s with heap := h' }) :
    wpAny (model prog w) A (Builtin.«zip.__next__» ⟨[.ref z], []⟩) Q E s := by
  show wpAny _ _ (field (.ref z) 2 >>= _) _ _ _
  refine wpAny_bind (wpAny_field hz rfl (x := .bool false) rfl ?_)
  show wpAny _ _ (field (.ref z) 3 >>= _) _ _ _
  refine wpAny_bind (wpAny_field hz rfl (x := .ref TI) rfl ?_)
  refine wpAny_bind (wpAny_seqItems hTI rfl ?_)
  show wpAny _ _ (Builtin.SmallTypes.ownedTupleIsFree (.ref z) >>= _) _ _ _
  refine wpAny_bind ?_
  unfold Builtin.SmallTypes.ownedTupleIsFree
  refine wpAny_bind (wpAny_field hz rfl (x := .none) rfl (wpAny_pure ?_))
  simp only [if_true]
  refine wpAny_bind (wpAny_rule ?_)
  refine wpAny_bind (wpAny_field hz rfl (x := .ref TO) rfl ?_)
  refine wpAny_bind (wpAny_setField_rec hz (by simp) fun ha za sa => ?_)
  replace za : IsZip ha z TI TO .ellipsis := za
  refine wpAny_bind ?_
  simp only [List.zipIdx_cons, List.zipIdx_nil, List.forIn_cons, List.forIn_nil]
  refine wpAny_bind (wpAny_bind (wpAny_onRaise ?_))
  show wpAny _ _ (Builtin.SmallTypes.nextOf (.ref i1) >>= _) _ _ _
  have g1 : ItAt k1 ha i1 l1 i := h1.at fun o => sa.extBut _ o D.i1z
  have q1 : SqAt k1 ha l1 xs := hl1.ext sa.extBut D.l1z
  cases hx : xs[i]? with
  | none =>
    refine wpAny_bind (next_end hh g1 q1 hx fun hb e sb he => ?_)
    obtain ⟨oe, hoe, hce⟩ := he
    have zb : IsZip hb z TI TO .ellipsis := sb _ _ D.i1z.symm za
    have ne : e ≠ z := fun x => by subst x; rw [zb] at hoe; cases hoe; simp at hce
    refine wpAny_setField_rec zb (by simp) fun hc _ sc => hE hc e (fun c o c1 _ c3 _ x => sc.extBut _ _ c1 (sb _ _ c3 (sa.extBut _ _ c1 x))) ⟨oe, sc.extBut _ _ ne hoe, hce⟩
  | some x =>
    have hy : ys[i]? = none := hend.resolve_left fun h => by rw [hx] at h; cases h
    refine wpAny_bind (next_item g1 q1 hx fun hb it1 sb => wpAny_pure ?_)
    have Tb : IsPair hb TO a b := sb.extBut _ _ D.TOi1 (sa.extBut _ _ D.TOz hTO)
    refine wpAny_bind (wpAny_seqItems Tb rfl ?_)
    refine wpAny_bind (wpAny_updateSeq_pair Tb fun hc Tc sc => ?_)
    refine wpAny_bind (wpAny_letGo (wpAny_pure ?_))
    refine wpAny_bind (wpAny_bind (wpAny_onRaise ?_))
    show wpAny _ _ (Builtin.SmallTypes.nextOf (.ref i2) >>= _) _ _ _
    have g2 : ItAt k2 hc i2 l2 i := h2.at fun o e => sc.extBut _ o D.TOi2.symm (sb.extBut _ o D.i12.symm (sa.extBut _ o D.i2z e))
    refine wpAny_bind (next_end hh g2 (((hl2.ext sa.extBut D.l2z).ext sb.extBut D.l2i1).ext sc.extBut D.l2TO) hy fun hd e sd he => ?_)
    obtain ⟨oe, hoe, hce⟩ := he
    have zd : IsZip hd z TI TO .ellipsis := sd _ _ D.i2z.symm (sc.extBut _ _ D.TOz.symm (sb.extBut _ _ D.i1z.symm za))
    have ne : e ≠ z := fun x => by subst x; rw [zd] at hoe; cases hoe; simp at hce
    refine wpAny_setField_rec zd (by simp) fun hf _ sf => hE hf e (fun c o c1 c2 c3 c4 x => sf.extBut _ _ c1 (sd _ _ c4 (sc.extBut _ _ c2 (sb.extBut _ _ c3 (sa.extBut _ _ c1 x))))) ⟨oe, sf.extBut _ _ ne hoe, hce⟩
theorem py_item {k1 k2 : Bool} {z TI TO i1 i2 l1 l2 : Addr} {i : Nat} {xs ys : Array Value} {x y a b : Value} {Q : Option Value → Shared → Prop} (D : ZipApart z TI TO i1 i2 l1 l2)
    (hz : IsZip s.heap z TI TO .none) (hTI : IsPair s.heap TI (.ref i1) (.ref i2)) (hTO : IsPair s.heap TO a b)
    (h1 : ItAt k1 s.heap i1 l1 i) (h2 : ItAt k2 s.heap i2 l2 i) (hl1 : SqAt k1 s.heap l1 xs) (hl2 : SqAt k2 s.heap l2 ys) (hx : xs[i]? = some x) (hy : ys[i]? = some y)
    (hQ : ∀ h', IsZip h' z TI TO (rawInt s.heap.objs.size) → IsPair h' TO x y → ItAt k1 h' i1 l1 (i + 1) → ItAt k2 h' i2 l2 (i + 1) → IsPair h' s.heap.objs.size x y → Kept z TO i1 i2 s.heap h' → Q (some (.ref s.heap.objs.size)) { s with heap := h' }) :
    wpAny (model prog w) A (pyNext (.ref z)) Q E s := by
  have hT : s.TypeIs (.ref z) "zip" := ⟨_, hz, rfl⟩
  unfold pyNext
  exact wpAny_bind (wpAny_attempt (wpAny_callSpecial?_slot (name := Str.ofString "__next__") hT F.slot_zip_next
    (wpAny_call_entry F.slot_zip_next hT F.entry_zip_next (turn_item D hz hTI hTO h1 h2 hl1 hl2 hx hy fun h' a1 a2 a3 a4 a5 a7 => wpAny_pure (hQ h' a1 a2 a3 a4 a5 a7)) (F.args_zip_next_1 _))))
theorem py_end {k1 k2 : Bool} {z TI TO i1 i2 l1 l2 : Addr} {i : Nat} {xs ys : Array Value} {a b : Value} {Q : Option Value → Shared → Prop} (hh : A.handled = none) (D : ZipApart z TI TO i1 i2 l1 l2)
    (hz : IsZip s.heap z TI TO .none) (hTI : IsPair s.heap TI (.ref i1) (.ref i2)) (hTO : IsPair s.heap TO a b)
    (h1 : ItAt k1 s.heap i1 l1 i) (h2 : ItAt k2 s.heap i2 l2 i) (hl1 : SqAt k1 s.heap l1 xs) (hl2 : SqAt k2 s.heap l2 ys) (hend : xs[i]? = none ∨ ys[i]? = none)
    (hQ : ∀ h', Kept z TO i1 i2 s.heap h' → Q none { s with heap := h' }) : wpAny (model prog w) A (pyNext (.ref z)) Q E s := by
  have hT : s.TypeIs (.ref z) "zip" := ⟨_, hz, rfl⟩
  unfold pyNext
  refine wpAny_bind (wpAny_attempt (wpAny_callSpecial?_slot (name := Str.ofString "__next__") hT F.slot_zip_next
    (wpAny_call_entry F.slot_zip_next hT F.entry_zip_next (turn_end hh D hz hTI hTO h1 h2 hl1 hl2 hend fun h' e hk he => ?_) (F.args_zip_next_1 _))))
  obtain ⟨o, ho, hc⟩ := he
  exact wpAny_bind (wpAny_isInstance (T := "StopIteration") (b := true) ⟨o, ho, hc⟩ isSubtype_stop (wpAny_pure (hQ _ hk)))
end
end ZM
namespace ZM
open PySem PySem.Spec PyProof.Rows L2
abbrev A1 (h : Heap) (l : Addr) : Heap := h.push { cls := .type "list_iterator", data := .fields #[.ref l, .int 0 0] }
abbrev A2 (h : Heap) (l m : Addr) : Heap := (A1 h l).push { cls := .type "tuple_iterator", data := .fields #[.ref m, .int 0 0] }
abbrev A3 (h : Heap) (l m : Addr) : Heap := (A2 h l m).push { cls := .type "tuple", data := .seq #[.ref h.objs.size, .ref (A1 h l).objs.size] }
abbrev A4 (h : Heap) (l m : Addr) : Heap := (A3 h l m).push { cls := .type "tuple", data := .seq #[.none, .none] }
abbrev A5 (h : Heap) (l m : Addr) : Heap := (A4 h l m).push { cls := .type "zip", data := .fields #[.none, .bool false, .bool false, .ref (A2 h l m).objs.size, .ref (A3 h l m).objs.size] }
theorem meets_new (l m : Addr) (xs ys : Array Value) :
    Meets (Builtin.«zip.__new__» ⟨[.type "zip", .ref l, .ref m], []⟩) (fun _ R s => s.heap.IsList l xs ∧ s.heap.IsTuple m ys ∧
      R (.ok (.ret (.ref (A4 s.heap l m).objs.size))) { s with heap := A5 s.heap l m }) :=
  .of_wp fun prog w A R s h => by
    obtain ⟨hp, g, d, tk, os⟩ := s; obtain ⟨hl, hm, h⟩ := h
    have hsub := sub_zip
    have hL : Heap.IsList (Shared.heap ⟨hp, g, d, tk, os⟩) l xs := hl
    have hM : Heap.IsTuple (Shared.heap ⟨A1 hp l, g, d, tk, os⟩) m ys := Heap.IsTuple.push hm _
    wp_walk using wpAny_pyIter_list hL, wpAny_pyIter_tuple hM
    exact ⟨_, rfl, h⟩
section
variable {prog : Program} {w : World} {A : Around} {E : Value → Shared → Prop} {s : Shared}
theorem call_zip {l m : Addr} {xs ys : Array Value} {Q : Value → Shared → Prop} (hl : s.heap.IsList l xs) (hm : s.heap.IsTuple m ys)
    (q : ∀ h', IsZip h' (s.heap.objs.size + 4) (s.heap.objs.size + 2) (s.heap.objs.size + 3) .none → IsPair h' (s.heap.objs.size + 2) (.ref s.heap.objs.size) (.ref (s.heap.objs.size + 1)) →
      IsPair h' (s.heap.objs.size + 3) .none .none → ItAt false h' s.heap.objs.size l 0 → ItAt true h' (s.heap.objs.size + 1) m 0 → (∀ c o, s.heap.get? c = some o → h'.get? c = some o) → Q (.ref (s.heap.objs.size + 4)) { s with heap := h' }) :
    wpAny (model prog w) A (call (.type "zip") [.ref l, .ref m]) Q E s := by
  refine callType_new F.called_zip (by decide) (F.typeCall_zip_2 _ _) (F.newCall_zip_2 _ _) (fun obj => F.args_object_init_3 obj _ _) F.entry_zip_new (meets_new l m xs ys) ⟨hl, hm, ?_⟩
  have z1 : (A1 s.heap l).objs.size = s.heap.objs.size + 1 := Heap.size_push ..
  have z2 : (A2 s.heap l m).objs.size = s.heap.objs.size + 2 := by rw [Heap.size_push, z1]
  have z3 : (A3 s.heap l m).objs.size = s.heap.objs.size + 3 := by rw [Heap.size_push, z2]
  have z4 : (A4 s.heap l m).objs.size = s.heap.objs.size + 4 := by rw [Heap.size_push, z3]
  have up : ∀ {h : Heap} {o o' : Obj} {c : Addr}, h.get? c = some o → (h.push o').get? c = some o := fun e => Heap.get?_push_of_some _ e
  have g5 : (A5 s.heap l m).get? (A4 s.heap l m).objs.size = some _ := Heap.get?_push_size _ rfl
  have g4 : (A5 s.heap l m).get? (A3 s.heap l m).objs.size = some _ := up (Heap.get?_push_size _ rfl)
  have g3 : (A5 s.heap l m).get? (A2 s.heap l m).objs.size = some _ := up (up (Heap.get?_push_size _ rfl))
  have g2 : (A5 s.heap l m).get? (A1 s.heap l).objs.size = some _ := up (up (up (Heap.get?_push_size _ rfl)))
  have g1 : (A5 s.heap l m).get? s.heap.objs.size = some _ := up (up (up (up (Heap.get?_push_size _ rfl))))
  show _ ∧ _
  rw [z2, z3, z4] at g5
  rw [z1, z2] at g3
  rw [z3] at g4
  rw [z1] at g2
  rw [z4]
  exact ⟨⟨_, g5, rfl⟩, q _ g5 g3 g4 ⟨_, g1, rfl, rfl⟩ ⟨_, g2, rfl, rfl⟩ fun c o x => up (up (up (up (up x))))⟩
end
/-- the list at a and the tuple at b as they stand at each turn -/
def ItzM (K : PySem.W.Frag) (a b : Addr) : It :=
  ⟨fun i H => ∃ (xs ys : List V) (x y : V), SqL K H a xs ∧ SqT K H b ys ∧ xs[i]? = some x ∧ ys[i]? = some y,
    fun i H v H' => ∃ T x y, v = .ref T ∧ H T = none ∧ H' = upd H T (.tup [x, y]) ∧ (∀ xs, SqL K H a xs → xs[i]? = some x) ∧ ∀ ys, SqT K H b ys → ys[i]? = some y,
    fun i H => ∃ xs ys : List V, SqL K H a xs ∧ SqT K H b ys ∧ (xs.length ≤ i ∨ ys.length ≤ i)⟩
theorem turnM {P : Program} {w : World} {K : PySem.W.Frag} {elts : List Expr} {kk : Nat} {tpos : Pos} {a b z TI TO i1 i2 : Addr} (D : ZipApart z TI TO i1 i2 a b) :
    Turn P w K (.Tuple elts kk tpos) (ItzM K a b) [z, TI, TO, i1, i2] z (fun i h => IsZip h z TI TO .none ∧ IsPair h TI (.ref i1) (.ref i2) ∧ (∃ x y, IsPair h TO x y) ∧ ItAt false h i1 a i ∧ ItAt true h i2 b i) where
  mem := by simp
  obj := fun i h st c hc => by
    obtain ⟨hz, hTI, ⟨x, y, hTO⟩, g1, g2⟩ := st
    have e' : c = z ∨ c = TI ∨ c = TO ∨ c = i1 ∨ c = i2 := by simpa using hc
    rcases e' with rfl | rfl | rfl | rfl | rfl
    · exact ⟨_, hz, fun v q => nomatch q⟩
    · exact ⟨_, hTI, fun v q => nomatch q⟩
    · exact ⟨_, hTO, fun v q => nomatch q⟩
    · exact g1.live
    · exact g2.live
  keep := fun i h h' st k => by
    obtain ⟨hz, hTI, ⟨x, y, hTO⟩, g1, g2⟩ := st
    exact ⟨k z (by simp) _ hz, k TI (by simp) _ hTI, ⟨x, y, k TO (by simp) _ hTO⟩, g1.at fun o q => k i1 (by simp) o q, g2.at fun o q => k i2 (by simp) o q⟩
  item := by
    intro X hP hw hK hc i pins s σ H E I hf st hg
    subst hP hw hK
    obtain ⟨hz, hTI, ⟨x0, y0, hTO⟩, g1, g2⟩ := st
    obtain ⟨xs, ys, x, y, qx, qy, hx, hy⟩ := hg
    obtain ⟨us, rv, pl, _⟩ := I.list qx
    obtain ⟨vs, rv2, pt, _⟩ := I.tuple qy
    obtain ⟨u, hu, ru⟩ := rv.get hx
    obtain ⟨v, hv, rw⟩ := rv2.get hy
    have zl : z < s.heap.objs.size := Heap.lt_size hz
    refine py_item (k1 := false) (k2 := true) D hz hTI hTO g1 g2 pl.isList (show s.heap.IsTuple b vs.toArray from pt) (x := u) (y := v) (by simpa using hu) (by simpa using hv) fun h' z' T' g1' g2' hT hk => ?_
    refine ⟨_, rfl, wpAny_letOwnedTupleGo_zip (s := { s with heap := h' }) z' fun h'' z'' sb => ?_⟩
    have hT2 : h''.get? s.heap.objs.size = some { cls := .type "tuple", data := .seq #[u, v] } := (sb.2 _ (Nat.ne_of_gt zl)).trans hT
    have new : ObjOk X.prog X.w (upd H s.heap.objs.size (.tup [x, y])) h'' s.heap.objs.size (.tup [x, y]) :=
      ⟨by show 2 ≤ sizeLine; decide, [u, v], .cons ru (.cons rw .nil), ⟨_, hT2, rfl, _, rfl⟩⟩
    have I1 : Inv X pins σ (upd H s.heap.objs.size (.tup [x, y])) { s with heap := h'' } :=
      I.turnedNew (t' := s.toks) (ch := [z, TI, TO, i1, i2]) (fun c o hb q => (sb.2 c (fun q' => hb (by simp [q']))).trans (hk c o (fun q' => hb (by simp [q'])) (fun q' => hb (by simp [q'])) (fun q' => hb (by simp [q'])) (fun q' => hb (by simp [q'])) q)) hf (Nat.le_refl _) new
    refine ⟨.ref s.heap.objs.size, _, I1, rfl, ⟨_, x, y, rfl, I.hok.fresh (Nat.le_refl _), rfl, fun l hl => by rw [I.list_inj hl qx]; exact hx, fun l hl => by rw [I.tuple_inj hl qy]; exact hy⟩, ⟨z'', ?_, ⟨u, v, ?_⟩, ?_, ?_⟩, fun c hcm => ?_⟩
    · exact (sb.2 _ D.TIz).trans (hk _ _ D.TIz D.TITO D.TIi1 D.TIi2 hTI)
    · exact (sb.2 _ D.TOz).trans T'
    · exact g1'.at fun o q => (sb.2 _ D.i1z).trans q
    · exact g2'.at fun o q => (sb.2 _ D.i2z).trans q
    · have lt : c < s.heap.objs.size := by
        have e' : c = z ∨ c = TI ∨ c = TO ∨ c = i1 ∨ c = i2 := by simpa using hcm
        obtain ⟨o1, e1, _⟩ := g1.live
        obtain ⟨o2, e2, _⟩ := g2.live
        rcases e' with rfl | rfl | rfl | rfl | rfl
        · exact zl
        · exact Heap.lt_size hTI
        · exact Heap.lt_size hTO
        · exact Heap.lt_size e1
        · exact Heap.lt_size e2
      rw [upd_ne (Nat.ne_of_lt lt)]
      exact (hf c hcm).1
  done := by
    intro X hP hw hK hc i pins s σ H E I hf st hg
    subst hP hw hK
    obtain ⟨hz, hTI, ⟨x0, y0, hTO⟩, g1, g2⟩ := st
    obtain ⟨xs, ys, qx, qy, hend⟩ := hg
    obtain ⟨us, rv, pl, _⟩ := I.list qx
    obtain ⟨vs, rv2, pt, _⟩ := I.tuple qy
    have n1 := rv.length
    have n2 := rv2.length
    have he : us.toArray[i]? = none ∨ vs.toArray[i]? = none := by
      rcases hend with q | q
      · exact .inl (by simp; omega)
      · exact .inr (by simp; omega)
    exact py_end (k1 := false) (k2 := true) (I.ok.hd hc) D hz hTI hTO g1 g2 pl.isList (show s.heap.IsTuple b vs.toArray from pt) he fun h' hk => ⟨rfl, I.turnedL (t' := s.toks) (ch := [z, TI, TO, i1, i2]) (fun c o hb q =>
      hk c o (fun q' => hb (by simp [q'])) (fun q' => hb (by simp [q'])) (fun q' => hb (by simp [q'])) (fun q' => hb (by simp [q'])) q) hf⟩
  self := fun A i s Q E st h => wpAny_pyIter_zip st.1 h
def rZipM (K : PySem.W.Frag) (vs : List V) (H : Hp) (R : It → Hp → Prop) : Prop := ∃ a b xs ys, vs = [.ref a, .ref b] ∧ ((SqL K H a xs ∧ SqL K H b ys ∧ R (Itz K a b) H) ∨ (SqL K H a xs ∧ SqT K H b ys ∧ R (ItzM K a b) H))
/-- zip(a list, a list or a tuple) -/
def iZipM (K : PySem.W.Frag) (ta : TA) : TI := fun σ H R => ta σ H fun vs H1 => rZipM K vs H1 R
theorem pi_zipM {X : Cx} {e e2 : Expr} {ta : TA} {p pos tpos : Pos} {elts : List Expr} {kk : Nat} (hg : Gl X "zip") (hm : X.mg "zip" = none) (ha : PA X [e, e2] ta)
    (hs : starEach [e, e2] X.env = (false, eval e X.env) :: starEach [e2] X.env := by rfl) (hpl : (backTo pos (starEach [e2] X.env)).any (·.1) = false := by rfl) :
    PI X (.Tuple elts kk tpos) (.Call (.Name "zip" p) [e, e2] [] pos) (iZipM X.K ta) := by
  refine ⟨fun pins s σ H R I h => ?_⟩
  refine Call_ (ld_blt I hg hm PyProof.Rows.boot_zip (PyProof.Rows.callWith_type1 (thn (ha.run pos pins s σ H _ I h) fun us s1 ⟨vs, H1, I1, r1, q1⟩ => ?_) hs hpl))
  obtain ⟨a, b, xs, ys, ex, q1⟩ := q1
  subst ex
  cases r1 with
  | cons r rr =>
    cases rr with
    | cons r' rr =>
      cases rr
      cases r
      cases r'
      have fresh5 : ∀ c, c ∈ [s1.heap.objs.size + 4, s1.heap.objs.size + 2, s1.heap.objs.size + 3, s1.heap.objs.size, s1.heap.objs.size + 1] → FpOk X pins H1 c := fun c hcm => by
        have hle : s1.heap.objs.size ≤ c := by
          simp only [List.mem_cons, List.not_mem_nil, or_false] at hcm
          omega
        exact I1.fpOk hle (I1.hok.fresh hle)
      rcases q1 with ⟨hqx, hqy, q⟩ | ⟨hqx, hqy, q⟩
      · obtain ⟨its, rv, p1, _⟩ := I1.list hqx
        obtain ⟨its2, rv2, p2, _⟩ := I1.list hqy
        refine call_zip_2 p1.isList p2.isList fun h' hz hTI hTO h1 h2 hsz hk => wpAny_pyIter_zip hz ?_
        have I2 : Inv X pins σ H1 { s1 with heap := h' } := I1.kept (t' := s1.toks) hk
        exact ⟨s1.heap.objs.size + 4, [s1.heap.objs.size + 4, s1.heap.objs.size + 2, s1.heap.objs.size + 3, s1.heap.objs.size, s1.heap.objs.size + 1], _, _, H1, rfl, I2, turn_zip (PySem.W.ktu_apart s1.heap.objs.size a b p1.lt p2.lt), ⟨hz, hTI, ⟨_, _, hTO⟩, h1, h2⟩, fresh5, q⟩
      · obtain ⟨its, rv, p1, _⟩ := I1.list hqx
        obtain ⟨its2, rv2, p2, _⟩ := I1.tuple hqy
        obtain ⟨o2, ho2, _⟩ := id p2
        refine call_zip p1.isList (show s1.heap.IsTuple b its2.toArray from p2) fun h' hz hTI hTO h1 h2 hk => wpAny_pyIter_zip hz ?_
        have I2 : Inv X pins σ H1 { s1 with heap := h' } := I1.kept (t' := s1.toks) hk
        exact ⟨s1.heap.objs.size + 4, [s1.heap.objs.size + 4, s1.heap.objs.size + 2, s1.heap.objs.size + 3, s1.heap.objs.size, s1.heap.objs.size + 1], _, _, H1, rfl, I2, turnM (PySem.W.ktu_apart s1.heap.objs.size a b p1.lt (Heap.lt_size ho2)), ⟨hz, hTI, ⟨_, _, hTO⟩, h1, h2⟩, fresh5, q⟩
theorem walk_zipM {K : PySem.W.Frag} {a b : Addr} {xs ys : List V} {n : Nat} (hn : n = min xs.length ys.length) : Walk (ItzM K a b) n (fun H => SqL K H a xs ∧ SqT K H b ys) (YPair (fun i => xs[i]?) (fun i => ys[i]?)) := by
  subst hn
  refine ⟨fun i _ hi q => ?_, fun _ q => ⟨xs, ys, q.1, q.2, by omega⟩, fun i H v H' _ q y => ?_⟩
  · have h1 : i < xs.length := by omega
    have h2 : i < ys.length := by omega
    exact ⟨xs, ys, xs[i], ys[i], q.1, q.2, by simp [h1], by simp [h2]⟩
  · obtain ⟨T, x, z, h1, h2, h3, h4, h5⟩ := y
    exact ⟨T, x, z, h1, h2, h3, h4 xs q.1, h5 ys q.2⟩
end ZM

/-! # MO: moduli, plainly -/
namespace R
open PySem PySem.Spec PyProof.Rows L2
/-- r stands somewhere (the law's source) -/
def Liv (H : Hp) (r : Addr) : Prop := ∃ o, H r = some o
theorem Liv.ne {H : Hp} {r p : Addr} (h : Liv H r) (n : H p = none) : p ≠ r := by
  obtain ⟨o, h⟩ := h
  exact Ne.symm (ne_of_none h n)
theorem Liv.ex {H H' : Hp} {r : Addr} (h : Liv H r) (e : Ex H H') : Liv H' r := by
  obtain ⟨o, h⟩ := h
  exact ⟨o, e _ _ h⟩
theorem Rng.liv {H : Hp} {r l : Addr} (h : Rng H r l) : Liv H r := by
  obtain ⟨ns, i, c, s, h1, _⟩ := h
  exact ⟨_, h1⟩
def okMod (p : Int) : Bool := inV (.int p) [.int 2, .int 3, .int 5]
theorem okMod_iff {p : Int} : okMod p = true ↔ p = 2 ∨ p = 3 ∨ p = 5 := by
  unfold okMod inV eqV
  simp only [List.any_cons, List.any_nil, Bool.or_false, Bool.or_eq_true, beq_iff_eq]
  constructor
  · rintro (h | h | h) <;> omega
  · rintro (h | h | h) <;> omega
theorem Er.back {E : XK} {C : Addr} {fs : List (Str × V)} {H H' : Hp} (h : Er E C fs H) (e : Ex H H') : Er E C fs H' := fun d H2 nd h2 e2 => h d H2 (e.none nd) h2 (e.trans e2)
end R

/-! # N1: == and != by a class's own __eq__ -/
namespace PySem.W
open PySem PyProof.Rows
section
variable {prog : Program} {w : World} {A : Around} {E : Value → Shared → Prop} {s : Shared} {K : Frag} {x y C L f : Addr} {h₀ : Heap} {m : Str → Option Value} {ox oy : Obj} {od od' : Option Obj}
theorem ifBound_KB {M : Model} {name : Str} {id : String} {args : List Value} {Q : Option Value → Shared → Prop} (X : K.In s.heap) (I : InstAt s.heap x ox C od) (hs : findIn K (.ref C) name = some (some (.builtin id))) (hbind : ∀ self, bindSpecial (.builtin id) self = pure (.builtin id, [self]))
    (h : wpAny M A (call (.builtin id) (.ref x :: args)) (fun v => Q (some v)) E s) : wpAny M A (callSpecialIfBound? (.ref x) name args) Q E s := by
  simp only [callSpecialIfBound?, bindSpecialIfBound?]
  refine wpAny_holding (wpAny_bind (wpAny_bind (wpAny_bind (I.type.here ((looks_findIn X hs).here ?_)))))
  simp only [hbind]
  refine wpAny_bind (wpAny_askSetting (wpAny_ite ?_))
  have fin : wpAny M A (call (.builtin id) ([.ref x] ++ args) >>= fun v => pure (some v)) Q E s := wpAny_bind (wpAny_mono h (fun v s' h' => wpAny_pure h') fun _ _ h' => h')
  split
  · exact wpAny_bind (wpAny_pure (wpAny_pure fin))
  · exact wpAny_tryCatch (wpAny_bind (wpAny_pure (wpAny_pure fin)))
theorem ne_K {Q : Value → Shared → Prop} (hu : A.units + 1 < cLine) (Fq : Fr h₀ L s.heap m) (X₀ : K.In h₀) (I : InstAt s.heap x ox C od) (J : InstAt s.heap y oy C od')
    (hn : findIn K (.ref C) "__ne__" = some (some (.builtin "object.__ne__"))) (hs : findIn K (.ref C) "__eq__" = some (some (.ref f))) (hf : isFn K (.ref f) = true) (hp : plainOver K C = true)
    (h : wpAny (model prog w) A.in1 (call (.ref f) [.ref x, .ref y]) (fun v s' => ∃ b, v = .bool b ∧ Q (.bool (!b)) s') E s) : wpAny (model prog w) A (richCompare .NotEq (.ref x) (.ref y)) Q E s := by
  have X := X₀.keeps Fq.keep
  have sub : Looks (model prog w) s.heap (isInstance (.ref x) (.type "object")) true := by
    obtain ⟨cd, hc, ho⟩ := any_some hp
    have ne : cd.mro.isEmpty = false := by cases q : cd.mro with | nil => rw [q] at ho; cases ho | cons _ _ => rfl
    exact I.type.andThen (looks_mroIn X (by unfold mroIn; rw [hc, Option.bind_some, if_neg (by rw [ne]; decide), only_has ho]))
  have one : wpAny (model prog w) A (tryCompare (.ref x) (cmpInfo .NotEq).2.1 (.ref y)) (fun r s' => ∃ v, r = some v ∧ Q v s') E s := by
    unfold tryCompare
    refine wpAny_bind (ifBound_KB X I hn PySem.F.cmp_object.ne.bind ?_)
    refine wpAny_call (codeAny_call_builtin PySem.F.cmp_object.ne.plain PySem.F.cmpEntry_ne (@check_slot (model prog w) _ _ s "object.__ne__" "object" "__ne__" (.ref x) [.ref y] [] _ PySem.F.cmpKind_ne PySem.F.cmpSplit_ne sub (PySem.F.cmpArgs_ne _ _) ?_))
    unfold Builtin.«object.__ne__»
    obtain ⟨hp', g, d, t, os⟩ := s
    repeat (first
      | with_reducible refine wpAny_cRoomFor hu ?_
      | (refine wpAny_bind (m := callSpecialIfBound? (.ref x) (Str.ofString "__eq__") [.ref y])
          (ifBound_K X I hs hf (wpAny_mono h (fun r s' hr => by
            obtain ⟨b, rfl, hq⟩ := hr
            repeat (first | exact ⟨_, rfl, hq⟩ | exact hq | exact wpAny_pure hq | (refine wpAny_bind (m := truthy (.bool _)) (wpAny_truthy_bool ?_)) | wp_step)) fun _ _ e => e)))
      | wp_step)
  unfold richCompare
  simp only [oneThing_ref]
  refine wpAny_holding (wpAny_bind (wpAny_cRoomFor (Nat.lt_of_succ_lt hu) ?_))
  refine wpAny_bind (I.type.here (wpAny_bind (J.type.here ?_)))
  rw [show (Value.ref C != Value.ref C) = false from by simp]
  simp only [Bool.false_eq_true, if_false]
  refine wpAny_bind (wpAny_pure ?_)
  simp only [Bool.false_eq_true, if_false]
  refine wpAny_bind (wpAny_mono one (fun r s' z => ?_) fun _ _ e => e)
  obtain ⟨v, rfl, hq⟩ := z
  exact wpAny_pure hq
end
end PySem.W
namespace R
open PySem PySem.Spec PyProof.Rows L2
/-- x == y, x != y for two of the class at C -/
def rOwn (C : Addr) (sp : Sp) (E : XK) (g : Bool → Bool) : R2 := fun x y H Q => ∃ a b dx dy fs gs, x = .ref a ∧ y = .ref b ∧ H a = some (.ins C dx fs) ∧ H b = some (.ins C dy gs) ∧ sp [.ref a, .ref b] H (fun v H' => ∃ r, v = .bl r ∧ Q (.bl (g r)) H') E
section
variable {X : Cx} {C : Addr} {m qual : Str} {st : Stmt} {ps : List Str} {k : Nat} {sp : Sp} {E : XK}
theorem env0_in1 {P : Program} {w : World} {K : PySem.W.Frag} {mg : Str → Option Value} {base : Heap} {A : Around} {st : List Env} {s : Shared} {H : Hp} (e : Env0 P w K mg base A st s H) : Env0 P w K mg base A.in1 st s H := ⟨e.frames, e.mod, e.bs, e.bsz, e.funs, e.frf, e.hok, e.bare⟩
theorem own_run (d : MT X.K C m qual st ps) (G : FnOk X.prog X.w X.K X.mg X.base (L2.CX X.prog X.w) k d.f d.fd ps sp) {A : Around} (hr : Room k A) {pins : List (Addr × Obj)} {s : Shared} {σ : L2.St} {H : Hp} (I : Inv X pins σ H s) (e0 : Env0 X.prog X.w X.K X.mg X.base A X.stack s H) (hx : Passes (L2.CX X.prog X.w) X E)
    {a b : Addr} {Q : VK} {R : Value → Shared → Prop} (hsp : sp [.ref a, .ref b] H Q E) (hq : ∀ v u H' s', Inv X pins σ H' s' → RelV v u → Q v H' → R u s') : wpAny (model X.prog X.w) A (call (.ref d.f) [.ref a, .ref b]) R X.xe s := by
  have hl := G.len _ _ _ _ hsp
  have r2 : Vals [V.ref a, V.ref b] [Value.ref a, Value.ref b] := .cons rfl (.cons rfl .nil)
  refine wpAny_call (codeAny_mono (G.run A X.stack s H ⟨[.ref a, .ref b], []⟩ [.ref a, .ref b] [.ref a, .ref b] _ E hr e0 (by
    have := d.b s [.ref a, .ref b] I.kIn (by simpa using hl)
    simpa using this) r2 hsp) fun r s' z => ?_)
  cases r with
  | error e => exact hx pins σ H s e s' I z
  | ok fl =>
    cases fl with
    | ret w =>
      obtain ⟨v, H', I', rz, q⟩ := I.after z
      exact hq v w H' s' I' rz q
    | next => exact False.elim z
    | brk => exact False.elim z
    | cont => exact False.elim z
theorem op_ownEq (d : MT X.K C m qual st ps) (q : EQ X.K C d.f) (G : FnOk X.prog X.w X.K X.mg X.base (L2.CX X.prog X.w) k d.f d.fd ps sp) (hr : Room (k + 1) X.A) (hx : Passes (L2.CX X.prog X.w) X E) : OpR X (compareOp .Eq) (rOwn C sp E id) := by
  intro pins s σ H x y v u Q I rx ry h
  obtain ⟨a, b, dx, dy, fs, gs, rfl, rfl, ha, hb, hs⟩ := h
  cases rx
  cases ry
  obtain ⟨mA, J, _⟩ := ins_get I.hok ha
  obtain ⟨mB, J', _⟩ := ins_get I.hok hb
  obtain ⟨od, J, _⟩ := J.look
  obtain ⟨od', J', _⟩ := J'.look
  obtain ⟨m0, hF⟩ := I.fr
  show wpAny (model X.prog X.w) X.A (richCompare .Eq (.ref a) (.ref b)) (EP X pins σ Q) X.xe s
  refine PySem.W.cmp_K (op := .Eq) (tb := .ref C) hr.units0 hF I.ok.mod.kin J J'.type (by simp [PySem.W.notFirst]) q.eq q.fn ?_
  refine own_run d G (hr.mono (by omega)) I I.env0 hx hs fun v u H' s' I' r z => ?_
  obtain ⟨c, rfl, z⟩ := z
  cases r
  exact ⟨.bl c, H', I', rfl, z⟩
theorem op_ownNe (d : MT X.K C m qual st ps) (q : EQ X.K C d.f) (G : FnOk X.prog X.w X.K X.mg X.base (L2.CX X.prog X.w) k d.f d.fd ps sp) (hr : Room (k + 1) X.A) (hx : Passes (L2.CX X.prog X.w) X E) : OpR X (compareOp .NotEq) (rOwn C sp E not) := by
  intro pins s σ H x y v u Q I rx ry h
  obtain ⟨a, b, dx, dy, fs, gs, rfl, rfl, ha, hb, hs⟩ := h
  cases rx
  cases ry
  obtain ⟨mA, J, _⟩ := ins_get I.hok ha
  obtain ⟨mB, J', _⟩ := ins_get I.hok hb
  obtain ⟨od, J, _⟩ := J.look
  obtain ⟨od', J', _⟩ := J'.look
  obtain ⟨m0, hF⟩ := I.fr
  show wpAny (model X.prog X.w) X.A (richCompare .NotEq (.ref a) (.ref b)) (EP X pins σ Q) X.xe s
  refine PySem.W.ne_K (by have := hr.units; omega) hF I.ok.mod.kin J J' q.ne q.eq q.fn q.pl ?_
  refine own_run d G hr.in1 I (env0_in1 I.env0) hx hs fun v u H' s' I' r z => ?_
  obtain ⟨c, rfl, z⟩ := z
  cases r
  exact ⟨c, rfl, .bl (!c), H', I', rfl, z⟩
end
end R

/-! # N3: len of a class's own -/
namespace PySem.W
open PySem PyProof.Rows
section
variable {E : Value → Shared → Prop} {s : Shared} {K : Frag} {x C f : Addr} {ox : Obj} {od : Option Obj} {name : Str}
theorem special_K {M : Model} {A : Around} {args : List Value} {Q : Option Value → Shared → Prop} (X : K.In s.heap) (I : InstAt s.heap x ox C od) (hs : findIn K (.ref C) name = some (some (.ref f))) (hf : isFn K (.ref f) = true)
    (h : wpAny M A (call (.ref f) (.ref x :: args)) (fun v => Q (some v)) E s) : wpAny M A (callSpecial? (.ref x) name args) Q E s := by
  have sp : Looks M s.heap (specialOf (.ref x) name) (some (.ref f)) := I.type.andThen (looks_findIn X hs)
  simp only [callSpecial?]
  refine wpAny_bind (sp.here ?_)
  refine wpAny_holding (wpAny_bind ((bind_fn X _ (beq_iff_eq.mp hf)).here ?_))
  exact wpAny_bind (wpAny_mono h (fun v s' h' => wpAny_pure h') fun _ _ h' => h')
end
end PySem.W
namespace R
open PySem PySem.Spec PyProof.Rows L2
def rLenM (C : Addr) (sp : Sp) (E : XK) : List V → Hp → VK → Prop := fun xs H Q => ∃ a dx fs, xs = [.ref a] ∧ H a = some (.ins C dx fs) ∧ sp [.ref a] H (fun v H' => ∃ n : Nat, v = .int n ∧ n < 2 ^ 62 ∧ Q (.int n) H') E
section
variable {X : Cx} {C : Addr} {m qual : Str} {st : Stmt} {ps : List Str} {k : Nat} {sp : Sp} {E : XK}
theorem own_run1 (d : MT X.K C m qual st ps) (G : FnOk X.prog X.w X.K X.mg X.base (L2.CX X.prog X.w) k d.f d.fd ps sp) {A : Around} (hr : Room k A) {pins : List (Addr × Obj)} {s : Shared} {σ : L2.St} {H : Hp} (I : Inv X pins σ H s) (e0 : Env0 X.prog X.w X.K X.mg X.base A X.stack s H) (hx : Passes (L2.CX X.prog X.w) X E)
    {a : Addr} {Q : VK} {R : Value → Shared → Prop} (hsp : sp [.ref a] H Q E) (hq : ∀ v u H' s', Inv X pins σ H' s' → RelV v u → Q v H' → R u s') : wpAny (model X.prog X.w) A (call (.ref d.f) [.ref a]) R X.xe s := by
  have hl := G.len _ _ _ _ hsp
  have r2 : Vals [V.ref a] [Value.ref a] := .cons rfl .nil
  refine wpAny_call (codeAny_mono (G.run A X.stack s H ⟨[.ref a], []⟩ [.ref a] [.ref a] _ E hr e0 (by
    have := d.b s [.ref a] I.kIn (by simpa using hl)
    simpa using this) r2 hsp) fun r s' z => ?_)
  cases r with
  | error e => exact hx pins σ H s e s' I z
  | ok fl =>
    cases fl with
    | ret w =>
      obtain ⟨v, H', I', rz, q⟩ := I.after z
      exact hq v w H' s' I' rz q
    | next => exact False.elim z
    | brk => exact False.elim z
    | cont => exact False.elim z
theorem call_ownLen (d : MT X.K C "__len__" qual st ps) (G : FnOk X.prog X.w X.K X.mg X.base (L2.CX X.prog X.w) k d.f d.fd ps sp) (hr : Room (k + 1) X.A) (hx : Passes (L2.CX X.prog X.w) X E) : CallR X (.builtin "len") (rLenM C sp E) := by
  intro pins s σ H xs us Q I r h
  obtain ⟨a, dx, fs, rfl, ha, hs⟩ := h
  rw [Vals.ref1 r]
  obtain ⟨mA, J, _⟩ := ins_get I.hok ha
  obtain ⟨od, J, _⟩ := J.look
  refine Calls.call_function_entry kind_len plain_len entry_len (args_len1 _) ?_
  unfold Builtin.«len»
  refine wpAny_bind (m := oneArg "len" _) (wpAny_pure ?_)
  refine wpAny_bind (m := callSpecial? (.ref a) (Str.ofString "__len__")) (PySem.W.special_K I.kIn J d.mt.at_ d.mt.fn ?_)
  refine own_run1 d G hr.in1 I (env0_in1 I.env0) hx hs fun v u H' s' I' r z => ?_
  obtain ⟨n, rfl, hn, z⟩ := z
  obtain ⟨t, rfl⟩ := r
  refine wpAny_bind (wpAny_holding (wpAny_pure ?_))
  refine wpAny_bind (wpAny_letGo ?_)
  show wpAny _ _ (if ((n : Nat) : Int) < 0 then _ else _) _ _ _
  rw [if_neg (by omega)]
  show wpAny _ _ (if ((n : Nat) : Int) ≥ 2 ^ 63 then _ else _) _ _ _
  rw [if_neg (by omega)]
  exact wpAny_bind (wpAny_mkInt (wpAny_pure ⟨_, rfl, .int n, H', I'.tok _, ⟨_, rfl⟩, z⟩))
end
end R

/-! # O2: a lambda called any frames deeper -/
namespace R
open PySem PySem.Spec PyProof.Rows L2 LamX
section
variable {X : Cx} {pins : List (Addr × Obj)} {σ : L2.St} {H HZ : Hp} {s s1 : Shared}
theorem lam_start3 {fs : List Addr} {A : Around} {outer : List Env} {E : XK} {scope : Scope} {f c' : Addr} {h₁ : Heap} {tk : Nat} (I : Inv X pins σ H s) (L : LamS X.env.scope scope) (e0 : Env0 X.prog X.w X.K X.mg X.base A outer s1 HZ) (hd : A.handled = none)
    (un : Un fs [] H HZ s.heap s1.heap) (hns : h₁.Ns s1.heap.objs.size fun y => ([] : List (Str × Value)).reverse.lookup y) (kp : ∀ b o, s1.heap.get? b = some o → h₁.get? b = some o) :
    Inv (lamCx X A outer s1 HZ E scope f c') [] σ HZ { s1 with heap := h₁, toks := tk } := by
  have hfree := L.has I.ok
  have cm : ∀ {y c}, (cloFrom X.env.cells scope.names []).lookup y = some c → X.env.cells.lookup y = some c := fun {y c} e => by
    rcases cloFrom_mem (PySem.mem_of_lookup e) with hm | ⟨h1, h2⟩
    · cases hm
    · obtain ⟨c1, hc⟩ := hfree _ h1 rfl
      have hc : X.env.cells.lookup y = some c1 := hc
      have e2 : c = c1 := by
        rw [h2, hc] <;> rfl
      rw [e2]
      exact hc
  have look : ∀ {y}, scope.names.lookup y = some .free → ∃ c, (cloFrom X.env.cells scope.names []).lookup y = some c := fun {y} hl => by
    have hy : (y, NameKind.free) ∈ scope.names := PySem.mem_of_lookup hl
    exact mem_lookup (cloFrom_has (cells := X.env.cells) (acc := []) hy)
  have cellK : ∀ {c : Addr} {v : Option Value}, H c = none → s.heap.IsCell c v → h₁.IsCell c v := fun {c v} n ⟨o, ho, hd⟩ => by
    obtain ⟨sl, q⟩ := un.any ho n (by simp)
    exact ⟨_, kp _ _ q, hd⟩
  have noA : ∀ b : Addr, b ∉ (lamCx X A outer s1 HZ E scope f c').ex := fun b z => absurd (show b ∈ ([] : List Addr) from z) (by simp)
  refine ⟨⟨e0.mod, L.kind, rfl, rfl, Nat.le_refl _, fun y z c e1 e2 => I.ok.inj y z c (cm e1) (cm e2), fun y hy => ?_, fun y c z _ => ?_, fun _ => hd, Around.frames_deeper e0.frames, .inr ⟨rfl, rfl⟩, fun b z => absurd z (noA b), e0.bs, e0.bsz, fun b _ _ => noA b,
      fun b z => absurd z (noA b), e0.funs, e0.frf⟩,
    rfl, e0.bare, Un.kept kp, ⟨_, hns, fun i y v e1 e2 e3 => ?_⟩, fun y c e => ?_, e0.hok.fresh (Nat.le_refl _), fun y c e => ?_, fun q hq => absurd (show q ∈ ([] : List (Addr × Obj)) ++ [] from hq) (by simp), e0.hok.kept kp, I.len⟩
  · have hy : scope.names.lookup y = some .cell ∨ scope.names.lookup y = some .free := hy
    rcases hy with hy | hy
    · exact absurd rfl (L.own _ (PySem.mem_of_lookup hy)).2
    · exact look hy
  · have z : false = true := z
    cases z
  · have e3 : Vis scope y := e3
    rcases e3 with k | k | k
    · exact absurd rfl (L.own _ (PySem.mem_of_lookup k)).1
    · exact absurd rfl (L.own _ (PySem.mem_of_lookup k)).2
    · obtain ⟨m, hn, hl⟩ := I.loc
      have hvis : Vis X.env.scope y := (L.free _ (PySem.mem_of_lookup k) rfl).elim (fun k => .inr (.inl k)) (fun k => .inr (.inr k))
      obtain ⟨w', r, q⟩ := hl i y v e1 e2 hvis
      obtain ⟨c2, h2⟩ := look k
      refine ⟨w', r, .inr ⟨.inr k, c2, h2, ?_⟩⟩
      have c1 := cm h2
      rcases q with ⟨k', _⟩ | ⟨_, c3, e', z⟩
      · have k' : X.env.scope.names.lookup y = some .local := k'
        rcases L.free _ (PySem.mem_of_lookup k) rfl with k2 | k2 <;> rw [show X.env.scope.names.lookup y = _ from k2] at k' <;> cases k'
      · rw [c1] at e'
        cases e'
        exact cellK (I.freeC y _ c1) z
  · obtain ⟨w', z⟩ := I.cell y c (cm e)
    exact ⟨w', cellK (I.freeC y c (cm e)) z⟩
  · obtain ⟨v, o, ho, hd⟩ := I.cell y c (cm e)
    exact un.free c o ho (I.freeC y c (cm e)) (by simp)
/-- a lambda made in the frame X, as it stands -/
structure LamAt (X : Cx) (pins : List (Addr × Obj)) (σ : L2.St) (H : Hp) (s : Shared) (params : Arguments) (body : Expr) (scope : Scope) (f c' : Addr) (pm ctv : Value) : Prop where
  inv : Inv X pins σ H s
  lam : LamS X.env.scope scope
  obj : s.heap.get? f = some (PySem.W.kla_obj "<lambda>" (X.env.qual ++ "<lambda>") params body scope (cloFrom X.env.cells scope.names []) pm c' ctv)
  new : H f = none
  bind : bindArgs (PySem.W.kla_fn "<lambda>" (X.env.qual ++ "<lambda>") params body scope (cloFrom X.env.cells scope.names []) pm (.ref c') ctv) ⟨[], []⟩ = pure []
/-- x() in a frame entered at s2, H2 -/
theorem pe_act2 {CXg : CXT} {Eg : XK} {Ng : List Str} {qg : Str} {sg : Scope} {g f c' : Addr} {cdg pm ctv : Value} {params : Arguments} {body : Expr} {scope : Scope} {k i : Nat} {a : Str} {pn : List (Addr × Obj)} {xe : Value → Shared → Prop} {W : WX} {E : XK} {tb : TE} {p1 p2 : Pos}
    {A2 : Around} {outer2 : List Env} {s2 : Shared} {H2 : Hp} (la : LamAt X pins σ H s params body scope f c' pm ctv) (un0 : Un (frs outer2) [] H H2 s.heap s2.heap) (hfr : f ∉ frs outer2)
    (tk : Takes ((cxOf CXg X.prog X.w X.K X.mg X.base Ng qg sg g cdg A2 outer2 s2 H2 Eg).tr pn xe) W) (hW : ∀ cls d (σ' : L2.St) H', σ'.length = Ng.length → E cls d H' → W cls d σ' H') (hr : Room (k + 1) (A2.deeper (envOfC qg sg s2.heap.objs.size g cdg)))
    (hbody : ∀ (A : Around) (outer : List Env) (s' : Shared) (H' : Hp), Room k (A.deeper (lamEnv X scope s'.heap.objs.size f c')) → PE (lamCx X A outer s' H' E scope f c') body tb)
    (hN : Ng[i]? = some a) (hv : Vis sg a) (hd : (a == ("__debug__" : Str)) = false := by decide) (hcd : (a == ("__classdict__" : Str)) = false := by decide) :
    PE ((cxOf CXg X.prog X.w X.K X.mg X.base Ng qg sg g cdg A2 outer2 s2 H2 Eg).tr pn xe) (.Call (.Name a p1) [] [] p2)
      (fun σZ HZ Q => σZ[i]? = some (some (.ref f)) ∧ HZ c' = some (CodeO c' (X.env.qual ++ "<lambda>")) ∧ tb σ HZ Q) := by
  obtain ⟨I, L, hf, hfn, hbind⟩ := la
  refine ⟨fun pinsZ sZ σZ HZ Q IZ h => ?_⟩
  obtain ⟨hs, hc, ht⟩ := h
  refine wpAny_Call_Name_kw (thn ((pe_var (pos := p1) (i := i) hN hv hd hcd).run pinsZ sZ σZ HZ (fun v H1 => v = .ref f ∧ H1 = HZ) IZ ⟨.ref f, hs, rfl, rfl⟩) fun u s1 ⟨v, H1, I1, r1, q1⟩ => ?_)
  obtain ⟨ev, eH⟩ := q1
  subst ev
  rw [eH] at I1
  obtain rfl : u = Value.ref f := r1
  have un : Un (frs outer2) [] H HZ s.heap s1.heap := un0.trans I1.base
  have of1 : s1.heap.get? f = some (PySem.W.kla_obj "<lambda>" (X.env.qual ++ "<lambda>") params body scope (cloFrom X.env.cells scope.names []) pm c' ctv) := un.keep f _ hf hfn hfr (fun z => nomatch (show f ∈ ([] : List Addr) from z))
  refine PySem.W.callWith_F0 ⟨_, _, _, _, of1⟩ ?_
  obtain ⟨⟨oc, vs, t, hoc, hdc, hvc⟩, _, _⟩ := I1.hok c' _ hc
  have rc : codeAny (model X.prog X.w) (A2.deeper (envOfC qg sg s2.heap.objs.size g cdg)) (.call (.ref f) ⟨[], []⟩) (CR (L2.CX X.prog X.w) (envOfC qg sg s2.heap.objs.size g cdg :: outer2) X.prog X.w HZ s1 Q E) s1 := by
    refine PySem.W.kla_callFunE hr.depth of1 rfl L.co L.gen rfl ⟨c', oc, vs, t, rfl, hoc, hdc, hvc⟩ ?_
    rw [hbind]
    refine wpAny_pure (wpAny_newFunctionEnv (fun y hy => (L.own y hy).2) (fun y hy => absurd hy (by simp)) (fun h₁ hns hsb => ⟨I1.nolimit.fresh _ hsb, ?_⟩) L.kind)
    show codeAny _ _ (.expr body (lamEnv X scope s1.heap.objs.size f c')) _ _
    have kp : ∀ b o, s1.heap.get? b = some o → h₁.get? b = some o := fun b o e => hsb.extBut b o (Nat.ne_of_lt (Heap.lt_size e)) (Heap.get?_push_of_some _ e)
    have J : Inv (lamCx X (A2.deeper (envOfC qg sg s2.heap.objs.size g cdg)) (envOfC qg sg s2.heap.objs.size g cdg :: outer2) s1 HZ E scope f c') [] σ HZ { s1 with heap := h₁, toks := s1.toks + ([] : List (Str × Value)).length } :=
      lam_start3 I L I1.env0 hr.hd un hns kp
    refine PySem.W.kla_codeExpr (wpAny_mono ((hbody _ _ s1 HZ (hr.deeper _)).run [] _ _ HZ Q J ht) (fun v s' hq => ?_) fun e s' hq => hq)
    obtain ⟨w', H', J', rv, q⟩ := hq
    exact ⟨w', H', J'.os, J'.bare, J'.base, J'.hok, rv, q⟩
  refine wpAny_call (codeAny_mono rc fun r s' hq => ?_)
  cases r with
  | error e => exact tk e s' (XE.of_call I1 (fun cls d H' h => hW cls d σZ H' I1.len h) hq)
  | ok fl =>
    cases fl with
    | ret u => exact I1.after hq
    | next => exact False.elim hq
    | brk => exact False.elim hq
    | cont => exact False.elim hq
end
end R

/-! # W0: data, cells, what stands -/
namespace R
open PySem PySem.Spec PyProof.Rows L2 L2H LamX
/-- data, as the program's functions hand it on -/
inductive D where
  | non | bl (b : Bool) | int (i : Int) | str (s : Str)
  | lst (ds : List D) | tup (ds : List D) | mac (M : Mac)
  /-- a tuple of numbers whose one object is known -/
  | ktp (ts : List Nat)
  /-- a tuple of numbers that stands in the heap itself (no constant) -/
  | htp (ts : List Nat)
noncomputable instance : DecidableEq D := fun _ _ => Classical.propDecidable _
abbrev dn (n : Nat) : D := .int (n : Int)
abbrev dr (xs : List Nat) : D := .tup (xs.map dn)
abbrev dl (xs : List Nat) : D := .lst (xs.map dn)
mutual
/-- d stands at v, away from av (what may change) -/
inductive Dv (K : PySem.W.Frag) (C : Addr) (av : Addr → Prop) (H : Hp) : V → D → Prop
  | non : Dv K C av H .non .non
  | bl (b : Bool) : Dv K C av H (.bl b) (.bl b)
  | int (i : Int) : Dv K C av H (.int i) (.int i)
  | str (x : Str) : Dv K C av H (.str x) (.str x)
  | lst {a : Addr} {xs : List V} {ds : List D} : H a = some (.lst xs) → ¬ av a → xs.length ≤ 900000 → DvAll K C av H xs ds → Dv K C av H (.ref a) (.lst ds)
  | tup {a : Addr} {xs : List V} {ds : List D} : H a = some (.tup xs) → ¬ av a → xs.length ≤ 900000 → DvAll K C av H xs ds → Dv K C av H (.ref a) (.tup ds)
  /-- the one constant tuple: the moduli -/
  | ktup {a : Addr} {xs : List V} : (∀ H', SqT K H' a xs) → xs.length ≤ 900000 → DvAll K C av H xs [.int 2, .int 3, .int 5] → Dv K C av H (.ref a) (.tup [.int 2, .int 3, .int 5])
  | mac {a dx : Addr} {va vt : V} {M : Mac} : ¬ av a → H a = some (.ins C dx [("modulus", vN M.p), ("start", vN M.st), ("added", va), ("targets", vt)]) → Dv K C av H va (dl M.ad) → Dv K C av H vt (.lst (M.tg.map D.ktp)) → Dv K C av H (.ref a) (.mac M)
  | ktp {a : Addr} {o : Obj} {ts : List Nat} : H a = some (.frz o (.tup (ts.map vN))) → o.dict = none → ¬ av a → ts.length ≤ 900000 → Dv K C av H (.ref a) (.ktp ts)
  | htp {a : Addr} {ts : List Nat} : H a = some (.tup (ts.map vN)) → ¬ av a → ts.length ≤ 900000 → Dv K C av H (.ref a) (.htp ts)
inductive DvAll (K : PySem.W.Frag) (C : Addr) (av : Addr → Prop) (H : Hp) : List V → List D → Prop
  | nil : DvAll K C av H [] []
  | cons {v : V} {vs : List V} {d : D} {ds : List D} : Dv K C av H v d → DvAll K C av H vs ds → DvAll K C av H (v :: vs) (d :: ds)
end
/-- an object that is no code table -/
def Nt (o : HO) : Prop := ∀ ps, o ≠ .tbl ps
/-- an object that may change -/
def Na (o : HO) : Prop := Nt o ∧ (∀ vs, o ≠ .tup vs) ∧ ∀ q u, o ≠ .frz q u
section
variable {K : PySem.W.Frag} {C : Addr} {av av' : Addr → Prop} {H H' : Hp}
theorem rd_keep {a : Addr} {u : HO} (e : ∀ b o, H b = some o → ¬ av b → Nt o → H' b = some o) (h : Rd H a u) (n : ¬ av a) (t : Nt u) : Rd H' a u := by
  rcases h with h | ⟨o, h⟩
  · exact .inl (e a _ h n t)
  · exact .inr ⟨o, e a _ h n fun _ z => by cases z⟩
theorem rd_some {a : Addr} {u : HO} (h : Rd H a u) : ∃ o, H a = some o := by
  rcases h with h | ⟨o, h⟩ <;> exact ⟨_, h⟩
mutual
theorem Dv.step (e : ∀ b o, H b = some o → ¬ av b → Nt o → H' b = some o) (m : ∀ b o, av' b → H b = some o → av b) : ∀ {v : V} {d : D}, Dv K C av H v d → Dv K C av' H' v d
  | _, _, .non => .non
  | _, _, .bl b => .bl b
  | _, _, .int i => .int i
  | _, _, .str x => .str x
  | _, _, .lst h1 h2 h3 h4 => .lst (e _ _ h1 h2 (fun _ z => by cases z)) (fun q => h2 (m _ _ q h1)) h3 (DvAll.step e m h4)
  | _, _, .tup h1 h2 h3 h4 => .tup (e _ _ h1 h2 (fun _ z => by cases z)) (fun q => h2 (m _ _ q h1)) h3 (DvAll.step e m h4)
  | _, _, .ktup h1 h3 h4 => .ktup h1 h3 (DvAll.step e m h4)
  | _, _, .mac h1 h2 h3 h4 => .mac (fun q => h1 (m _ _ q h2)) (e _ _ h2 h1 (fun _ z => by cases z)) (Dv.step e m h3) (Dv.step e m h4)
  | _, _, .ktp h1 h2 h3 h4 => .ktp (e _ _ h1 h3 (fun _ z => by cases z)) h2 (fun q => h3 (m _ _ q h1)) h4
  | _, _, .htp h1 h2 h3 => .htp (e _ _ h1 h2 (fun _ z => by cases z)) (fun q => h2 (m _ _ q h1)) h3
theorem DvAll.step (e : ∀ b o, H b = some o → ¬ av b → Nt o → H' b = some o) (m : ∀ b o, av' b → H b = some o → av b) : ∀ {vs : List V} {ds : List D}, DvAll K C av H vs ds → DvAll K C av' H' vs ds
  | _, _, .nil => .nil
  | _, _, .cons h1 h2 => .cons (Dv.step e m h1) (DvAll.step e m h2)
end
theorem Dv.ex {v : V} {d : D} (e : Ex H H') (h : Dv K C av H v d) : Dv K C av H' v d := h.step (fun b o q _ _ => e b o q) fun _ _ q _ => q
theorem DvAll.ex {v : List V} {d : List D} (e : Ex H H') (h : DvAll K C av H v d) : DvAll K C av H' v d := h.step (fun b o q _ _ => e b o q) fun _ _ q _ => q
theorem DvAll.len : ∀ {vs : List V} {ds : List D}, DvAll K C av H vs ds → vs.length = ds.length
  | _, _, .nil => rfl
  | _, _, .cons _ h => congrArg Nat.succ (DvAll.len h)
theorem DvAll.app : ∀ {vs ws : List V} {ds es : List D}, DvAll K C av H vs ds → DvAll K C av H ws es → DvAll K C av H (vs ++ ws) (ds ++ es)
  | _, _, _, _, .nil, g => g
  | _, _, _, _, .cons h t, g => .cons h (DvAll.app t g)
theorem DvAll.get : ∀ {vs : List V} {ds : List D} {i : Nat} {d : D}, DvAll K C av H vs ds → ds[i]? = some d → ∃ v, vs[i]? = some v ∧ Dv K C av H v d
  | _, _, _, _, .nil, e => by simp at e
  | _, _, 0, _, .cons h _, e => by
    simp at e
    subst e
    exact ⟨_, rfl, h⟩
  | _, _, i + 1, _, .cons _ h, e => by
    obtain ⟨v, h1, h2⟩ := DvAll.get (i := i) h (by simpa using e)
    exact ⟨v, by simpa using h1, h2⟩
theorem DvAll.getV : ∀ {vs : List V} {ds : List D} {i : Nat} {v : V}, DvAll K C av H vs ds → vs[i]? = some v → ∃ d, ds[i]? = some d ∧ Dv K C av H v d
  | _, _, _, _, .nil, e => by simp at e
  | _, _, 0, _, .cons h _, e => by
    simp at e
    subst e
    exact ⟨_, rfl, h⟩
  | _, _, i + 1, _, .cons _ h, e => by
    obtain ⟨v, h1, h2⟩ := DvAll.getV (i := i) h (by simpa using e)
    exact ⟨v, by simpa using h1, h2⟩
theorem DvAll.set : ∀ {vs : List V} {ds : List D} (i : Nat) {v : V} {d : D}, DvAll K C av H vs ds → Dv K C av H v d → DvAll K C av H (vs.set i v) (ds.set i d)
  | _, _, _, _, _, .nil, _ => .nil
  | _, _, 0, _, _, .cons _ h, q => .cons q h
  | _, _, i + 1, _, _, .cons h t, q => .cons h (DvAll.set i t q)
theorem DvAll.take : ∀ {vs : List V} {ds : List D} (n : Nat), DvAll K C av H vs ds → DvAll K C av H (vs.take n) (ds.take n)
  | _, _, 0, _ => by rw [List.take_zero, List.take_zero]; exact .nil
  | _, _, _ + 1, .nil => .nil
  | _, _, n + 1, .cons h t => .cons h (DvAll.take n t)
theorem DvAll.drop : ∀ {vs : List V} {ds : List D} (n : Nat), DvAll K C av H vs ds → DvAll K C av H (vs.drop n) (ds.drop n)
  | _, _, 0, h => h
  | _, _, _ + 1, .nil => .nil
  | _, _, n + 1, .cons _ t => DvAll.drop n t
theorem DvAll.rep {v : V} {d : D} (h : Dv K C av H v d) : ∀ n, DvAll K C av H (List.replicate n v) (List.replicate n d)
  | 0 => .nil
  | n + 1 => .cons h (DvAll.rep h n)
theorem DvAll.ints : ∀ {vs : List V} {ns : List Int}, DvAll K C av H vs (ns.map D.int) → vs = ns.map V.int
  | _, [], h => by cases h; rfl
  | _, n :: ns, h => by
    cases h with
    | cons a b =>
      cases a
      rw [DvAll.ints b]
      rfl
theorem DvAll.ofInts : ∀ (ns : List Int), DvAll K C av H (ns.map V.int) (ns.map D.int)
  | [] => .nil
  | n :: ns => .cons (.int n) (DvAll.ofInts ns)
theorem DvAll.ofNats : ∀ (ns : List Nat), DvAll K C av H (ns.map vN) (ns.map dn)
  | [] => .nil
  | n :: ns => .cons (.int n) (DvAll.ofNats ns)
theorem DvAll.nats : ∀ {vs : List V} {ns : List Nat}, DvAll K C av H vs (ns.map dn) → vs = ns.map vN
  | _, [], h => by cases h; rfl
  | _, n :: ns, h => by
    cases h with
    | cons a b =>
      cases a
      rw [DvAll.nats b]
      rfl
theorem DvAll.bls : ∀ {vs : List V} {ns : List Bool}, DvAll K C av H vs (ns.map D.bl) → vs = ns.map V.bl
  | _, [], h => by cases h; rfl
  | _, n :: ns, h => by
    cases h with
    | cons a b =>
      cases a
      rw [DvAll.bls b]
      rfl
theorem DvAll.strs : ∀ {vs : List V} {ns : List Str}, DvAll K C av H vs (ns.map D.str) → vs = ns.map V.str
  | _, [], h => by cases h; rfl
  | _, n :: ns, h => by
    cases h with
    | cons a b =>
      cases a
      rw [DvAll.strs b]
      rfl
end
/-- a list that the def changes, by its place among the def's cells; the law's source; data -/
inductive Sd where
  | d (x : D) | c (k : Nat) | r
inductive Cell where
  | lst (ds : List D)
  | dk (kvs : List (Key × D))
  | dt (kvs : List (List Key × D))
  /-- any object, as it is -/
  | ob (o : HO)
abbrev Cs := List (Option Cell)
abbrev Sl := List (Option Sd)
abbrev ErP := Addr → List (Str × V) → Prop
/-- what surrounds a def's run -/
structure Wo where
  K : PySem.W.Frag
  C : Addr
  fr : Addr → Prop
  rg : Option (Addr × Addr)
  H0 : Hp
  TT : List (Addr × Str)
def Wo.nr (W : Wo) (b : Addr) : Prop := ∀ p, W.rg = some p → b ≠ p.1
def live (cs : Cs) (k : Nat) : Prop := ∃ c, cs[k]? = some (some c)
def Av (W : Wo) (as : List Addr) (cs : Cs) (b : Addr) : Prop := W.fr b ∨ (∃ p, W.rg = some p ∧ b = p.1) ∨ ∃ k, as[k]? = some b ∧ live cs k
def DvK (K : PySem.W.Frag) (C : Addr) (av : Addr → Prop) (H : Hp) {κ : Type} : List (κ × V) → List (κ × D) → Prop
  | [], [] => True
  | (k, v) :: vs, (j, d) :: ds => k = j ∧ Dv K C av H v d ∧ DvK K C av H vs ds
  | _, _ => False
def NC (o : HO) : Prop := ∀ c q, o ≠ CodeO c q
def CellHO (K : PySem.W.Frag) (C : Addr) (av : Addr → Prop) (H : Hp) (o : HO) (c : Cell) : Prop := match c with
  | .ob u => o = u ∧ Na u ∧ NC u
  | .lst ds => match o with
    | .lst vs => vs.length ≤ 900000 ∧ DvAll K C av H vs ds
    | _ => False
  | .dk ds => match o with
    | .dK vs => DvK K C av H vs ds
    | _ => False
  | .dt ds => match o with
    | .dT vs => DvK K C av H vs ds
    | _ => False
def Rv (W : Wo) (as : List Addr) (av : Addr → Prop) (H : Hp) (v : V) : Sd → Prop
  | .d x => Dv W.K W.C av H v x
  | .c k => ∃ a, as[k]? = some a ∧ v = .ref a
  | .r => ∃ p, W.rg = some p ∧ v = .ref p.1
def StOk (P : V → Sd → Prop) : List V → List Sd → Prop
  | [], [] => True
  | v :: vs, s :: ss => P v s ∧ StOk P vs ss
  | _, _ => False
def SlOk (P : V → Sd → Prop) : List (Option V) → List (Option Sd) → Prop
  | [], [] => True
  | _ :: vs, none :: ss => SlOk P vs ss
  | v :: vs, some s :: ss => (∃ x, v = some x ∧ P x s) ∧ SlOk P vs ss
  | _, _ => False
structure RepA (W : Wo) (as : List Addr) (H : Hp) (σ : L2.St) (ws : List V) (cs : Cs) (sl : Sl) (st : List Sd) : Prop where
  len : as.length = cs.length
  nd : as.Nodup
  new : ∀ a ∈ as, ¬ W.fr a ∧ (∀ p, W.rg = some p → a ≠ p.1 ∧ a ≠ p.2) ∧ (W.TT = [] → W.H0 a = none) ∧ ∃ o, H a = some o ∧ Na o
  fra : ∀ a, W.fr a → ∃ o, H a = some o ∧ Na o
  kp : W.TT = [] → ∀ b o, W.H0 b = some o → W.nr b → H b = some o
  rng : ∀ p, W.rg = some p → ¬ W.fr p.1 ∧ Rng H p.1 p.2
  tab : Tabs W.TT H
  cells : ∀ (k : Nat) (a : Addr) (c : Cell), as[k]? = some a → cs[k]? = some (some c) → ∃ o, H a = some o ∧ CellHO W.K W.C (Av W as cs) H o c
  sl : SlOk (Rv W as (Av W as cs) H) σ sl
  st : StOk (Rv W as (Av W as cs) H) ws st
def Rep (W : Wo) (H : Hp) (σ : L2.St) (ws : List V) (cs : Cs) (sl : Sl) (st : List Sd) : Prop := ∃ as, RepA W as H σ ws cs sl st
section
variable {K : PySem.W.Frag} {C : Addr} {av av' : Addr → Prop} {H H' : Hp}
theorem DvK.step {κ : Type} (e : ∀ b o, H b = some o → ¬ av b → Nt o → H' b = some o) (m : ∀ b o, av' b → H b = some o → av b) : ∀ {vs : List (κ × V)} {ds : List (κ × D)}, DvK K C av H vs ds → DvK K C av' H' vs ds
  | [], [], _ => trivial
  | (_, _) :: _, (_, _) :: _, h => ⟨h.1, h.2.1.step e m, DvK.step e m h.2.2⟩
  | [], _ :: _, h => h.elim
  | _ :: _, [], h => h.elim
theorem CellHO.step {o : HO} {c : Cell} (e : ∀ b o, H b = some o → ¬ av b → Nt o → H' b = some o) (m : ∀ b o, av' b → H b = some o → av b) (h : CellHO K C av H o c) : CellHO K C av' H' o c := by
  cases c with
  | ob u => exact h
  | lst ds => cases o with
    | lst vs => exact ⟨h.1, h.2.step e m⟩
    | _ => exact h.elim
  | dk ds => cases o with
    | dK vs => exact DvK.step (κ := Key) e m h
    | _ => exact h.elim
  | dt ds => cases o with
    | dT vs => exact DvK.step (κ := List Key) e m h
    | _ => exact h.elim
theorem CellHO.nt {o : HO} {c : Cell} (h : CellHO K C av H o c) : Na o := by
  cases c with
  | ob u => exact h.1 ▸ h.2.1
  | lst ds => cases o with
    | lst vs => exact ⟨fun _ z => (by cases z), fun _ z => (by cases z), fun _ _ z => by cases z⟩
    | _ => exact h.elim
  | dk ds => cases o with
    | dK vs => exact ⟨fun _ z => (by cases z), fun _ z => (by cases z), fun _ _ z => by cases z⟩
    | _ => exact h.elim
  | dt ds => cases o with
    | dT vs => exact ⟨fun _ z => (by cases z), fun _ z => (by cases z), fun _ _ z => by cases z⟩
    | _ => exact h.elim
end
theorem StOk.imp {P Q : V → Sd → Prop} (h : ∀ v s, P v s → Q v s) : ∀ {vs : List V} {ss : List Sd}, StOk P vs ss → StOk Q vs ss
  | [], [], _ => trivial
  | _ :: _, _ :: _, q => ⟨h _ _ q.1, StOk.imp h q.2⟩
  | [], _ :: _, q => q.elim
  | _ :: _, [], q => q.elim
theorem SlOk.imp {P Q : V → Sd → Prop} (h : ∀ v s, P v s → Q v s) : ∀ {vs : List (Option V)} {ss : List (Option Sd)}, SlOk P vs ss → SlOk Q vs ss
  | [], [], _ => trivial
  | _ :: vs, none :: ss, q => SlOk.imp (vs := vs) (ss := ss) h q
  | _ :: _, some _ :: _, q => ⟨by obtain ⟨x, e, z⟩ := q.1; exact ⟨x, e, h _ _ z⟩, SlOk.imp h q.2⟩
  | [], _ :: _, q => by cases ‹Option Sd› <;> exact q.elim
  | _ :: _, [], q => q.elim
theorem StOk.app {P : V → Sd → Prop} : ∀ {vs ws : List V} {ss ts : List Sd}, StOk P vs ss → StOk P ws ts → StOk P (vs ++ ws) (ss ++ ts)
  | [], _, [], _, _, h => h
  | _ :: _, _, _ :: _, _, q, h => ⟨q.1, StOk.app q.2 h⟩
  | [], _, _ :: _, _, q, _ => q.elim
  | _ :: _, _, [], _, q, _ => q.elim
theorem StOk.len {P : V → Sd → Prop} : ∀ {vs : List V} {ss : List Sd}, StOk P vs ss → vs.length = ss.length
  | [], [], _ => rfl
  | _ :: _, _ :: _, q => congrArg Nat.succ (StOk.len q.2)
  | [], _ :: _, q => q.elim
  | _ :: _, [], q => q.elim
theorem StOk.split {P : V → Sd → Prop} : ∀ {vs ws : List V} {ss ts : List Sd}, vs.length = ss.length → StOk P (vs ++ ws) (ss ++ ts) → StOk P vs ss ∧ StOk P ws ts
  | [], _, [], _, _, h => ⟨trivial, h⟩
  | _ :: _, _, _ :: _, _, l, q => by
    have := StOk.split (Nat.succ.inj l) q.2
    exact ⟨⟨q.1, this.1⟩, this.2⟩
  | [], _, _ :: _, _, l, _ => by simp at l
  | _ :: _, _, [], _, l, _ => by simp at l
theorem SlOk.len {P : V → Sd → Prop} : ∀ {vs : List (Option V)} {ss : List (Option Sd)}, SlOk P vs ss → vs.length = ss.length
  | [], [], _ => rfl
  | _ :: vs, none :: ss, q => congrArg Nat.succ (SlOk.len (vs := vs) (ss := ss) q)
  | _ :: _, some _ :: _, q => congrArg Nat.succ (SlOk.len q.2)
  | [], _ :: _, q => by cases ‹Option Sd› <;> exact q.elim
  | _ :: _, [], q => q.elim
theorem SlOk.get {P : V → Sd → Prop} : ∀ {vs : List (Option V)} {ss : List (Option Sd)} {i : Nat} {s : Sd}, SlOk P vs ss → ss[i]? = some (some s) → ∃ v, vs[i]? = some (some v) ∧ P v s
  | [], [], _, _, _, e => by simp at e
  | _ :: _, none :: _, 0, _, _, e => by simp at e
  | _ :: vs, none :: ss, i + 1, _, q, e => by
    obtain ⟨v, h1, h2⟩ := SlOk.get (vs := vs) (ss := ss) (i := i) q (by simpa using e)
    exact ⟨v, by simpa using h1, h2⟩
  | _ :: _, some _ :: _, 0, _, q, e => by
    obtain ⟨x, rfl, z⟩ := q.1
    simp at e
    subst e
    exact ⟨x, rfl, z⟩
  | _ :: _, some _ :: _, i + 1, _, q, e => by
    obtain ⟨v, h1, h2⟩ := SlOk.get (i := i) q.2 (by simpa using e)
    exact ⟨v, by simpa using h1, h2⟩
  | [], _ :: _, _, _, q, _ => by cases ‹Option Sd› <;> exact q.elim
  | _ :: _, [], _, _, q, _ => q.elim
theorem SlOk.set {P : V → Sd → Prop} {v : V} {s : Sd} (h : P v s) : ∀ {vs : List (Option V)} {ss : List (Option Sd)} (i : Nat), SlOk P vs ss → SlOk P (vs.set i (some v)) (ss.set i (some s))
  | [], [], _, _ => trivial
  | _ :: _, none :: _, 0, q => ⟨⟨v, rfl, h⟩, q⟩
  | _ :: vs, none :: ss, i + 1, q => SlOk.set (vs := vs) (ss := ss) h i q
  | _ :: _, some _ :: _, 0, q => ⟨⟨v, rfl, h⟩, q.2⟩
  | _ :: _, some _ :: _, i + 1, q => ⟨q.1, SlOk.set h i q.2⟩
  | [], _ :: _, _, q => by cases ‹Option Sd› <;> exact q.elim
  | _ :: _, [], _, q => q.elim
theorem SlOk.wipe1 {P : V → Sd → Prop} : ∀ {vs : List (Option V)} {ss : List (Option Sd)} (i : Nat), SlOk P vs ss → SlOk P (vs.set i none) (ss.set i none)
  | [], [], _, _ => trivial
  | _ :: _, none :: _, 0, q => q
  | _ :: vs, none :: ss, i + 1, q => SlOk.wipe1 (vs := vs) (ss := ss) i q
  | _ :: _, some _ :: _, 0, q => q.2
  | _ :: _, some _ :: _, i + 1, q => ⟨q.1, SlOk.wipe1 i q.2⟩
  | [], _ :: _, _, q => by cases ‹Option Sd› <;> exact q.elim
  | _ :: _, [], _, q => q.elim
def wipeS (sl : Sl) : List Nat → Sl
  | [] => sl
  | v :: vs => (wipeS sl vs).set v none
theorem SlOk.wipe {P : V → Sd → Prop} {vs : List (Option V)} {ss : List (Option Sd)} (h : SlOk P vs ss) : ∀ is, SlOk P (wipe vs is) (wipeS ss is)
  | [] => h
  | _ :: is => (SlOk.wipe h is).wipe1 _
/-- the slots' own values, to be carried along -/
def slW : List (Option V) → List (Option Sd) → List V
  | some v :: vs, some _ :: ss => v :: slW vs ss
  | _ :: vs, _ :: ss => slW vs ss
  | _, _ => []
def slS : List (Option Sd) → List Sd
  | some s :: ss => s :: slS ss
  | none :: ss => slS ss
  | [] => []
theorem SlOk.out {P : V → Sd → Prop} : ∀ {vs : List (Option V)} {ss : List (Option Sd)}, SlOk P vs ss → StOk P (slW vs ss) (slS ss)
  | [], [], _ => trivial
  | none :: vs, none :: ss, q => SlOk.out (vs := vs) (ss := ss) q
  | some _ :: vs, none :: ss, q => SlOk.out (vs := vs) (ss := ss) q
  | none :: _, some _ :: _, q => by obtain ⟨x, e, _⟩ := q.1; cases e
  | some _ :: _, some _ :: _, q => by
    obtain ⟨x, e, z⟩ := q.1
    cases e
    exact ⟨z, SlOk.out q.2⟩
  | [], _ :: _, q => by cases ‹Option Sd› <;> exact q.elim
  | _ :: _, [], q => q.elim
theorem SlOk.back {P Q : V → Sd → Prop} : ∀ {vs : List (Option V)} {ss : List (Option Sd)}, SlOk P vs ss → StOk Q (slW vs ss) (slS ss) → SlOk Q vs ss
  | [], [], _, _ => trivial
  | none :: vs, none :: ss, q, h => SlOk.back (vs := vs) (ss := ss) q h
  | some _ :: vs, none :: ss, q, h => SlOk.back (vs := vs) (ss := ss) q h
  | none :: _, some _ :: _, q, _ => by obtain ⟨x, e, _⟩ := q.1; cases e
  | some _ :: _, some _ :: _, q, h => ⟨⟨_, rfl, h.1⟩, SlOk.back q.2 h.2⟩
  | [], _ :: _, q, _ => by cases ‹Option Sd› <;> exact q.elim
  | _ :: _, [], q, _ => q.elim
end R

/-! # TB: code tables -/
namespace R
open PySem PySem.Spec PyProof.Rows L2 LamX
/-! ### tables and what is kept -/
theorem TabS.kp {H H' : Hp} {P r : Addr} {q : Str} {zs : List V} (t : TabS H P q) (e : Kp r H H') (hr : H r = some (.lst zs)) : TabS H' P q := by
  obtain ⟨ps, h1, h2, h3⟩ := t
  refine ⟨ps, e _ _ h1 fun z => ?_, h2, fun pos cv hc => ?_⟩
  · subst z
    rw [hr] at h1
    cases h1
  · obtain ⟨c, e1, e2⟩ := h3 pos cv hc
    refine ⟨c, e1, e _ _ e2 fun z => ?_⟩
    subst z
    rw [hr] at e2
    unfold CodeO at e2
    cases e2
theorem Tabs.kp {T : List (Addr × Str)} {H H' : Hp} {r l : Addr} (t : Tabs T H) (e : Kp r H H') (R : Rng H r l) : Tabs T H' := fun p hp => by
  obtain ⟨ns, i, c, s, h1, _⟩ := R
  exact TabS.kp (t p hp) e h1
theorem Rng.en {H H' : Hp} {r l : Addr} (h : Rng H r l) (e : ExtN H H') : Rng H' r l := by
  obtain ⟨ns, i, c, s, h1, h2, h3⟩ := h
  exact ⟨ns, i, c, s, e _ _ h1 (fun _ z => by cases z), e _ _ h2 (fun _ z => by cases z), h3⟩
theorem Liv.en {H H' : Hp} {r l : Addr} (h : Rng H r l) (e : ExtN H H') : ∃ o, H' r = some o := by
  obtain ⟨ns, i, c, s, h1, _⟩ := h.en e
  exact ⟨_, h1⟩
theorem rd_en {H H' : Hp} {a : Addr} {u : HO} (e : ExtN H H') (h : Rd H a u) (n : ∀ ps, u ≠ .tbl ps) : Rd H' a u := by
  rcases h with h | ⟨o, h⟩
  · exact .inl (e a _ h n)
  · exact .inr ⟨o, e a _ h fun _ z => by cases z⟩
theorem Tabs.set {T : List (Addr × Str)} {H : Hp} {q : Addr} {zs : List V} {o : HO} (t : Tabs T H) (h : H q = some (.lst zs)) : Tabs T (upd H q o) := fun p hp => TabS.kp (t p hp) Kp.set h
end R

/-! # W1: states carried along -/
namespace R
open PySem PySem.Spec PyProof.Rows L2 L2H LamX
section
variable {W : Wo} {as : List Addr} {H H' : Hp} {σ : L2.St} {ws : List V} {cs : Cs} {sl : Sl} {st : List Sd}
theorem Rv.step {av av' : Addr → Prop} (e : ∀ b o, H b = some o → ¬ av b → Nt o → H' b = some o) (m : ∀ b o, av' b → H b = some o → av b) {v : V} {s : Sd} (h : Rv W as av H v s) : Rv W as av' H' v s := by
  cases s with
  | d x => exact Dv.step e m h
  | c k => exact h
  | r => exact h
/-- a step of the heap: all but the law's source (and tables) kept -/
def Stp (W : Wo) (H H' : Hp) : Prop := ∀ b o, H b = some o → W.nr b → (W.TT = [] ∨ Nt o) → H' b = some o
theorem Stp.ex (e : Ex H H') : Stp W H H' := fun b o h _ _ => e b o h
theorem av_nr {b : Addr} (h : ¬ Av W as cs b) : W.nr b := fun p hp e => h (.inr (.inl ⟨p, hp, e⟩))
theorem RepA.step (R : RepA W as H σ ws cs sl st) (e : Stp W H H') (g : ∀ p, W.rg = some p → Rng H' p.1 p.2) (t : Tabs W.TT H') : RepA W as H' σ ws cs sl st := by
  have k : ∀ b o, H b = some o → ¬ Av W as cs b → Nt o → H' b = some o := fun b o h n z => e b o h (av_nr n) (.inr z)
  have k2 : ∀ b o, Av W as cs b → H b = some o → Av W as cs b := fun _ _ h _ => h
  refine ⟨R.len, R.nd, fun a ha => ?_, fun a ha => ?_, fun ht b o h n => e b o (R.kp ht b o h n) n (.inl ht), fun p hp => ⟨(R.rng p hp).1, g p hp⟩, t, fun i a c h1 h2 => ?_, R.sl.imp fun v s h => Rv.step k k2 h, R.st.imp fun v s h => Rv.step k k2 h⟩
  · obtain ⟨h1, h2, h3, o, h4, h5⟩ := R.new a ha
    exact ⟨h1, h2, h3, o, e a o h4 (fun p hp => (h2 p hp).1) (.inr h5.1), h5⟩
  · obtain ⟨o, h4, h5⟩ := R.fra a ha
    exact ⟨o, e a o h4 (fun p hp z => (R.rng p hp).1 (z ▸ ha)) (.inr h5.1), h5⟩
  · obtain ⟨o, h3, h4⟩ := R.cells i a c h1 h2
    obtain ⟨_, n2, _⟩ := R.new a (List.mem_of_getElem? h1)
    exact ⟨o, e a o h3 (fun p hp => (n2 p hp).1) (.inr h4.nt.1), h4.step k k2⟩
theorem RepA.ex (R : RepA W as H σ ws cs sl st) (e : Ex H H') : RepA W as H' σ ws cs sl st := R.step (.ex e) (fun p hp => (R.rng p hp).2.ex e) (R.tab.ext e)
theorem Rep.ex (R : Rep W H σ ws cs sl st) (e : Ex H H') : Rep W H' σ ws cs sl st := R.imp fun _ R => R.ex e
theorem RepA.fresh (R : RepA W as H σ ws cs sl st) {p : Addr} (n : H p = none) : ¬ Av W as cs p ∧ p ∉ as ∧ (W.TT = [] → W.H0 p = none) ∧ ¬ W.fr p ∧ ∀ q, W.rg = some q → p ≠ q.1 ∧ p ≠ q.2 := by
  have f1 : ¬ W.fr p := fun h => by
    obtain ⟨o, h, _⟩ := R.fra p h
    rw [n] at h
    cases h
  have f2 : ∀ q, W.rg = some q → p ≠ q.1 ∧ p ≠ q.2 := fun q hq => ⟨(R.rng q hq).2.ne n, (R.rng q hq).2.nel n⟩
  have f3 : p ∉ as := fun h => by
    obtain ⟨_, _, _, o, h, _⟩ := R.new p h
    rw [n] at h
    cases h
  refine ⟨?_, f3, fun ht => ?_, f1, f2⟩
  · rintro (h | ⟨q, hq, h⟩ | ⟨k, h, _⟩)
    · exact f1 h
    · exact (f2 q hq).1 h
    · exact f3 (List.mem_of_getElem? h)
  · cases h : W.H0 p with
    | none => rfl
    | some o =>
      have := R.kp ht p o h fun q hq => (f2 q hq).1
      rw [n] at this
      cases this
/-- what is pending: permuted, dropped -/
theorem RepA.st' (R : RepA W as H σ ws cs sl st) {ws' : List V} {st' : List Sd} (h : StOk (Rv W as (Av W as cs) H) ws' st') : RepA W as H σ ws' cs sl st' := ⟨R.len, R.nd, R.new, R.fra, R.kp, R.rng, R.tab, R.cells, R.sl, h⟩
theorem RepA.sl' (R : RepA W as H σ ws cs sl st) {σ' : L2.St} {sl' : Sl} (h : SlOk (Rv W as (Av W as cs) H) σ' sl') : RepA W as H σ' ws cs sl' st := ⟨R.len, R.nd, R.new, R.fra, R.kp, R.rng, R.tab, R.cells, h, R.st⟩
theorem Rep.st' (R : Rep W H σ ws cs sl st) {ws' : List V} {st' : List Sd} (h : ∀ P, StOk P ws st → StOk P ws' st') : Rep W H σ ws' cs sl st' := R.imp fun _ R => R.st' (h _ R.st)
theorem Rep.drop1 {v : V} {s : Sd} (R : Rep W H σ (v :: ws) cs sl (s :: st)) : Rep W H σ ws cs sl st := R.st' fun _ h => h.2
theorem Rep.dropn {vs : List V} {ss : List Sd} (R : Rep W H σ (vs ++ ws) cs sl (ss ++ st)) (l : vs.length = ss.length) : Rep W H σ ws cs sl st := R.st' fun _ h => (StOk.split l h).2
/-- data pending, as data -/
def DvE (W : Wo) (H : Hp) (v : V) (d : D) : Prop := ∃ av, (∀ p, H p = none → ¬ av p) ∧ Dv W.K W.C av H v d
theorem Rep.top {v : V} {d : D} (R : Rep W H σ (v :: ws) cs sl (.d d :: st)) : DvE W H v d := by
  obtain ⟨as, R⟩ := R
  exact ⟨Av W as cs, fun p n => (R.fresh n).1, R.st.1⟩
theorem stok_all {P : V → Sd → Prop} {K : PySem.W.Frag} {C : Addr} {av : Addr → Prop} : ∀ {vs : List V} {ds : List D}, (∀ v d, P v (.d d) → Dv K C av H v d) → StOk P vs (ds.map .d) → DvAll K C av H vs ds
  | [], [], _, _ => .nil
  | v :: vs, d :: ds, h, q => .cons (h _ _ q.1) (stok_all h q.2)
  | [], _ :: _, _, q => q.elim
  | _ :: _, [], _, q => q.elim
theorem all_stok {av : Addr → Prop} : ∀ {vs : List V} {ds : List D}, DvAll W.K W.C av H vs ds → StOk (Rv W as av H) vs (ds.map .d)
  | _, _, .nil => trivial
  | _, _, .cons h t => ⟨h, all_stok t⟩
/-- one more cell -/
theorem av_grow {p b : Addr} {x : Option Cell} (len : as.length = cs.length) (h : Av W (as ++ [p]) (cs ++ [x]) b) : Av W as cs b ∨ b = p := by
  rcases h with h | h | ⟨k, h, c, hc⟩
  · exact .inl (.inl h)
  · exact .inl (.inr (.inl h))
  · by_cases hk : k < as.length
    · rw [List.getElem?_append_left hk] at h
      rw [List.getElem?_append_left (by omega)] at hc
      exact .inl (.inr (.inr ⟨k, h, c, hc⟩))
    · rw [List.getElem?_append_right (by omega)] at h
      refine .inr ?_
      cases q : k - as.length with
      | zero => rw [q] at h; simpa using h.symm
      | succ n => rw [q] at h; simp at h
theorem av_grow' {p b : Addr} {x : Option Cell} (len : as.length = cs.length) (h : Av W as cs b) : Av W (as ++ [p]) (cs ++ [x]) b := by
  rcases h with h | h | ⟨k, h, c, hc⟩
  · exact .inl h
  · exact .inr (.inl h)
  · have hk : k < as.length := (List.getElem?_eq_some_iff.mp h).1
    exact .inr (.inr ⟨k, by rw [List.getElem?_append_left hk]; exact h, c, by rw [List.getElem?_append_left (by omega)]; exact hc⟩)
theorem Rv.grow {av av' : Addr → Prop} {p : Addr} {v : V} {s : Sd} (e : ∀ b o, H b = some o → ¬ av b → Nt o → H' b = some o) (m : ∀ b o, av' b → H b = some o → av b) (h : Rv W as av H v s) : Rv W (as ++ [p]) av' H' v s := by
  cases s with
  | d x => exact Dv.step e m h
  | c k =>
    obtain ⟨a, h1, h2⟩ := h
    exact ⟨a, by rw [List.getElem?_append_left (List.getElem?_eq_some_iff.mp h1).1]; exact h1, h2⟩
  | r => exact h
theorem RepA.grow (R : RepA W as H σ ws cs sl st) {p : Addr} (n : H p = none) {o : HO} {c : Cell} (h : CellHO W.K W.C (Av W as cs) H o c) : RepA W (as ++ [p]) (upd H p o) σ ws (cs ++ [some c]) sl st := by
  obtain ⟨f0, f1, f2, f3, f4⟩ := R.fresh n
  have k : ∀ b u, H b = some u → ¬ Av W as cs b → Nt u → upd H p o b = some u := fun b u hb _ _ => Ex.new n b u hb
  have k2 : ∀ b u, Av W (as ++ [p]) (cs ++ [some c]) b → H b = some u → Av W as cs b := fun b u hb hu => (av_grow R.len hb).elim id fun e => by
    rw [e, n] at hu
    cases hu
  refine ⟨by simp [R.len], List.nodup_append.mpr ⟨R.nd, by simp, fun a ha b hb => by rw [List.mem_singleton.mp hb]; exact fun e => f1 (e ▸ ha)⟩, fun a ha => ?_, fun a ha => ?_, fun ht b u h1 h2 => Ex.new n b u (R.kp ht b u h1 h2), fun q hq => ⟨(R.rng q hq).1, (R.rng q hq).2.ex (Ex.new n)⟩, R.tab.ext (Ex.new n), fun i a x h1 h2 => ?_, R.sl.imp fun v s h => h.grow k k2, R.st.imp fun v s h => h.grow k k2⟩
  · rcases List.mem_append.mp ha with ha | ha
    · obtain ⟨h1, h2, h3, u, h4, h5⟩ := R.new a ha
      exact ⟨h1, h2, h3, u, Ex.new n a u h4, h5⟩
    · rw [List.mem_singleton.mp ha]
      exact ⟨f3, f4, f2, o, upd_same, h.nt⟩
  · obtain ⟨u, h4, h5⟩ := R.fra a ha
    exact ⟨u, Ex.new n a u h4, h5⟩
  · by_cases hi : i < as.length
    · rw [List.getElem?_append_left hi] at h1
      rw [List.getElem?_append_left (by rw [← R.len]; exact hi)] at h2
      obtain ⟨u, h3, h4⟩ := R.cells i a x h1 h2
      exact ⟨u, Ex.new n a u h3, h4.step k k2⟩
    · rw [List.getElem?_append_right (by omega)] at h1
      rw [List.getElem?_append_right (by rw [← R.len]; omega)] at h2
      cases q : i - as.length with
      | succ j => rw [q] at h1; simp at h1
      | zero =>
        rw [q] at h1
        rw [← R.len, q] at h2
        have e1 : p = a := by simpa using h1
        have e2 : c = x := by simpa using h2
        subst e1 e2
        exact ⟨o, upd_same, h.step k k2⟩
/-- a cell changed -/
theorem live_set {k j : Nat} {c x : Cell} (h : cs[k]? = some (some x)) : live (cs.set k (some c)) j ↔ live cs j := by
  by_cases e : k = j
  · subst e
    have hk : k < cs.length := (List.getElem?_eq_some_iff.mp h).1
    exact ⟨fun _ => ⟨_, h⟩, fun _ => ⟨c, by rw [List.getElem?_set_self hk]⟩⟩
  · constructor
    · rintro ⟨y, hy⟩
      rw [List.getElem?_set_ne e] at hy
      exact ⟨y, hy⟩
    · rintro ⟨y, hy⟩
      exact ⟨y, by rw [List.getElem?_set_ne e]; exact hy⟩
theorem av_set {k : Nat} {c x : Cell} (h : cs[k]? = some (some x)) {b : Addr} : Av W as (cs.set k (some c)) b ↔ Av W as cs b := by
  constructor
  · rintro (h1 | h1 | ⟨j, h1, h2⟩)
    · exact .inl h1
    · exact .inr (.inl h1)
    · exact .inr (.inr ⟨j, h1, (live_set h).mp h2⟩)
  · rintro (h1 | h1 | ⟨j, h1, h2⟩)
    · exact .inl h1
    · exact .inr (.inl h1)
    · exact .inr (.inr ⟨j, h1, (live_set h).mpr h2⟩)
theorem tab_set {TT : List (Addr × Str)} {a : Addr} {o u : HO} {K : PySem.W.Frag} {C : Addr} {av : Addr → Prop} {c : Cell} (t : Tabs TT H) (h : H a = some u) (hu : CellHO K C av H u c) : Tabs TT (upd H a o) := fun p hp => by
  obtain ⟨ps, h1, h2, h3⟩ := t p hp
  refine ⟨ps, (upd_ne fun z => ?_).trans h1, h2, fun pos cv hc => ?_⟩
  · rw [z, h] at h1
    cases h1
    exact hu.nt.1 ps rfl
  · obtain ⟨q, e1, e2⟩ := h3 pos cv hc
    refine ⟨q, e1, (upd_ne fun z => ?_).trans e2⟩
    rw [z, h] at e2
    have e3 := Option.some.inj e2
    rw [e3] at hu
    cases c with
    | ob o => exact hu.2.2 _ _ hu.1.symm
    | lst ds => exact hu
    | dk ds => exact hu
    | dt ds => exact hu
theorem RepA.setc (R : RepA W as H σ ws cs sl st) {k : Nat} {a : Addr} {x c : Cell} {o : HO} (ha : as[k]? = some a) (hx : cs[k]? = some (some x)) (h : CellHO W.K W.C (Av W as cs) H o c) : RepA W as (upd H a o) σ ws (cs.set k (some c)) sl st := by
  have hav : Av W as cs a := .inr (.inr ⟨k, ha, x, hx⟩)
  obtain ⟨u0, hu0, hu1⟩ := R.cells k a x ha hx
  obtain ⟨g1, g2, g3, g4⟩ := R.new a (List.mem_of_getElem? ha)
  have kk : ∀ b u, H b = some u → ¬ Av W as cs b → Nt u → upd H a o b = some u := fun b u hb n _ => (upd_ne fun e => n (by rw [e]; exact hav)).trans hb
  have k2 : ∀ b u, Av W as (cs.set k (some c)) b → H b = some u → Av W as cs b := fun b u hb _ => (av_set hx).mp hb
  have hk : k < cs.length := (List.getElem?_eq_some_iff.mp hx).1
  refine ⟨by rw [List.length_set]; exact R.len, R.nd, fun b hb => ?_, fun b hb => ?_, fun ht b u h1 h2 => ?_, fun q hq => ⟨(R.rng q hq).1, (R.rng q hq).2.upd (g2 q hq).1 (g2 q hq).2⟩, tab_set R.tab hu0 hu1, fun i b y h1 h2 => ?_, R.sl.imp fun v s h => Rv.step kk k2 h, R.st.imp fun v s h => Rv.step kk k2 h⟩
  · obtain ⟨h1, h2, h3, u, h4, h5⟩ := R.new b hb
    by_cases e : b = a
    · subst e
      exact ⟨h1, h2, h3, o, upd_same, h.nt⟩
    · exact ⟨h1, h2, h3, u, (upd_ne e).trans h4, h5⟩
  · obtain ⟨u, h4, h5⟩ := R.fra b hb
    exact ⟨u, (upd_ne fun e => by rw [e] at hb; exact g1 hb).trans h4, h5⟩
  · refine (upd_ne fun e => ?_).trans (R.kp ht b u h1 h2)
    rw [e, g3 ht] at h1
    cases h1
  · by_cases e : k = i
    · subst e
      rw [ha] at h1
      cases h1
      rw [List.getElem?_set_self hk] at h2
      cases h2
      exact ⟨o, upd_same, h.step kk k2⟩
    · rw [List.getElem?_set_ne e] at h2
      obtain ⟨u, h3, h4⟩ := R.cells i b y h1 h2
      have nb : b ≠ a := fun z => e ((List.getElem?_inj (List.getElem?_eq_some_iff.mp ha).1 R.nd).mp (ha.trans (by rw [h1, z])))
      exact ⟨u, (upd_ne nb).trans h3, h4.step kk k2⟩
/-- a cell that becomes data: its place is forgotten -/
def Sd.frz (k : Nat) (x : D) : Sd → Sd
  | .c j => if j = k then .d x else .c j
  | s => s
theorem av_none {k : Nat} {b : Addr} (h : Av W as (cs.set k none) b) : Av W as cs b := by
  rcases h with h1 | h1 | ⟨j, h1, y, hy⟩
  · exact .inl h1
  · exact .inr (.inl h1)
  · refine .inr (.inr ⟨j, h1, ?_⟩)
    by_cases e : k = j
    · subst e
      by_cases hk : k < cs.length
      · rw [List.getElem?_set_self hk] at hy
        cases hy
      · rw [List.getElem?_eq_none (by rw [List.length_set]; omega)] at hy
        cases hy
    · rw [List.getElem?_set_ne e] at hy
      exact ⟨y, hy⟩
theorem RepA.frzData (R : RepA W as H σ ws cs sl st) {k : Nat} {a : Addr} {ds : List D} (ha : as[k]? = some a) (hx : cs[k]? = some (some (.lst ds))) : Dv W.K W.C (Av W as (cs.set k none)) H (.ref a) (.lst ds) := by
  obtain ⟨o, h1, h2⟩ := R.cells k a _ ha hx
  cases o with
  | lst vs =>
    refine .lst h1 ?_ h2.1 (h2.2.step (fun b o q _ _ => q) fun b o q _ => av_none q)
    obtain ⟨n1, n2, _⟩ := R.new a (List.mem_of_getElem? ha)
    rintro (h | ⟨q, hq, h⟩ | ⟨j, h, y, hy⟩)
    · exact n1 h
    · exact (n2 q hq).1 h
    · have e : k = j := (List.getElem?_inj (List.getElem?_eq_some_iff.mp ha).1 R.nd).mp (ha.trans h.symm)
      subst e
      rw [List.getElem?_set_self (List.getElem?_eq_some_iff.mp hx).1] at hy
      cases hy
  | _ => exact h2.elim
theorem RepA.freeze (R : RepA W as H σ ws cs sl st) {k : Nat} {ds : List D} (hx : cs[k]? = some (some (.lst ds))) : RepA W as H σ ws (cs.set k none) (sl.map (Option.map (Sd.frz k (.lst ds)))) (st.map (Sd.frz k (.lst ds))) := by
  have hk : k < cs.length := (List.getElem?_eq_some_iff.mp hx).1
  obtain ⟨a, ha⟩ : ∃ a, as[k]? = some a := ⟨_, List.getElem?_eq_getElem (by rw [R.len]; exact hk)⟩
  have kk : ∀ b u, H b = some u → ¬ Av W as cs b → Nt u → H b = some u := fun b u hb _ _ => hb
  have k2 : ∀ b u, Av W as (cs.set k none) b → H b = some u → Av W as cs b := fun b u hb _ => av_none hb
  have conv : ∀ v s, Rv W as (Av W as cs) H v s → Rv W as (Av W as (cs.set k none)) H v (Sd.frz k (.lst ds) s) := fun v s h => by
    cases s with
    | d x => exact Dv.step kk k2 h
    | r => exact h
    | c j =>
      show Rv W as _ H v (if j = k then _ else _)
      by_cases e : j = k
      · rw [if_pos e]
        subst e
        obtain ⟨b, h1, rfl⟩ := h
        rw [ha] at h1
        cases h1
        exact R.frzData ha hx
      · rw [if_neg e]
        exact h
  have cst : ∀ {vs : List V} {ss : List Sd}, StOk (Rv W as (Av W as cs) H) vs ss → StOk (Rv W as (Av W as (cs.set k none)) H) vs (ss.map (Sd.frz k (.lst ds))) := fun {vs ss} => by
    induction vs generalizing ss with
    | nil => cases ss with
      | nil => exact fun _ => trivial
      | cons _ _ => exact fun q => q.elim
    | cons v vs ih => cases ss with
      | nil => exact fun q => q.elim
      | cons s ss => exact fun q => ⟨conv _ _ q.1, ih q.2⟩
  have csl : ∀ {vs : List (Option V)} {ss : List (Option Sd)}, SlOk (Rv W as (Av W as cs) H) vs ss → SlOk (Rv W as (Av W as (cs.set k none)) H) vs (ss.map (Option.map (Sd.frz k (.lst ds)))) := fun {vs ss} => by
    induction vs generalizing ss with
    | nil => cases ss with
      | nil => exact fun _ => trivial
      | cons s _ => cases s <;> exact fun q => q.elim
    | cons v vs ih => cases ss with
      | nil => exact fun q => q.elim
      | cons s ss => cases s with
        | none => exact fun q => ih (ss := ss) q
        | some s =>
          rintro ⟨⟨x, e, z⟩, q⟩
          exact ⟨⟨x, e, conv _ _ z⟩, ih q⟩
  refine ⟨by rw [List.length_set]; exact R.len, R.nd, R.new, R.fra, R.kp, R.rng, R.tab, fun i b y h1 h2 => ?_, csl R.sl, cst R.st⟩
  by_cases e : k = i
  · subst e
    rw [List.getElem?_set_self hk] at h2
    cases h2
  · rw [List.getElem?_set_ne e] at h2
    obtain ⟨u, h3, h4⟩ := R.cells i b y h1 h2
    exact ⟨u, h3, h4.step kk k2⟩
/-- the last cell forgotten, where no slot holds it -/
def Below (n : Nat) : Sd → Prop
  | .c k => k < n
  | _ => True
theorem Rv.below {av : Addr → Prop} {v : V} {s : Sd} (h : Rv W as av H v s) : Below as.length s := by
  cases s with
  | c k =>
    obtain ⟨a, h, _⟩ := h
    exact (List.getElem?_eq_some_iff.mp h).1
  | _ => trivial
theorem RepA.dropLast {p : Addr} {x : Option Cell} (R : RepA W (as ++ [p]) H σ ws (cs ++ [x]) sl st) (len : as.length = cs.length) (b1 : SlOk (fun _ => Below cs.length) σ sl) (b2 : StOk (fun _ => Below cs.length) ws st) : RepA W as H σ ws cs sl st := by
  have kk : ∀ b u, H b = some u → ¬ Av W (as ++ [p]) (cs ++ [x]) b → Nt u → H b = some u := fun b u hb _ _ => hb
  have k2 : ∀ b u, Av W as cs b → H b = some u → Av W (as ++ [p]) (cs ++ [x]) b := fun b u hb _ => av_grow' len hb
  have conv : ∀ v s, Below cs.length s → Rv W (as ++ [p]) (Av W (as ++ [p]) (cs ++ [x])) H v s → Rv W as (Av W as cs) H v s := fun v s hb h => by
    cases s with
    | d y => exact Dv.step kk k2 h
    | r => exact h
    | c j =>
      obtain ⟨a, h1, h2⟩ := h
      have hb : j < cs.length := hb
      rw [List.getElem?_append_left (by omega)] at h1
      exact ⟨a, h1, h2⟩
  have cst : ∀ {vs : List V} {ss : List Sd}, StOk (fun _ => Below cs.length) vs ss → StOk (Rv W (as ++ [p]) (Av W (as ++ [p]) (cs ++ [x])) H) vs ss → StOk (Rv W as (Av W as cs) H) vs ss := fun {vs ss} => by
    induction vs generalizing ss with
    | nil => cases ss with
      | nil => exact fun _ _ => trivial
      | cons _ _ => exact fun q => q.elim
    | cons v vs ih => cases ss with
      | nil => exact fun q => q.elim
      | cons s ss => exact fun q h => ⟨conv _ _ q.1 h.1, ih q.2 h.2⟩
  have csl : ∀ {vs : List (Option V)} {ss : List (Option Sd)}, SlOk (fun _ => Below cs.length) vs ss → SlOk (Rv W (as ++ [p]) (Av W (as ++ [p]) (cs ++ [x])) H) vs ss → SlOk (Rv W as (Av W as cs) H) vs ss := fun {vs ss} => by
    induction vs generalizing ss with
    | nil => cases ss with
      | nil => exact fun _ _ => trivial
      | cons s _ => cases s <;> exact fun q => q.elim
    | cons v vs ih => cases ss with
      | nil => exact fun q => q.elim
      | cons s ss => cases s with
        | none => exact fun q h => ih (ss := ss) q h
        | some s =>
          rintro ⟨⟨y, e, z⟩, q⟩ ⟨⟨y', e', z'⟩, q'⟩
          exact ⟨⟨y', e', conv _ _ z z'⟩, ih q q'⟩
  refine ⟨len, (List.nodup_append.mp R.nd).1, fun a ha => R.new a (List.mem_append_left _ ha), R.fra, R.kp, R.rng, R.tab, fun i b y h1 h2 => ?_, csl b1 R.sl, cst b2 R.st⟩
  have hi : i < as.length := (List.getElem?_eq_some_iff.mp h1).1
  obtain ⟨u, h3, h4⟩ := R.cells i b y (by rw [List.getElem?_append_left hi]; exact h1) (by rw [List.getElem?_append_left (by omega)]; exact h2)
  exact ⟨u, h3, h4.step kk k2⟩
theorem RepA.belowSl (R : RepA W as H σ ws cs sl st) : SlOk (fun _ => Below cs.length) σ sl := R.sl.imp fun v s h => by rw [← R.len]; exact h.below
theorem RepA.belowSt (R : RepA W as H σ ws cs sl st) : StOk (fun _ => Below cs.length) ws st := R.st.imp fun v s h => by rw [← R.len]; exact h.below
end
end R

/-! # W2: judgements over data, first rules -/
namespace R
open PySem PySem.Spec PyProof.Rows L2 L2H LamX
/-- what is wanted behind a statement -/
structure DE where
  nx : Cs → Sl → Prop
  rt : Sd → Cs → Prop
  bk : Cs → Sl → Prop := fun _ _ => False
  ct : Cs → Sl → Prop := fun _ _ => False
structure Lk (W : Wo) (ws : List V) (st : List Sd) (D : DE) (De : Ends) : Prop where
  nx : ∀ cs sl σ H, D.nx cs sl → Rep W H σ ws cs sl st → De.nx σ H
  rt : ∀ sd cs v H σ ws' sl st', D.rt sd cs → Rep W H σ (v :: ws') cs sl (sd :: st') → De.rt v H
  bk : ∀ cs sl σ H, D.bk cs sl → Rep W H σ ws cs sl st → De.bk σ H
  ct : ∀ cs sl σ H, D.ct cs sl → Rep W H σ ws cs sl st → De.ct σ H
section
variable (W : Wo)
def wE (te : TE) (cs : Cs) (sl : Sl) (st : List Sd) (Q : Sd → Cs → Prop) : Prop := ∀ (H : Hp) (σ : L2.St) (ws : List V), Rep W H σ ws cs sl st → ∀ Q' : VK, (∀ sd cs' v H', Q sd cs' → Rep W H' σ (v :: ws) cs' sl (sd :: st) → Q' v H') → te σ H Q'
def wA (t : TA) (cs : Cs) (sl : Sl) (st : List Sd) (Q : List Sd → Cs → Prop) : Prop := ∀ (H : Hp) (σ : L2.St) (ws : List V), Rep W H σ ws cs sl st → ∀ Q' : List V → Hp → Prop, (∀ sds cs' vs H', Q sds cs' → vs.length = sds.length → Rep W H' σ (vs ++ ws) cs' sl (sds ++ st) → Q' vs H') → t σ H Q'
def wT (t : TT) (cs : Cs) (sl : Sl) (st : List Sd) (Q : Bool → Cs → Prop) : Prop := ∀ (H : Hp) (σ : L2.St) (ws : List V), Rep W H σ ws cs sl st → ∀ Q' : Bool → Hp → Prop, (∀ b cs' H', Q b cs' → Rep W H' σ ws cs' sl st → Q' b H') → t σ H Q'
def wS (t : TS) (cs : Cs) (sl : Sl) (st : List Sd) (D : DE) : Prop := ∀ (H : Hp) (σ : L2.St) (ws : List V), Rep W H σ ws cs sl st → ∀ De : Ends, Lk W ws st D De → t De σ H
def wG (g : TG) (x : Sd) (cs : Cs) (sl : Sl) (st : List Sd) (Q : Cs → Sl → Prop) : Prop := ∀ (H : Hp) (σ : L2.St) (v : V) (ws : List V), Rep W H σ (v :: ws) cs sl (x :: st) → ∀ Q' : L2.St → Hp → Prop, (∀ cs' sl' σ' H', Q cs' sl' → Rep W H' σ' ws cs' sl' st → Q' σ' H') → g v σ H Q'
def wGs (g : TGs) (xs : List Sd) (cs : Cs) (sl : Sl) (st : List Sd) (Q : Cs → Sl → Prop) : Prop := ∀ (H : Hp) (σ : L2.St) (vs : List V) (ws : List V), vs.length = xs.length → Rep W H σ (vs ++ ws) cs sl (xs ++ st) → ∀ Q' : L2.St → Hp → Prop, (∀ cs' sl' σ' H', Q cs' sl' → Rep W H' σ' ws cs' sl' st → Q' σ' H') → g vs σ H Q'
def wO (r : R2) (x y : Sd) (cs : Cs) (sl : Sl) (st : List Sd) (Q : Sd → Cs → Prop) : Prop := ∀ (H : Hp) (σ : L2.St) (vx vy : V) (ws : List V), Rep W H σ (vy :: vx :: ws) cs sl (y :: x :: st) → ∀ Q' : VK, (∀ sd cs' v H', Q sd cs' → Rep W H' σ (v :: ws) cs' sl (sd :: st) → Q' v H') → r vx vy H Q'
def wU (r : V → Hp → VK → Prop) (x : Sd) (cs : Cs) (sl : Sl) (st : List Sd) (Q : Sd → Cs → Prop) : Prop := ∀ (H : Hp) (σ : L2.St) (vx : V) (ws : List V), Rep W H σ (vx :: ws) cs sl (x :: st) → ∀ Q' : VK, (∀ sd cs' v H', Q sd cs' → Rep W H' σ (v :: ws) cs' sl (sd :: st) → Q' v H') → r vx H Q'
def wC (r : List V → Hp → VK → Prop) (xs : List Sd) (cs : Cs) (sl : Sl) (st : List Sd) (Q : Sd → Cs → Prop) : Prop := ∀ (H : Hp) (σ : L2.St) (vs : List V) (ws : List V), vs.length = xs.length → Rep W H σ (vs ++ ws) cs sl (xs ++ st) → ∀ Q' : VK, (∀ sd cs' v H', Q sd cs' → Rep W H' σ (v :: ws) cs' sl (sd :: st) → Q' v H') → r vs H Q'
/-- a new list -/
def wN (te : TE) (cs : Cs) (sl : Sl) (st : List Sd) (Q : List D → Cs → Prop) : Prop := ∀ (H : Hp) (σ : L2.St) (ws : List V), Rep W H σ ws cs sl st → ∀ Q' : VK, (∀ ds cs' v H', Q ds cs' → Rep W H' σ (v :: ws) (cs' ++ [some (.lst ds)]) sl (.c cs'.length :: st) → Rep W H' σ (v :: ws) cs' sl (.d (.lst ds) :: st) → Q' v H') → te σ H Q'
def wON (r : R2) (x y : Sd) (cs : Cs) (sl : Sl) (st : List Sd) (Q : List D → Cs → Prop) : Prop := ∀ (H : Hp) (σ : L2.St) (vx vy : V) (ws : List V), Rep W H σ (vy :: vx :: ws) cs sl (y :: x :: st) → ∀ Q' : VK, (∀ ds cs' v H', Q ds cs' → Rep W H' σ (v :: ws) (cs' ++ [some (.lst ds)]) sl (.c cs'.length :: st) → Rep W H' σ (v :: ws) cs' sl (.d (.lst ds) :: st) → Q' v H') → r vx vy H Q'
def wCN (r : List V → Hp → VK → Prop) (xs : List Sd) (cs : Cs) (sl : Sl) (st : List Sd) (Q : List D → Cs → Prop) : Prop := ∀ (H : Hp) (σ : L2.St) (vs : List V) (ws : List V), vs.length = xs.length → Rep W H σ (vs ++ ws) cs sl (xs ++ st) → ∀ Q' : VK, (∀ ds cs' v H', Q ds cs' → Rep W H' σ (v :: ws) (cs' ++ [some (.lst ds)]) sl (.c cs'.length :: st) → Rep W H' σ (v :: ws) cs' sl (.d (.lst ds) :: st) → Q' v H') → r vs H Q'
end
/-- marks a new list that is changed later -/
def tOwn (t : TE) : TE := t
theorem pown {X : Cx} {e : Expr} {t : TE} (h : PE X e t) : PE X e (tOwn t) := h
section
variable {W : Wo} {cs : Cs} {sl : Sl} {st : List Sd} {Q : Sd → Cs → Prop} {F : DE} {H : Hp} {σ : L2.St} {ws : List V}
/-! scalars -/
def ScD (v : V) (d : D) : Prop := ∀ K C av H, Dv K C av H v d
theorem scd_non : ScD .non .non := fun _ _ _ _ => .non
theorem scd_bl (b : Bool) : ScD (.bl b) (.bl b) := fun _ _ _ _ => .bl b
theorem scd_int (b : Int) : ScD (.int b) (.int b) := fun _ _ _ _ => .int b
theorem scd_str (b : Str) : ScD (.str b) (.str b) := fun _ _ _ _ => .str b
theorem Rep.push {v : V} {d : D} (R : Rep W H σ ws cs sl st) (h : ScD v d) : Rep W H σ (v :: ws) cs sl (.d d :: st) := R.imp fun _ R => R.st' ⟨h _ _ _ _, R.st⟩
theorem Rep.int {v : V} {i : Int} (R : Rep W H σ (v :: ws) cs sl (.d (.int i) :: st)) : v = .int i := by
  obtain ⟨as, R⟩ := R
  have := R.st.1
  cases this
  rfl
theorem Rep.bl {v : V} {i : Bool} (R : Rep W H σ (v :: ws) cs sl (.d (.bl i) :: st)) : v = .bl i := by
  obtain ⟨as, R⟩ := R
  have := R.st.1
  cases this
  rfl
theorem Rep.str {v : V} {i : Str} (R : Rep W H σ (v :: ws) cs sl (.d (.str i) :: st)) : v = .str i := by
  obtain ⟨as, R⟩ := R
  have := R.st.1
  cases this
  rfl
theorem Rep.non {v : V} (R : Rep W H σ (v :: ws) cs sl (.d .non :: st)) : v = .non := by
  obtain ⟨as, R⟩ := R
  have := R.st.1
  cases this
  rfl
/-- a sequence pending: its items -/
theorem RepA.seqL {as : List Addr} {v : V} {ds : List D} (R : RepA W as H σ (v :: ws) cs sl (.d (.lst ds) :: st)) : ∃ a xs, v = .ref a ∧ SqL W.K H a xs ∧ xs.length = ds.length ∧ ds.length ≤ 900000 ∧ DvAll W.K W.C (Av W as cs) H xs ds := by
  have h := R.st.1
  cases h with
  | lst h1 h2 h3 h4 => exact ⟨_, _, rfl, .inl (.inl h1), h4.len, by rw [← h4.len]; exact h3, h4⟩
theorem RepA.seqT {as : List Addr} {v : V} {ds : List D} (R : RepA W as H σ (v :: ws) cs sl (.d (.tup ds) :: st)) : ∃ a xs, v = .ref a ∧ SqT W.K H a xs ∧ xs.length = ds.length ∧ ds.length ≤ 900000 ∧ DvAll W.K W.C (Av W as cs) H xs ds := by
  have h := R.st.1
  cases h with
  | tup h1 h2 h3 h4 => exact ⟨_, _, rfl, .inl (.inl h1), h4.len, by rw [← h4.len]; exact h3, h4⟩
  | ktup h1 h3 h4 => exact ⟨_, _, rfl, h1 _, h4.len, by rw [← h4.len]; exact h3, h4⟩
theorem RepA.seqN {as : List Addr} {v : V} {ts : List Nat} (R : RepA W as H σ (v :: ws) cs sl (.d (.ktp ts) :: st)) : ∃ a o, v = .ref a ∧ H a = some (.frz o (.tup (ts.map vN))) ∧ o.dict = none ∧ ts.length ≤ 900000 := by
  have h := R.st.1
  cases h with
  | ktp h1 h2 h3 h4 => exact ⟨_, _, rfl, h1, h2, h4⟩
theorem RepA.seqH {as : List Addr} {v : V} {ts : List Nat} (R : RepA W as H σ (v :: ws) cs sl (.d (.htp ts) :: st)) : ∃ a, v = .ref a ∧ H a = some (.tup (ts.map vN)) ∧ ts.length ≤ 900000 := by
  have h := R.st.1
  cases h with
  | htp h1 h2 h3 => exact ⟨_, rfl, h1, h3⟩
theorem RepA.seqK {as : List Addr} {v : V} {ts : List Nat} (R : RepA W as H σ (v :: ws) cs sl (.d (.ktp ts) :: st)) : ∃ a, v = .ref a ∧ SqT W.K H a (ts.map vN) ∧ (ts.map vN).length = (ts.map dn).length ∧ (ts.map dn).length ≤ 900000 ∧ DvAll W.K W.C (Av W as cs) H (ts.map vN) (ts.map dn) := by
  obtain ⟨a, o, rfl, h1, h2, h3⟩ := R.seqN
  exact ⟨a, rfl, .inl (.inr ⟨o, h1⟩), by rw [List.length_map, List.length_map], by rw [List.length_map]; exact h3, DvAll.ofNats ts⟩
theorem RepA.seqC {as : List Addr} {v : V} {k : Nat} {ds : List D} (R : RepA W as H σ (v :: ws) cs sl (.c k :: st)) (hk : cs[k]? = some (some (.lst ds))) : ∃ a xs, v = .ref a ∧ as[k]? = some a ∧ H a = some (.lst xs) ∧ xs.length = ds.length ∧ ds.length ≤ 900000 ∧ DvAll W.K W.C (Av W as cs) H xs ds := by
  obtain ⟨a, h1, rfl⟩ := R.st.1
  obtain ⟨o, h2, h3⟩ := R.cells k a _ h1 hk
  cases o with
  | lst xs => exact ⟨a, xs, rfl, h1, h2, h3.2.len, by rw [← h3.2.len]; exact h3.1, h3.2⟩
  | _ => exact h3.elim
theorem Rep.below (R : Rep W H σ ws cs sl st) : SlOk (fun _ => Below cs.length) σ sl ∧ StOk (fun _ => Below cs.length) ws st := by
  obtain ⟨as, R⟩ := R
  exact ⟨R.belowSl, R.belowSt⟩
/-- a new list, both ways -/
theorem new_list {vs : List V} {ds : List D} {p : Addr} (R : Rep W H σ (vs ++ ws) cs sl (ds.map .d ++ st)) (l : vs.length = ds.length) (hl : ds.length ≤ 900000) (n : H p = none) :
    Rep W (upd H p (.lst vs)) σ (.ref p :: ws) (cs ++ [some (.lst ds)]) sl (.c cs.length :: st) ∧ Rep W (upd H p (.lst vs)) σ (.ref p :: ws) cs sl (.d (.lst ds) :: st) := by
  obtain ⟨as, R⟩ := R
  have hs := StOk.split (by rw [List.length_map]; exact l) R.st
  have hd : DvAll W.K W.C (Av W as cs) H vs ds := stok_all (fun _ _ h => h) hs.1
  have R0 := R.st' hs.2
  refine ⟨⟨_, (R0.grow n (o := .lst vs) (c := .lst ds) ⟨by omega, hd⟩).st' ⟨⟨p, by rw [← R.len]; simp, rfl⟩, (R0.grow n (o := .lst vs) (c := .lst ds) ⟨by omega, hd⟩).st⟩⟩, ⟨as, (R0.ex (Ex.new n)).st' ⟨?_, (R0.ex (Ex.new n)).st⟩⟩⟩
  exact .lst upd_same (R.fresh n).1 (by omega) (hd.ex (Ex.new n))
theorem new_tup {vs : List V} {ds : List D} {p : Addr} (R : Rep W H σ (vs ++ ws) cs sl (ds.map .d ++ st)) (l : vs.length = ds.length) (hl : ds.length ≤ 900000) (n : H p = none) : Rep W (upd H p (.tup vs)) σ (.ref p :: ws) cs sl (.d (.tup ds) :: st) := by
  obtain ⟨as, R⟩ := R
  have hs := StOk.split (by rw [List.length_map]; exact l) R.st
  have hd : DvAll W.K W.C (Av W as cs) H vs ds := stok_all (fun _ _ h => h) hs.1
  have R0 := R.st' hs.2
  exact ⟨as, (R0.ex (Ex.new n)).st' ⟨.tup upd_same (R.fresh n).1 (by omega) (hd.ex (Ex.new n)), (R0.ex (Ex.new n)).st⟩⟩
theorem RepA.all {as : List Addr} {vs : List V} {ds : List D} (R : RepA W as H σ ws cs sl st) (h : DvAll W.K W.C (Av W as cs) H vs ds) : RepA W as H σ (vs ++ ws) cs sl (ds.map .d ++ st) := R.st' (StOk.app (all_stok h) R.st)
theorem RepA.one {as : List Addr} {v : V} {d : D} (R : RepA W as H σ ws cs sl st) (h : Dv W.K W.C (Av W as cs) H v d) : RepA W as H σ (v :: ws) cs sl (.d d :: st) := R.st' ⟨h, R.st⟩
theorem RepA.drop1 {as : List Addr} {v : V} {s : Sd} (R : RepA W as H σ (v :: ws) cs sl (s :: st)) : RepA W as H σ ws cs sl st := R.st' R.st.2
/-! ### expressions -/
theorem w_var {i : Nat} {x : Sd} (h : sl[i]? = some (some x)) (q : Q x cs) : wE W (tVar i) cs sl st Q := fun H σ ws R Q' k => by
  obtain ⟨as, R⟩ := R
  obtain ⟨v, h1, h2⟩ := R.sl.get h
  exact ⟨v, h1, k x cs v H q ⟨as, R.st' ⟨h2, R.st⟩⟩⟩
theorem w_cI {i : Int} (q : Q (.d (.int i)) cs) : wE W (tC (.int i)) cs sl st Q := fun H σ ws R Q' k => k _ _ _ _ q (R.push (scd_int i))
theorem w_cS {i : Str} (q : Q (.d (.str i)) cs) : wE W (tC (.str i)) cs sl st Q := fun H σ ws R Q' k => k _ _ _ _ q (R.push (scd_str i))
theorem w_cB {i : Bool} (q : Q (.d (.bl i)) cs) : wE W (tC (.bl i)) cs sl st Q := fun H σ ws R Q' k => k _ _ _ _ q (R.push (scd_bl i))
theorem w_cN (q : Q (.d .non) cs) : wE W (tC .non) cs sl st Q := fun H σ ws R Q' k => k _ _ _ _ q (R.push scd_non)
theorem w_op {r : R2} {ta tb : TE} (q : wE W ta cs sl st fun x cs1 => wE W tb cs1 sl (x :: st) fun y cs2 => wO W r x y cs2 sl st Q) : wE W (tOp r ta tb) cs sl st Q := fun H σ ws R Q' k =>
  q H σ ws R _ fun _ _ vx H1 h1 R1 => h1 H1 σ (vx :: ws) R1 _ fun _ _ vy H2 h2 R2 => h2 H2 σ vx vy ws R2 Q' k
theorem w_un {r : V → Hp → VK → Prop} {ta : TE} (q : wE W ta cs sl st fun x cs1 => wU W r x cs1 sl st Q) : wE W (tUn r ta) cs sl st Q := fun H σ ws R Q' k =>
  q H σ ws R _ fun _ _ vx H1 h1 R1 => h1 H1 σ vx ws R1 Q' k
theorem w_nil {Q : List Sd → Cs → Prop} (q : Q [] cs) : wA W tNil cs sl st Q := fun H σ ws R Q' k => k [] cs [] H q rfl R
theorem w_cons {Q : List Sd → Cs → Prop} {ta : TE} {tr : TA} (q : wE W ta cs sl st fun x cs1 => wA W tr cs1 sl (x :: st) fun xs cs2 => Q (x :: xs) cs2) : wA W (tCons ta tr) cs sl st Q := fun H σ ws R Q' k =>
  q H σ ws R _ fun x _ vx H1 h1 R1 => h1 H1 σ (vx :: ws) R1 _ fun xs cs2 vs H2 h2 l2 R2 => k (x :: xs) cs2 (vx :: vs) H2 h2 (by simp [l2]) (R2.st' fun P hp => by
    have := StOk.split l2 hp
    exact ⟨this.2.1, StOk.app this.1 this.2.2⟩)
theorem w_cb {r : List V → Hp → VK → Prop} {t : TA} (q : wA W t cs sl st fun xs cs1 => wC W r xs cs1 sl st Q) : wE W (tCB r t) cs sl st Q := fun H σ ws R Q' k =>
  q H σ ws R _ fun _ _ vs H1 h1 l R1 => h1 H1 σ vs ws l R1 Q' k
theorem w_cbN {Q : List D → Cs → Prop} {r : List V → Hp → VK → Prop} {t : TA} (q : wA W t cs sl st fun xs cs1 => wCN W r xs cs1 sl st Q) : wN W (tCB r t) cs sl st Q := fun H σ ws R Q' k =>
  q H σ ws R _ fun _ _ vs H1 h1 l R1 => h1 H1 σ vs ws l R1 Q' k
theorem w_opN {Q : List D → Cs → Prop} {r : R2} {ta tb : TE} (q : wE W ta cs sl st fun x cs1 => wE W tb cs1 sl (x :: st) fun y cs2 => wON W r x y cs2 sl st Q) : wN W (tOp r ta tb) cs sl st Q := fun H σ ws R Q' k =>
  q H σ ws R _ fun _ _ vx H1 h1 R1 => h1 H1 σ (vx :: ws) R1 _ fun _ _ vy H2 h2 R2 => h2 H2 σ vx vy ws R2 Q' k
theorem w_own {te : TE} (q : wN W te cs sl st fun ds cs1 => Q (.c cs1.length) (cs1 ++ [some (.lst ds)])) : wE W (tOwn te) cs sl st Q := fun H σ ws R Q' k => q H σ ws R Q' fun ds cs' v H' h R1 _ => k _ _ v H' h R1
theorem w_new {te : TE} (q : wN W te cs sl st fun ds cs1 => Q (.d (.lst ds)) cs1) : wE W te cs sl st Q := fun H σ ws R Q' k => q H σ ws R Q' fun ds cs' v H' h _ R1 => k _ _ v H' h R1
theorem w_newC {r : List V → Hp → VK → Prop} {xs : List Sd} (q : wCN W r xs cs sl st fun ds cs1 => Q (.d (.lst ds)) cs1) : wC W r xs cs sl st Q := fun H σ vs ws l R Q' k => q H σ vs ws l R Q' fun ds cs' v H' h _ R1 => k _ _ v H' h R1
theorem w_newO {r : R2} {x y : Sd} (q : wON W r x y cs sl st fun ds cs1 => Q (.d (.lst ds)) cs1) : wO W r x y cs sl st Q := fun H σ vx vy ws R Q' k => q H σ vx vy ws R Q' fun ds cs' v H' h _ R1 => k _ _ v H' h R1
/-- arguments as data -/
def ArgD : List Sd → (List D → Prop) → Prop
  | [], k => k []
  | .d x :: r, k => ArgD r fun ds => k (x :: ds)
  | _ :: _, _ => False
theorem argd {xs : List Sd} {k : List D → Prop} (h : ArgD xs k) : ∃ ds, xs = ds.map .d ∧ k ds := by
  induction xs generalizing k with
  | nil => exact ⟨[], rfl, h⟩
  | cons x xs ih =>
    cases x with
    | d x =>
      obtain ⟨ds, rfl, h2⟩ := ih (k := fun ds => k (x :: ds)) h
      exact ⟨x :: ds, rfl, h2⟩
    | c _ => exact h.elim
    | r => exact h.elim
theorem ad_cons {x : D} {r : List Sd} {k : List D → Prop} (h : ArgD r fun ds => k (x :: ds)) : ArgD (.d x :: r) k := h
theorem ad_nil {k : List D → Prop} (h : k []) : ArgD [] k := h
def rTup (vs : List V) (H : Hp) (Q : VK) : Prop := mkT vs H Q
theorem w_tup {t : TA} (q : wA W t cs sl st fun xs cs1 => ArgD xs fun ds => ds.length ≤ 900000 ∧ Q (.d (.tup ds)) cs1) : wE W (tTup t) cs sl st Q := fun H σ ws R Q' k =>
  q H σ ws R _ fun xs cs1 vs H1 h1 l R1 => by
    obtain ⟨ds, rfl, hl, h2⟩ := argd h1
    rw [List.length_map] at l
    exact ⟨sz_of (by omega), fun p n => k _ _ _ _ h2 (new_tup R1 l hl n)⟩
theorem w_lst {Q : List D → Cs → Prop} {t : TA} (q : wA W t cs sl st fun xs cs1 => ArgD xs fun ds => ds.length ≤ 900000 ∧ Q ds cs1) : wN W (tLst t) cs sl st Q := fun H σ ws R Q' k =>
  q H σ ws R _ fun xs cs1 vs H1 h1 l R1 => by
    obtain ⟨ds, rfl, hl, h2⟩ := argd h1
    rw [List.length_map] at l
    exact ⟨sz_of (by omega), fun p n => k _ _ _ _ h2 (new_list R1 l hl n).1 (new_list R1 l hl n).2⟩
theorem w_len {n : Nat} {P : Prop} (h : n ≤ 900000) (q : P) : n ≤ 900000 ∧ P := ⟨h, q⟩
theorem w_if {c : TT} {ta tb : TE} (q : wT W c cs sl st fun b cs1 => if b = true then wE W ta cs1 sl st Q else wE W tb cs1 sl st Q) : wE W (tIf c ta tb) cs sl st Q := fun H σ ws R Q' k =>
  q H σ ws R _ fun b cs1 H1 h1 R1 => by
    cases b with
    | true => exact iteT ((show wE W ta cs1 sl st Q from h1) H1 σ ws R1 Q' k)
    | false => exact iteF ((show wE W tb cs1 sl st Q from h1) H1 σ ws R1 Q' k)
def BlK (P : Bool → Prop) : Sd → Prop
  | .d (.bl b) => P b
  | _ => False
theorem w_blk {b : Bool} {P : Bool → Prop} (h : P b) : BlK P (.d (.bl b)) := h
theorem Rep.blk {x : Sd} {v : V} {P : Bool → Prop} (R : Rep W H σ (v :: ws) cs sl (x :: st)) (h : BlK P x) : ∃ b, x = .d (.bl b) ∧ v = .bl b ∧ P b := by
  cases x with
  | c _ => exact h.elim
  | r => exact h.elim
  | d x => cases x with
    | bl b => exact ⟨b, rfl, R.bl, h⟩
    | _ => exact h.elim
theorem w_andV {ta tb : TE} (q : wE W ta cs sl st fun x cs1 => BlK (fun c => if c = true then wE W tb cs1 sl st Q else Q (.d (.bl false)) cs1) x) : wE W (tAndV ta tb) cs sl st Q := fun H σ ws R Q' k =>
  q H σ ws R _ fun x cs1 v H1 h1 R1 => by
    obtain ⟨b, rfl, rfl, h⟩ := R1.blk h1
    refine ⟨b, rfl, ?_⟩
    cases b with
    | true => exact iteT ((show wE W tb cs1 sl st Q from h) H1 σ ws R1.drop1 Q' k)
    | false => exact iteF (k _ _ _ _ h (R1.drop1.push (scd_bl _)))
theorem w_orV {ta tb : TE} (q : wE W ta cs sl st fun x cs1 => BlK (fun c => if c = true then Q (.d (.bl true)) cs1 else wE W tb cs1 sl st Q) x) : wE W (tOrV ta tb) cs sl st Q := fun H σ ws R Q' k =>
  q H σ ws R _ fun x cs1 v H1 h1 R1 => by
    obtain ⟨b, rfl, rfl, h⟩ := R1.blk h1
    refine ⟨b, rfl, ?_⟩
    cases b with
    | true => exact iteT (k _ _ _ _ h (R1.drop1.push (scd_bl _)))
    | false => exact iteF ((show wE W tb cs1 sl st Q from h) H1 σ ws R1.drop1 Q' k)
theorem w_notV {ta : TE} (q : wE W ta cs sl st fun x cs1 => BlK (fun c => Q (.d (.bl (!c))) cs1) x) : wE W (tNotV ta) cs sl st Q := fun H σ ws R Q' k =>
  q H σ ws R _ fun x cs1 v H1 h1 R1 => by
    obtain ⟨b, rfl, rfl, h⟩ := R1.blk h1
    exact ⟨b, rfl, k _ _ _ _ h (R1.drop1.push (scd_bl _))⟩
theorem w_chain {r r' : R2} {ta tb tc : TE} (q : wE W ta cs sl st fun x cs1 => wE W tb cs1 sl (x :: st) fun y cs2 => wO W r x y cs2 sl (y :: st) fun z cs3 => BlK (fun b => if b = true then wE W tc cs3 sl (y :: st) fun w cs4 => wO W r' y w cs4 sl st Q else Q (.d (.bl false)) cs3) z) : wE W (tChain r r' ta tb tc) cs sl st Q := fun H σ ws R Q' k =>
  q H σ ws R _ fun x cs1 vx H1 h1 R1 => h1 H1 σ (vx :: ws) R1 _ fun y cs2 vy H2 h2 R2 => h2 H2 σ vx vy (vy :: ws) (R2.st' fun P hp => ⟨hp.1, hp.2.1, hp.1, hp.2.2⟩) _ fun z cs3 v H3 h3 R3 => by
    obtain ⟨b, rfl, rfl, h⟩ := R3.blk h3
    refine ⟨b, rfl, ?_⟩
    cases b with
    | true => exact iteT ((show wE W tc cs3 sl (y :: st) _ from h) H3 σ (vy :: ws) R3.drop1 _ fun w cs4 vw H4 h4 R4 => h4 H4 σ vy vw ws R4 Q' k)
    | false => exact iteF (k _ _ _ _ h (R3.drop1.drop1.push (scd_bl _)))
/-! tests -/
variable {B : Bool → Cs → Prop}
theorem w_tB {t : TE} (q : wE W t cs sl st fun x cs1 => BlK (fun c => B c cs1) x) : wT W (tB t) cs sl st B := fun H σ ws R Q' k => q H σ ws R _ fun x cs1 v H1 h1 R1 => by
  obtain ⟨b, rfl, rfl, h⟩ := R1.blk h1
  exact ⟨b, rfl, k b cs1 H1 h R1.drop1⟩
theorem w_test {t : TE} (q : wE W t cs sl st fun x cs1 => BlK (fun c => B c cs1) x) : wT W (tTest t) cs sl st B := fun H σ ws R Q' k => q H σ ws R _ fun x cs1 v H1 h1 R1 => by
  obtain ⟨b, rfl, rfl, h⟩ := R1.blk h1
  exact ⟨b, rfl, k b cs1 H1 h R1.drop1⟩
theorem w_and {t u : TT} (q : wT W t cs sl st fun c cs1 => if c = true then wT W u cs1 sl st B else B false cs1) : wT W (tAnd t u) cs sl st B := fun H σ ws R Q' k => q H σ ws R _ fun b cs1 H1 h1 R1 => by
  cases b with
  | true => exact iteT ((show wT W u cs1 sl st B from h1) H1 σ ws R1 Q' k)
  | false => exact iteF (k _ _ _ h1 R1)
theorem w_or {t u : TT} (q : wT W t cs sl st fun c cs1 => if c = true then B true cs1 else wT W u cs1 sl st B) : wT W (tOr t u) cs sl st B := fun H σ ws R Q' k => q H σ ws R _ fun b cs1 H1 h1 R1 => by
  cases b with
  | true => exact iteT (k _ _ _ h1 R1)
  | false => exact iteF ((show wT W u cs1 sl st B from h1) H1 σ ws R1 Q' k)
theorem w_not {t : TT} (q : wT W t cs sl st fun c cs1 => B (!c) cs1) : wT W (tNot t) cs sl st B := fun H σ ws R Q' k => q H σ ws R _ fun b cs1 H1 h1 R1 => k _ _ _ h1 R1
theorem w_yes (q : B true cs) : wT W tYes cs sl st B := fun H σ ws R Q' k => k _ _ _ q R
/-! statements -/
theorem w_seq {t u : TS} (q : wS W t cs sl st { F with nx := fun cs1 sl1 => wS W u cs1 sl1 st F }) : wS W (tSeq t u) cs sl st F := fun H σ ws R De k =>
  q H σ ws R _ ⟨fun cs1 sl1 σ1 H1 h1 R1 => h1 H1 σ1 ws R1 De k, k.rt, k.bk, k.ct⟩
theorem w_cut {t u : TS} (Mid : Cs → Sl → Prop) (q : wS W t cs sl st { F with nx := Mid }) (q2 : ∀ cs1 sl1, Mid cs1 sl1 → wS W u cs1 sl1 st F) : wS W (C8.tCut t u) cs sl st F := fun H σ ws R De k =>
  ⟨fun σ1 H1 => ∃ cs1 sl1, Mid cs1 sl1 ∧ Rep W H1 σ1 ws cs1 sl1 st, q H σ ws R _ ⟨fun cs1 sl1 σ1 H1 h1 R1 => ⟨cs1, sl1, h1, R1⟩, k.rt, k.bk, k.ct⟩, fun σ1 H1 ⟨cs1, sl1, h1, R1⟩ => q2 cs1 sl1 h1 H1 σ1 ws R1 De k⟩
theorem w_next (q : F.nx cs sl) : wS W tNext cs sl st F := fun H σ ws R De k => k.nx _ _ _ _ q R
theorem w_brk (q : F.bk cs sl) : wS W tBreak cs sl st F := fun H σ ws R De k => k.bk _ _ _ _ q R
theorem w_cont (q : F.ct cs sl) : wS W tCont cs sl st F := fun H σ ws R De k => k.ct _ _ _ _ q R
theorem w_drop {te : TE} (q : wE W te cs sl st fun _ cs1 => F.nx cs1 sl) : wS W (tDrop te) cs sl st F := fun H σ ws R De k => q H σ ws R _ fun _ _ _ _ h R1 => k.nx _ _ _ _ h R1.drop1
theorem w_ret {te : TE} (q : wE W te cs sl st F.rt) : wS W (tRet te) cs sl st F := fun H σ ws R De k => q H σ ws R _ fun _ _ _ _ h R1 => k.rt _ _ _ _ _ _ _ _ h R1
theorem w_retN (q : F.rt (.d .non) cs) : wS W tRetN cs sl st F := fun H σ ws R De k => k.rt _ _ _ _ _ _ _ _ q (R.push scd_non)
theorem w_ifS {c : TT} {t u : TS} (q : wT W c cs sl st fun b cs1 => if b = true then wS W t cs1 sl st F else wS W u cs1 sl st F) : wS W (tIfS c t u) cs sl st F := fun H σ ws R De k => q H σ ws R _ fun b cs1 H1 h1 R1 => by
  cases b with
  | true => exact iteT ((show wS W t cs1 sl st F from h1) H1 σ ws R1 De k)
  | false => exact iteF ((show wS W u cs1 sl st F from h1) H1 σ ws R1 De k)
theorem w_asg {te : TE} {g : TG} (q : wE W te cs sl st fun x cs1 => wG W g x cs1 sl st F.nx) : wS W (tAsg te g) cs sl st F := fun H σ ws R De k => q H σ ws R _ fun x cs1 v H1 h1 R1 => h1 H1 σ v ws R1 _ fun cs2 sl2 σ2 H2 h2 R2 => k.nx _ _ _ _ h2 R2
def TwoK (P : Sd → Sd → Prop) : List Sd → Prop
  | [x, y] => P x y
  | _ => False
theorem w_two {x y : Sd} {P : Sd → Sd → Prop} (h : P x y) : TwoK P [x, y] := h
theorem Rep.set {v : V} {x : Sd} (R : Rep W H σ (v :: ws) cs sl (x :: st)) (i : Nat) : Rep W H (σ.set i (some v)) ws cs (sl.set i (some x)) st := by
  obtain ⟨as, R⟩ := R
  exact ⟨as, (R.sl' (R.sl.set R.st.1 i)).drop1⟩
def SetK (sl0 : Sl) (P : Sl → Prop) : Prop := P sl0
theorem w_setk {sl0 sl' : Sl} {P : Sl → Prop} (e : sl0 = sl') (q : P sl') : SetK sl0 P := by
  subst e
  exact q
theorem w_par {i j : Nat} {ta : TA} (q : wA W ta cs sl st fun xs cs1 => TwoK (fun x y => SetK ((sl.set i (some x)).set j (some y)) (F.nx cs1)) xs) : wS W (tPar i j ta) cs sl st F := fun H σ ws R De k => q H σ ws R _ fun xs cs1 vs H1 h1 l R1 => by
  match xs, vs, l, h1, R1 with
  | [x, y], [v, w], _, h1, R1 =>
    refine ⟨v, w, rfl, k.nx _ _ _ _ h1 ?_⟩
    exact ((R1.set (v := v) (x := x) i).set (v := w) (x := y) j)
theorem w_name {i : Nat} {x : Sd} {Q : Cs → Sl → Prop} {sl' : Sl} (e : sl.set i (some x) = sl') (q : Q cs sl') : wG W (gName i) x cs sl st Q := fun H σ v ws R Q' k => by
  subst e
  exact k _ _ _ _ q (R.set i)
theorem w_gnil {Q : Cs → Sl → Prop} (q : Q cs sl) : wGs W gNil [] cs sl st Q := fun H σ vs ws l R Q' k => by
  obtain rfl := List.length_eq_zero_iff.mp l
  exact ⟨rfl, k _ _ _ _ q R⟩
theorem w_gcons {x : Sd} {xs : List Sd} {t : TG} {u : TGs} {Q : Cs → Sl → Prop} (q : wG W t x cs sl (xs ++ st) fun cs1 sl1 => wGs W u xs cs1 sl1 st Q) : wGs W (gCons t u) (x :: xs) cs sl st Q := fun H σ vs ws l R Q' k => by
  match vs, l with
  | v :: vs, l => exact ⟨v, vs, rfl, q H σ v (vs ++ ws) R _ fun cs1 sl1 σ1 H1 h1 R1 => h1 H1 σ1 vs ws (Nat.succ.inj l) R1 Q' k⟩
theorem w_gtup {n : Nat} {ds : List D} {t : TGs} {Q : Cs → Sl → Prop} (hn : ds.length = n) (q : wGs W t (ds.map .d) cs sl st Q) : wG W (gTup W.K n t) (.d (.tup ds)) cs sl st Q := fun H σ v ws R Q' k => by
  obtain ⟨as, R⟩ := R
  obtain ⟨a, xs, rfl, h1, h2, h3, h4⟩ := R.seqT
  exact ⟨a, xs, rfl, h1, h2.trans hn, q H σ xs ws (by rw [List.length_map]; exact h2) ⟨as, R.drop1.all h4⟩ Q' k⟩
/-- a cell becomes data -/
theorem w_freeze (k : Nat) {t : TS} {ds : List D} {cs' : Cs} {sl' : Sl} {st' : List Sd} (h : cs[k]? = some (some (.lst ds))) (e1 : cs.set k none = cs') (e2 : sl.map (Option.map (Sd.frz k (.lst ds))) = sl') (e3 : st.map (Sd.frz k (.lst ds)) = st) (q : wS W t cs' sl' st F) : wS W t cs sl st F := fun H σ ws R De kk => by
  subst e1 e2
  refine q H σ ws ?_ De kk
  obtain ⟨as, R⟩ := R
  have := R.freeze h
  rw [e3] at this
  exact ⟨as, this⟩
end
end R
namespace R
open PySem PySem.Spec PyProof.Rows L2 L2H LamX
theorem psown {X : Cx} {s : Stmt} {t : TE} {g : TG} (h : PS X s (tAsg t g)) : PS X s (tAsg (tOwn t) g) := h
end R

/-! # W3: operators and built-ins over data -/
namespace R
open PySem PySem.Spec PyProof.Rows L2 L2H LamX
/-! data for == -/
mutual
def D.py : D → PyData
  | .non => .none
  | .bl b => .bool b
  | .int i => .int i
  | .str s => .str s
  | .lst ds => .list (D.pys ds)
  | .tup ds => .tuple (D.pys ds)
  | .mac _ => .none
  | .ktp ts => .tuple (ts.map fun n : Nat => .int n)
  | .htp _ => .none
def D.pys : List D → List PyData
  | [] => []
  | d :: ds => d.py :: D.pys ds
end
mutual
def D.pl : D → Bool
  | .mac _ => false
  | .htp _ => false
  | .lst ds => D.pls ds
  | .tup ds => D.pls ds
  | _ => true
def D.pls : List D → Bool
  | [] => true
  | d :: ds => d.pl && D.pls ds
end
/-- plain data of a depth of at most n -/
structure D.Ok (n : Nat) (d : D) : Prop where
  pl : d.pl = true
  lay : d.py.canLay0 = true
  dep : d.py.depth ≤ n
theorem D.Ok.int {n : Nat} (i : Int) : D.Ok n (.int i) := ⟨rfl, by simp [D.py, PyData.canLay0], by simp [D.py, PyData.depth]⟩
theorem D.Ok.bl {n : Nat} (i : Bool) : D.Ok n (.bl i) := ⟨rfl, by simp [D.py, PyData.canLay0], by simp [D.py, PyData.depth]⟩
theorem D.Ok.non {n : Nat} : D.Ok n .non := ⟨rfl, by simp [D.py, PyData.canLay0], by simp [D.py, PyData.depth]⟩
theorem D.Ok.str {n : Nat} {x : Str} (h : PyData.strOk x = true) : D.Ok n (.str x) := ⟨rfl, by simp [D.py, PyData.canLay0, h], by simp [D.py, PyData.depth]⟩
theorem D.ok_all {n : Nat} : ∀ {ds : List D}, (∀ d ∈ ds, D.Ok n d) → D.pls ds = true ∧ PyData.canLayAll0 (D.pys ds) = true ∧ PyData.depthAll (D.pys ds) ≤ n
  | [], _ => ⟨rfl, by simp [D.pys, PyData.canLayAll0], by simp [D.pys, PyData.depthAll]⟩
  | d :: ds, h => by
    have h1 := h d (.head _)
    have h2 := D.ok_all (ds := ds) fun e he => h e (.tail _ he)
    exact ⟨by rw [D.pls, h1.pl, h2.1]; rfl, by rw [D.pys, PyData.canLayAll0, h1.lay, h2.2.1]; rfl, by rw [D.pys, PyData.depthAll]; exact Nat.max_le.mpr ⟨h1.dep, h2.2.2⟩⟩
theorem D.Ok.lst {n : Nat} {ds : List D} (h : ∀ d ∈ ds, D.Ok n d) : D.Ok (n + 1) (.lst ds) := ⟨by rw [D.pl]; exact (D.ok_all h).1, by rw [D.py, PyData.canLay0]; exact (D.ok_all h).2.1, by rw [D.py, PyData.depth]; have := (D.ok_all h).2.2; omega⟩
theorem D.Ok.tup {n : Nat} {ds : List D} (h : ∀ d ∈ ds, D.Ok n d) : D.Ok (n + 1) (.tup ds) := ⟨by rw [D.pl]; exact (D.ok_all h).1, by rw [D.py, PyData.canLay0]; exact (D.ok_all h).2.1, by rw [D.py, PyData.depth]; have := (D.ok_all h).2.2; omega⟩
theorem D.Ok.map {α : Type} {n : Nat} {f : α → D} (h : ∀ x, D.Ok n (f x)) (xs : List α) : ∀ d ∈ xs.map f, D.Ok n d := fun d hd => by
  obtain ⟨x, _, rfl⟩ := List.mem_map.mp hd
  exact h x
theorem D.Ok.nil {n : Nat} : ∀ d ∈ ([] : List D), D.Ok n d := fun _ h => absurd h List.not_mem_nil
theorem D.Ok.cons {n : Nat} {d : D} {ds : List D} (h : D.Ok n d) (t : ∀ d ∈ ds, D.Ok n d) : ∀ e ∈ d :: ds, D.Ok n e := fun e he => by
  rcases List.mem_cons.mp he with rfl | he
  · exact h
  · exact t e he
theorem D.Ok.dl {n : Nat} (xs : List Nat) : D.Ok (n + 1) (dl xs) := .lst (.map (fun x => .int _) xs)
theorem D.Ok.dr {n : Nat} (xs : List Nat) : D.Ok (n + 1) (dr xs) := .tup (.map (fun x => .int _) xs)
theorem D.Ok.ints {n : Nat} (xs : List Int) : ∀ d ∈ xs.map D.int, D.Ok n d := .map (fun x => .int _) xs
theorem D.pys_nats : ∀ ts : List Nat, D.pys (ts.map dn) = ts.map fun n : Nat => .int n
  | [] => rfl
  | t :: ts => by
    show D.py (dn t) :: D.pys (ts.map dn) = _
    rw [D.pys_nats ts]
    rfl
theorem D.py_ktp (ts : List Nat) : (D.ktp ts).py = (R.dr ts).py := by
  rw [R.dr, D.py, D.py, D.pys_nats]
theorem D.Ok.ktp {n : Nat} (ts : List Nat) : D.Ok (n + 1) (.ktp ts) := ⟨rfl, by rw [D.py_ktp]; exact (D.Ok.dr (n := n) ts).lay, by rw [D.py_ktp]; exact (D.Ok.dr (n := n) ts).dep⟩
theorem D.pys_ktp : ∀ tg : List (List Nat), D.pys (tg.map D.ktp) = D.pys (tg.map R.dr)
  | [] => rfl
  | t :: tg => by
    rw [List.map_cons, List.map_cons, D.pys, D.pys, D.py_ktp, D.pys_ktp tg]
theorem dp_nats {K : PySem.W.Frag} {H : Hp} : ∀ ts : List Nat, DpAll K H (ts.map vN) (ts.map fun n : Nat => .int n)
  | [] => .nil
  | t :: ts => .cons (.int t) (dp_nats ts)
theorem D.Ok.shaped {n : Nat} {d : D} (h : D.Ok n d) (hn : n ≤ 64) : SeqAt.shaped d.py = true := by
  unfold SeqAt.shaped
  rw [h.lay, decide_eq_true (by have := h.dep; omega)]
  rfl
mutual
theorem Dv.dp {K : PySem.W.Frag} {C : Addr} {av : Addr → Prop} {H : Hp} : ∀ {v : V} {d : D}, Dv K C av H v d → d.pl = true → Dp K H v d.py
  | _, _, .non, _ => .non
  | _, _, .bl b, _ => .bl b
  | _, _, .int i, _ => .int i
  | _, _, .str x, _ => .str x
  | _, .lst ds, .lst h1 _ _ h4, h => .lst (.inl (.inl h1)) (DvAll.dp h4 h)
  | _, .tup ds, .tup h1 _ _ h4, h => .tup (.inl (.inl h1)) (DvAll.dp h4 h)
  | _, .tup [.int 2, .int 3, .int 5], .ktup h1 _ h4, h => .tup (h1 _) (DvAll.dp h4 h)
  | _, _, .mac _ _ _ _, h => by cases h
  | _, _, .htp _ _ _, h => by cases h
  | _, .ktp ts, .ktp h1 _ _ _, _ => .tup (.inl (.inr ⟨_, h1⟩)) (dp_nats ts)
theorem DvAll.dp {K : PySem.W.Frag} {C : Addr} {av : Addr → Prop} {H : Hp} : ∀ {v : List V} {d : List D}, DvAll K C av H v d → D.pls d = true → DpAll K H v (D.pys d)
  | _, _, .nil, _ => .nil
  | _, _, .cons a b, h => by
    rw [D.pls, Bool.and_eq_true] at h
    exact .cons (Dv.dp a h.1) (DvAll.dp b h.2)
end
def D.eqv (x y : D) : Bool := PyData.eqv x.py y.py
theorem D.eqv_refl {n : Nat} {x : D} (h : D.Ok n x) : D.eqv x x = true := PySem.SeqAt.eqv_refl _ h.lay
mutual
def D.nb : D → Bool
  | .bl _ => false
  | .mac _ => false
  | .ktp _ => false
  | .htp _ => false
  | .lst ds => D.nbs ds
  | .tup ds => D.nbs ds
  | _ => true
def D.nbs : List D → Bool
  | [] => true
  | d :: ds => d.nb && D.nbs ds
end
mutual
theorem D.eqv_iff : ∀ {x y : D}, x.nb = true → y.nb = true → (D.eqv x y = true ↔ x = y)
  | .non, y, _, hy => by cases y <;> first | (cases hy; done) | simp [D.eqv, D.py, PyData.eqv]
  | .int i, y, _, hy => by cases y <;> first | (cases hy; done) | simp [D.eqv, D.py, PyData.eqv]
  | .str i, y, _, hy => by cases y <;> first | (cases hy; done) | simp [D.eqv, D.py, PyData.eqv]
  | .bl _, _, h, _ => by cases h
  | .mac _, _, h, _ => by cases h
  | .ktp _, _, h, _ => by cases h
  | .htp _, _, h, _ => by cases h
  | .lst xs, y, hx, hy => by
    cases y <;> first | (cases hy; done) | skip
    case lst ys =>
      have := D.eqvs_iff (xs := xs) (ys := ys) hx hy
      simp only [D.eqv, D.py, PyData.eqv, D.lst.injEq]
      exact this
    all_goals simp [D.eqv, D.py, PyData.eqv]
  | .tup xs, y, hx, hy => by
    cases y <;> first | (cases hy; done) | skip
    case tup ys =>
      have := D.eqvs_iff (xs := xs) (ys := ys) hx hy
      simp only [D.eqv, D.py, PyData.eqv, D.tup.injEq]
      exact this
    all_goals simp [D.eqv, D.py, PyData.eqv]
theorem D.eqvs_iff : ∀ {xs ys : List D}, D.nbs xs = true → D.nbs ys = true → (PyData.eqvAll (D.pys xs) (D.pys ys) = true ↔ xs = ys)
  | [], [], _, _ => by simp [D.pys, PyData.eqvAll]
  | [], _ :: _, _, _ => by simp [D.pys, PyData.eqvAll]
  | _ :: _, [], _, _ => by simp [D.pys, PyData.eqvAll]
  | x :: xs, y :: ys, hx, hy => by
    rw [D.nbs, Bool.and_eq_true] at hx hy
    have h1 := D.eqv_iff (x := x) (y := y) hx.1 hy.1
    have h2 := D.eqvs_iff (xs := xs) (ys := ys) hx.2 hy.2
    simp only [D.pys, PyData.eqvAll, Bool.and_eq_true, List.cons.injEq]
    exact and_congr h1 h2
end
theorem D.eqv_dec {x y : D} (hx : x.nb = true) (hy : y.nb = true) : D.eqv x y = decide (x = y) := by
  rw [Bool.eq_iff_iff, D.eqv_iff hx hy, decide_eq_true_iff]
theorem D.nbs_map {α : Type} {f : α → D} (h : ∀ x, (f x).nb = true) : ∀ xs : List α, D.nbs (xs.map f) = true
  | [] => rfl
  | x :: xs => by rw [List.map_cons, D.nbs, h x, D.nbs_map h xs]; rfl
theorem D.nb_dl (xs : List Nat) : (R.dl xs).nb = true := by rw [R.dl, D.nb]; exact D.nbs_map (fun _ => rfl) xs
theorem D.nb_dr (xs : List Nat) : (R.dr xs).nb = true := by rw [R.dr, D.nb]; exact D.nbs_map (fun _ => rfl) xs
/-! what is read as data: data itself, a cell -/
def rdD (cs : Cs) : Sd → Option D
  | .d x => some x
  | .c k => match cs[k]? with
    | some (some (.lst ds)) => some (.lst ds)
    | _ => none
  | .r => none
def rdQ (cs : Cs) : Sd → Option (List D)
  | .d (.lst ds) => some ds
  | .d (.tup ds) => some ds
  | .d (.ktp ts) => some (ts.map dn)
  | .c k => match cs[k]? with
    | some (some (.lst ds)) => some ds
    | _ => none
  | _ => none
section
variable {W : Wo} {cs : Cs} {sl : Sl} {st : List Sd} {Q : Sd → Cs → Prop} {H : Hp} {σ : L2.St} {ws : List V}
theorem Dv.noav {K : PySem.W.Frag} {C : Addr} {av : Addr → Prop} {v : V} {d : D} (h : Dv K C av H v d) : Dv K C (fun _ => False) H v d := h.step (fun _ _ q _ _ => q) fun _ _ q _ => q.elim
theorem RepA.rd {as : List Addr} {v : V} {x : Sd} {d : D} (R : RepA W as H σ (v :: ws) cs sl (x :: st)) (h : rdD cs x = some d) : Dv W.K W.C (fun _ => False) H v d := by
  cases x with
  | d x =>
    cases h
    exact Dv.noav R.st.1
  | r => cases h
  | c k =>
    unfold rdD at h
    simp only at h
    split at h
    · rename_i ds hk
      cases h
      obtain ⟨a, xs, rfl, _, h1, h2, h3, h4⟩ := R.seqC hk
      exact .lst h1 (fun z => z) (by omega) (h4.step (fun _ _ q _ _ => q) fun _ _ q _ => q.elim)
    · cases h
theorem RepA.rq {as : List Addr} {v : V} {x : Sd} {ds : List D} (R : RepA W as H σ (v :: ws) cs sl (x :: st)) (h : rdQ cs x = some ds) : ∃ a xs, v = .ref a ∧ Sq W.K H a xs ∧ xs.length = ds.length ∧ ds.length ≤ 900000 ∧ DvAll W.K W.C (Av W as cs) H xs ds := by
  cases x with
  | d x => cases x with
    | lst es =>
      cases h
      obtain ⟨a, xs, h1, h2, h3, h4, h5⟩ := R.seqL
      exact ⟨a, xs, h1, .inl h2, h3, h4, h5⟩
    | tup es =>
      cases h
      obtain ⟨a, xs, h1, h2, h3, h4, h5⟩ := R.seqT
      exact ⟨a, xs, h1, .inr h2, h3, h4, h5⟩
    | ktp ts =>
      cases h
      obtain ⟨a, h1, h2, h3, h4, h5⟩ := R.seqK
      exact ⟨a, _, h1, .inr h2, h3, h4, h5⟩
    | _ => cases h
  | r => cases h
  | c k =>
    unfold rdQ at h
    simp only at h
    split at h
    · rename_i ds hk
      cases h
      obtain ⟨a, xs, rfl, _, h1, h2, h3, h4⟩ := R.seqC hk
      exact ⟨a, xs, rfl, .inl (.inl (.inl h1)), h2, h3, h4⟩
    · cases h
/-! ### operators of numbers, texts, truth values -/
theorem o_num {r : R2} {i j : Int} {v : V} {d : D} (hs : ScD v d) (h : ∀ H (Q' : VK), Q' v H → r (.int i) (.int j) H Q') (q : Q (.d d) cs) : wO W r (.d (.int i)) (.d (.int j)) cs sl st Q := fun H σ vx vy ws R Q' k => by
  obtain rfl := R.int
  obtain rfl := R.drop1.int
  exact h H Q' (k _ _ _ _ q (R.drop1.drop1.push hs))
section
variable {K : PySem.W.Frag} {i j : Int}
theorem o_addI (q : Q (.d (.int (i + j))) cs) : wO W (sAdd K) (.d (.int i)) (.d (.int j)) cs sl st Q := o_num (scd_int _) (fun _ _ h => h) q
theorem o_sub (q : Q (.d (.int (i - j))) cs) : wO W sSub (.d (.int i)) (.d (.int j)) cs sl st Q := o_num (scd_int _) (fun _ _ h => h) q
theorem o_mod (h1 : 0 < j) (q : Q (.d (.int (i % j))) cs) : wO W sMod (.d (.int i)) (.d (.int j)) cs sl st Q := o_num (scd_int _) (fun _ _ h => ⟨h1, h⟩) q
theorem o_div (h1 : 0 < j) (h2 : j < 2 ^ 200) (q : Q (.d (.int (i / j))) cs) : wO W sDiv (.d (.int i)) (.d (.int j)) cs sl st Q := o_num (scd_int _) (fun _ _ h => ⟨⟨h1, h2⟩, h⟩) q
theorem o_mulL (h1 : -(2 ^ 64) < i ∧ i < 2 ^ 64) (q : Q (.d (.int (i * j))) cs) : wO W (sMul K) (.d (.int i)) (.d (.int j)) cs sl st Q := o_num (scd_int _) (fun _ _ h => z_mulL h1 h) q
theorem o_mulR (h1 : -(2 ^ 64) < j ∧ j < 2 ^ 64) (q : Q (.d (.int (i * j))) cs) : wO W (sMul K) (.d (.int i)) (.d (.int j)) cs sl st Q := o_num (scd_int _) (fun _ _ h => z_mulR h1 h) q
theorem o_mulW (h1 : i.natAbs < 2 ^ 400000) (h2 : j.natAbs < 2 ^ 400000) (q : Q (.d (.int (i * j))) cs) : wO W (sMul K) (.d (.int i)) (.d (.int j)) cs sl st Q := o_num (scd_int _) (fun _ _ h => z_mulW h1 h2 h) q
theorem o_pow (h1 : 0 ≤ j ∧ j ≤ 1000000 ∧ i.natAbs < 2 ^ 64) (q : Q (.d (.int (i ^ j.toNat))) cs) : wO W sPow (.d (.int i)) (.d (.int j)) cs sl st Q := o_num (scd_int _) (fun _ _ h => z_pow h1 h) q
theorem o_lt (q : Q (.d (.bl (decide (i < j)))) cs) : wO W sLt (.d (.int i)) (.d (.int j)) cs sl st Q := o_num (scd_bl _) (fun _ _ h => h) q
theorem o_le (q : Q (.d (.bl (decide (i ≤ j)))) cs) : wO W sLe (.d (.int i)) (.d (.int j)) cs sl st Q := o_num (scd_bl _) (fun _ _ h => h) q
theorem o_gt (q : Q (.d (.bl (decide (j < i)))) cs) : wO W sGt (.d (.int i)) (.d (.int j)) cs sl st Q := o_num (scd_bl _) (fun _ _ h => h) q
theorem o_ge (q : Q (.d (.bl (decide (j ≤ i)))) cs) : wO W sGe (.d (.int i)) (.d (.int j)) cs sl st Q := o_num (scd_bl _) (fun _ _ h => h) q
theorem o_eqI (q : Q (.d (.bl (decide (i = j)))) cs) : wO W (sEq K) (.d (.int i)) (.d (.int j)) cs sl st Q := o_num (scd_bl _) (fun _ _ h => h) q
theorem o_neI (q : Q (.d (.bl (!decide (i = j)))) cs) : wO W (sNe K) (.d (.int i)) (.d (.int j)) cs sl st Q := o_num (scd_bl _) (fun _ _ h => h) q
theorem o_neg {f : Int → V} {g : Int → D} (hs : ScD (f i) (g i)) (q : Q (.d (g i)) cs) : wU W (rU f) (.d (.int i)) cs sl st Q := fun H σ vx ws R Q' k => by
  obtain rfl := R.int
  exact ⟨i, rfl, k _ _ _ _ q (R.drop1.push hs)⟩
theorem o_negI (q : Q (.d (.int (-i))) cs) : wU W (rU fun i => .int (-i)) (.d (.int i)) cs sl st Q := o_neg (g := fun i => .int (-i)) (scd_int _) q
theorem o_str {r : R2} {a b : Str} {v : V} {d : D} (hs : ScD v d) (h : ∀ H (Q' : VK), Q' v H → r (.str a) (.str b) H Q') (q : Q (.d d) cs) : wO W r (.d (.str a)) (.d (.str b)) cs sl st Q := fun H σ vx vy ws R Q' k => by
  obtain rfl := R.str
  obtain rfl := R.drop1.str
  exact h H Q' (k _ _ _ _ q (R.drop1.drop1.push hs))
theorem o_addS {a b : Str} (h1 : a.length + b.length ≤ 1000000) (q : Q (.d (.str (a ++ b))) cs) : wO W (sAdd K) (.d (.str a)) (.d (.str b)) cs sl st Q := o_str (scd_str _) (fun _ _ h => ⟨sz_of h1, h⟩) q
theorem o_eqS {a b : Str} (q : Q (.d (.bl (decide (a = b)))) cs) : wO W (sEq K) (.d (.str a)) (.d (.str b)) cs sl st Q := o_str (scd_bl _) (fun _ _ h => h) q
theorem o_neS {a b : Str} (q : Q (.d (.bl (!decide (a = b)))) cs) : wO W (sNe K) (.d (.str a)) (.d (.str b)) cs sl st Q := o_str (scd_bl _) (fun _ _ h => h) q
theorem o_bl2 {r : R2} {a b : Bool} {v : V} {d : D} (hs : ScD v d) (h : ∀ H (Q' : VK), Q' v H → r (.bl a) (.bl b) H Q') (q : Q (.d d) cs) : wO W r (.d (.bl a)) (.d (.bl b)) cs sl st Q := fun H σ vx vy ws R Q' k => by
  obtain rfl := R.bl
  obtain rfl := R.drop1.bl
  exact h H Q' (k _ _ _ _ q (R.drop1.drop1.push hs))
theorem o_eqB {a b : Bool} (q : Q (.d (.bl (decide (a = b)))) cs) : wO W (sEq K) (.d (.bl a)) (.d (.bl b)) cs sl st Q := o_bl2 (scd_bl _) (fun _ _ h => h) q
theorem o_neB {a b : Bool} (q : Q (.d (.bl (!decide (a = b)))) cs) : wO W (sNe K) (.d (.bl a)) (.d (.bl b)) cs sl st Q := o_bl2 (scd_bl _) (fun _ _ h => h) q
theorem o_mulS {a : Str} (h : 2 ≤ i ∧ i ≤ 1000 ∧ 0 < a.length ∧ a.length ≤ 1000) (q : Q (.d (.str (repS a i.toNat))) cs) : wO W (sMul K) (.d (.str a)) (.d (.int i)) cs sl st Q := fun H σ vx vy ws R Q' k => by
  obtain rfl := R.int
  obtain rfl := R.drop1.str
  exact ⟨h, k _ _ _ _ q (R.drop1.drop1.push (scd_str _))⟩
/-- is None -/
theorem Dv.isnon {C : Addr} {av : Addr → Prop} {v : V} {d : D} (h : Dv K C av H v d) : (v = .non ↔ d = .non) := by
  cases h <;> simp
theorem o_is {x : D} (q : Q (.d (.bl (decide (x = .non)))) cs) : wO W sIs (.d x) (.d .non) cs sl st Q := fun H σ vx vy ws R Q' k => by
  obtain rfl := R.non
  refine ⟨rfl, ?_⟩
  have e : decide (vx = .non) = decide (x = .non) := by
    obtain ⟨as, R⟩ := R.drop1
    exact decide_eq_decide.mpr (Dv.isnon R.st.1)
  rw [e]
  exact k _ _ _ _ q (R.drop1.drop1.push (scd_bl _))
theorem o_isnot {x : D} (q : Q (.d (.bl (!decide (x = .non)))) cs) : wO W sIsNot (.d x) (.d .non) cs sl st Q := fun H σ vx vy ws R Q' k => by
  obtain rfl := R.non
  refine ⟨rfl, ?_⟩
  have e : decide (vx = .non) = decide (x = .non) := by
    obtain ⟨as, R⟩ := R.drop1
    exact decide_eq_decide.mpr (Dv.isnon R.st.1)
  rw [e]
  exact k _ _ _ _ q (R.drop1.drop1.push (scd_bl _))
theorem o_isB {a b : Bool} (q : Q (.d (.bl (decide (a = b)))) cs) : wO W sIs (.d (.bl a)) (.d (.bl b)) cs sl st Q := fun H σ vx vy ws R Q' k => by
  obtain rfl := R.bl
  obtain rfl := R.drop1.bl
  exact ⟨_, rfl, k _ _ _ _ q (R.drop1.drop1.push (scd_bl _))⟩
theorem o_isnotB {a b : Bool} (q : Q (.d (.bl (!decide (a = b)))) cs) : wO W sIsNot (.d (.bl a)) (.d (.bl b)) cs sl st Q := fun H σ vx vy ws R Q' k => by
  obtain rfl := R.bl
  obtain rfl := R.drop1.bl
  exact ⟨_, rfl, k _ _ _ _ q (R.drop1.drop1.push (scd_bl _))⟩
end
/-! ### == of data -/
theorem eq_core {K : PySem.W.Frag} {x y : V} {dx dy : D} {Q' : VK} (h1 : Dp K H x dx.py) (h2 : Dp K H y dy.py) (s1 : SeqAt.shaped dx.py = true) (s2 : SeqAt.shaped dy.py = true) (q : Q' (.bl (D.eqv dx dy)) H) : sEq K x y H Q' := by
  unfold sEq
  split
  · cases dx <;> cases dy <;> first | (cases h1; done) | (cases h2; done) | skip
    cases h1; cases h2
    rename_i i j
    have : D.eqv (.int i) (.int j) = decide (i = j) := by
      rw [Bool.eq_iff_iff]
      simp [D.eqv, D.py, PyData.eqv]
    rw [this] at q
    exact q
  · cases dx <;> cases dy <;> first | (cases h1; done) | (cases h2; done) | skip
    cases h1; cases h2
    rename_i i j
    have : D.eqv (.str i) (.str j) = decide (i = j) := by
      rw [Bool.eq_iff_iff]
      simp [D.eqv, D.py, PyData.eqv]
    rw [this] at q
    exact q
  · cases dx <;> cases dy <;> first | (cases h1; done) | (cases h2; done) | skip
    cases h1; cases h2
    rename_i i j
    have : D.eqv (.bl i) (.bl j) = decide (i = j) := by
      rw [Bool.eq_iff_iff]
      simp [D.eqv, D.py, PyData.eqv]
    rw [this] at q
    exact q
  · exact ⟨_, _, h1, h2, s1, s2, q⟩
  · exact ⟨_, _, h1, h2, s1, s2, q⟩
theorem ne_core {K : PySem.W.Frag} {x y : V} {dx dy : D} {Q' : VK} (h1 : Dp K H x dx.py) (h2 : Dp K H y dy.py) (s1 : SeqAt.shaped dx.py = true) (s2 : SeqAt.shaped dy.py = true) (q : Q' (.bl (!D.eqv dx dy)) H) : sNe K x y H Q' := by
  unfold sNe
  split
  · cases dx <;> cases dy <;> first | (cases h1; done) | (cases h2; done) | skip
    cases h1; cases h2
    rename_i i j
    have : D.eqv (.int i) (.int j) = decide (i = j) := by
      rw [Bool.eq_iff_iff]
      simp [D.eqv, D.py, PyData.eqv]
    rw [this] at q
    exact q
  · cases dx <;> cases dy <;> first | (cases h1; done) | (cases h2; done) | skip
    cases h1; cases h2
    rename_i i j
    have : D.eqv (.str i) (.str j) = decide (i = j) := by
      rw [Bool.eq_iff_iff]
      simp [D.eqv, D.py, PyData.eqv]
    rw [this] at q
    exact q
  · cases dx <;> cases dy <;> first | (cases h1; done) | (cases h2; done) | skip
    cases h1; cases h2
    rename_i i j
    have : D.eqv (.bl i) (.bl j) = decide (i = j) := by
      rw [Bool.eq_iff_iff]
      simp [D.eqv, D.py, PyData.eqv]
    rw [this] at q
    exact q
  · exact ⟨_, _, h1, h2, s1, s2, q⟩
  · exact ⟨_, _, h1, h2, s1, s2, q⟩
theorem rd2 {vx vy : V} {x y : Sd} {dx dy : D} (R : Rep W H σ (vy :: vx :: ws) cs sl (y :: x :: st)) (hx : rdD cs x = some dx) (hy : rdD cs y = some dy) : Dv W.K W.C (fun _ => False) H vx dx ∧ Dv W.K W.C (fun _ => False) H vy dy := by
  obtain ⟨as, R⟩ := R
  exact ⟨R.drop1.rd hx, R.rd hy⟩
theorem o_eqD {n m : Nat} {x y : Sd} {dx dy : D} (s1 : D.Ok n dx) (s2 : D.Ok m dy) (q : Q (.d (.bl (D.eqv dx dy))) cs) (hx : rdD cs x = some dx := by rfl) (hy : rdD cs y = some dy := by rfl) (hn : n ≤ 64 := by decide) (hm : m ≤ 64 := by decide) : wO W (sEq W.K) x y cs sl st Q := fun H σ vx vy ws R Q' k => by
  obtain ⟨h1, h2⟩ := rd2 R hx hy
  exact eq_core (h1.dp s1.pl) (h2.dp s2.pl) (s1.shaped hn) (s2.shaped hm) (k _ _ _ _ q (R.drop1.drop1.push (scd_bl _)))
theorem o_neD {n m : Nat} {x y : Sd} {dx dy : D} (s1 : D.Ok n dx) (s2 : D.Ok m dy) (q : Q (.d (.bl (!D.eqv dx dy))) cs) (hx : rdD cs x = some dx := by rfl) (hy : rdD cs y = some dy := by rfl) (hn : n ≤ 64 := by decide) (hm : m ≤ 64 := by decide) : wO W (sNe W.K) x y cs sl st Q := fun H σ vx vy ws R Q' k => by
  obtain ⟨h1, h2⟩ := rd2 R hx hy
  exact ne_core (h1.dp s1.pl) (h2.dp s2.pl) (s1.shaped hn) (s2.shaped hm) (k _ _ _ _ q (R.drop1.drop1.push (scd_bl _)))
/-- equal data -/
theorem o_eqSame {n : Nat} {x y : Sd} {dx : D} (s1 : D.Ok n dx) (q : Q (.d (.bl true)) cs) (hx : rdD cs x = some dx := by rfl) (hy : rdD cs y = some dx := by rfl) (hn : n ≤ 64 := by decide) : wO W (sEq W.K) x y cs sl st Q := o_eqD s1 s1 (by rw [D.eqv_refl s1]; exact q) hx hy hn hn
theorem o_neSame {n : Nat} {x y : Sd} {dx : D} (s1 : D.Ok n dx) (q : Q (.d (.bl false)) cs) (hx : rdD cs x = some dx := by rfl) (hy : rdD cs y = some dx := by rfl) (hn : n ≤ 64 := by decide) : wO W (sNe W.K) x y cs sl st Q := o_neD s1 s1 (by rw [D.eqv_refl s1]; exact q) hx hy hn hn
/-! ### items, lengths -/
theorem ati {xs : List V} {ds : List D} {i : Int} {d : D} {K : PySem.W.Frag} {C : Addr} {av : Addr → Prop} (h : DvAll K C av H xs ds) (hi : atI ds i = some d) : ∃ v, atI xs i = some v ∧ Dv K C av H v d := by
  unfold atI at hi ⊢
  rw [h.len]
  cases q : ixN ds.length i with
  | none => rw [q] at hi; cases hi
  | some j =>
    rw [q] at hi
    obtain ⟨v, h1, h2⟩ := h.get hi
    exact ⟨v, h1, h2⟩
theorem o_ix {x : Sd} {ds : List D} {i : Int} {d : D} (hi : atI ds i = some d) (q : Q (.d d) cs) (h : rdQ cs x = some ds := by rfl) : wO W (sIx W.K) x (.d (.int i)) cs sl st Q := fun H σ vx vy ws R Q' k => by
  obtain rfl := R.int
  obtain ⟨as, R⟩ := R.drop1
  obtain ⟨a, xs, rfl, h1, h2, h3, h4⟩ := R.rq h
  obtain ⟨v, h5, h6⟩ := ati h4 hi
  exact ⟨xs, v, h1, h5, k _ _ _ _ q ⟨as, R.drop1.one h6⟩⟩
theorem o_ixS {a : Str} {i : Int} {c : Nat} (hl : a.length ≤ 1000000) (hi : atI a.cps.toList i = some c) (q : Q (.d (.str ⟨#[c]⟩)) cs) : wO W (sIx W.K) (.d (.str a)) (.d (.int i)) cs sl st Q := fun H σ vx vy ws R Q' k => by
  obtain rfl := R.int
  obtain rfl := R.drop1.str
  exact ⟨c, sz_of hl, hi, k _ _ _ _ q (R.drop1.drop1.push (scd_str _))⟩
theorem o_len {x : Sd} {ds : List D} (q : Q (.d (.int ds.length)) cs) (h : rdQ cs x = some ds := by rfl) : wC W (sLen W.K) [x] cs sl st Q := fun H σ vs ws l R Q' k => by
  match vs, l, R with
  | [v], _, R =>
    obtain ⟨as, R⟩ := R
    obtain ⟨a, xs, rfl, h1, h2, h3, h4⟩ := R.rq h
    refine ⟨xs, h1, ?_⟩
    rw [h2]
    exact k _ _ _ _ q ((Rep.drop1 ⟨as, R⟩).push (scd_int _))
theorem o_lenS {a : Str} (hl : a.length ≤ 1000000) (q : Q (.d (.int a.length)) cs) : wC W (sLen W.K) [.d (.str a)] cs sl st Q := fun H σ vs ws l R Q' k => by
  match vs, l, R with
  | [v], _, R =>
    have R : Rep W H σ (v :: ws) cs sl (.d (.str a) :: st) := R
    obtain rfl := R.str
    exact ⟨sz_of hl, k _ _ _ _ q (R.drop1.push (scd_int _))⟩
/-- list(x) -/
theorem o_list {x : Sd} {ds : List D} {Q : List D → Cs → Prop} (q : Q ds cs) (h : rdQ cs x = some ds := by rfl) : wCN W (sList W.K) [x] cs sl st Q := fun H σ vs ws l R Q' k => by
  match vs, l, R with
  | [v], _, R =>
    have R : Rep W H σ (v :: ws) cs sl (x :: st) := R
    obtain ⟨as, R⟩ := R
    obtain ⟨a, xs, rfl, h1, h2, h3, h4⟩ := R.rq h
    have R2 : Rep W H σ (xs ++ ws) cs sl (ds.map .d ++ st) := ⟨as, R.drop1.all h4⟩
    exact ⟨xs, h1, fun p n => k _ _ _ _ q (new_list R2 h2 h3 n).1 (new_list R2 h2 h3 n).2⟩
/-- tuple(x) -/
def rdL (cs : Cs) : Sd → Option (List D)
  | .d (.ktp _) => none
  | x => rdQ cs x
theorem o_tuple {x : Sd} {ds : List D} (q : Q (.d (.tup ds)) cs) (h : rdL cs x = some ds := by rfl) : wC W (sTuple W.K) [x] cs sl st Q := fun H σ vs ws l R Q' k => by
  match vs, l, R with
  | [v], _, R =>
    have R : Rep W H σ (v :: ws) cs sl (x :: st) := R
    cases x with
    | r => cases h
    | d x => cases x with
      | tup es =>
        cases h
        obtain ⟨as, R⟩ := R
        obtain ⟨a, xs, rfl, h1, h2, h3, h4⟩ := R.seqT
        exact ⟨xs, .inr ⟨h1, k _ _ _ _ q ⟨as, R⟩⟩⟩
      | lst es =>
        cases h
        obtain ⟨as, R⟩ := R
        obtain ⟨a, xs, rfl, h1, h2, h3, h4⟩ := R.seqL
        have R2 : Rep W H σ (xs ++ ws) cs sl (ds.map .d ++ st) := ⟨as, R.drop1.all h4⟩
        exact ⟨xs, .inl ⟨h1, fun p n => k _ _ _ _ q (new_tup R2 h2 h3 n)⟩⟩
      | _ => cases h
    | c j =>
      obtain ⟨as, R⟩ := R
      unfold rdL rdQ at h
      simp only at h
      split at h
      · rename_i es hk
        cases h
        obtain ⟨a, xs, rfl, _, h1, h2, h3, h4⟩ := R.seqC hk
        have R2 : Rep W H σ (xs ++ ws) cs sl (ds.map .d ++ st) := ⟨as, R.drop1.all h4⟩
        exact ⟨xs, .inl ⟨.inl (.inl h1), fun p n => k _ _ _ _ q (new_tup R2 h2 h3 n)⟩⟩
      · cases h
theorem RepA.rl {as : List Addr} {v : V} {x : Sd} {ds : List D} (R : RepA W as H σ (v :: ws) cs sl (x :: st)) (h : rdD cs x = some (.lst ds)) : ∃ a xs, v = .ref a ∧ H a = some (.lst xs) ∧ DvAll W.K W.C (fun _ => False) H xs ds := by
  have := R.rd h
  cases this with
  | lst h1 h2 h3 h4 => exact ⟨_, _, rfl, h1, h4⟩
theorem o_all {x : Sd} {bs : List Bool} (q : Q (.d (.bl (bs.all id))) cs) (h : rdD cs x = some (.lst (bs.map .bl)) := by rfl) : wC W (sAll W.K) [x] cs sl st Q := fun H σ vs ws l R Q' k => by
  match vs, l, R with
  | [v], _, R =>
    have R : Rep W H σ (v :: ws) cs sl (x :: st) := R
    obtain ⟨as, R1⟩ := R
    obtain ⟨a, xs, rfl, h1, h4⟩ := R1.rl h
    have := h4.bls
    subst this
    exact ⟨a, bs, rfl, .inl (.inl h1), k _ _ _ _ q ((Rep.drop1 ⟨as, R1⟩).push (scd_bl _))⟩
theorem o_sum {x : Sd} {ns : List Int} (q : Q (.d (.int ns.sum)) cs) (h : rdD cs x = some (.lst (ns.map .int)) := by rfl) : wC W (sSum W.K) [x] cs sl st Q := fun H σ vs ws l R Q' k => by
  match vs, l, R with
  | [v], _, R =>
    have R : Rep W H σ (v :: ws) cs sl (x :: st) := R
    obtain ⟨as, R1⟩ := R
    obtain ⟨a, xs, rfl, h1, h4⟩ := R1.rl h
    have := h4.ints
    subst this
    exact ⟨a, ns, rfl, .inl (.inl h1), k _ _ _ _ q ((Rep.drop1 ⟨as, R1⟩).push (scd_int _))⟩
theorem o_sc1 {r : List V → Hp → VK → Prop} {v u : V} {d e : D} (hv : ∀ K C av H w, Dv K C av H w d → w = v) (hs : ScD u e) (h : ∀ H (Q' : VK), Q' u H → r [v] H Q') (q : Q (.d e) cs) : wC W r [.d d] cs sl st Q := fun H σ vs ws l R Q' k => by
  match vs, l, R with
  | [w], _, R =>
    have R : Rep W H σ (w :: ws) cs sl (.d d :: st) := R
    obtain rfl : w = v := by
      obtain ⟨as, R⟩ := R
      exact hv _ _ _ _ _ R.st.1
    exact h H Q' (k _ _ _ _ q (R.drop1.push hs))
theorem hv_int {i : Int} : ∀ K C av H w, Dv K C av H w (.int i) → w = .int i := fun _ _ _ _ _ h => by cases h; rfl
theorem hv_bl {i : Bool} : ∀ K C av H w, Dv K C av H w (.bl i) → w = .bl i := fun _ _ _ _ _ h => by cases h; rfl
theorem hv_str {i : Str} : ∀ K C av H w, Dv K C av H w (.str i) → w = .str i := fun _ _ _ _ _ h => by cases h; rfl
section
variable {K : PySem.W.Frag} {i : Int} {a : Str}
theorem o_intI (q : Q (.d (.int i)) cs) : wC W (sInt K) [.d (.int i)] cs sl st Q := o_sc1 hv_int (scd_int _) (fun _ _ h => h) q
theorem o_intB {b : Bool} (q : Q (.d (.int (if b then 1 else 0))) cs) : wC W (sInt K) [.d (.bl b)] cs sl st Q := o_sc1 hv_bl (scd_int _) (fun _ _ h => h) q
theorem o_intS {n : Int} (h1 : PySem.intText? a = some n) (h2 : a.length ≤ 640) (q : Q (.d (.int n)) cs) : wC W (sInt K) [.d (.str a)] cs sl st Q := o_sc1 hv_str (scd_int _) (fun _ _ h => ⟨n, h1, h2, h⟩) q
theorem o_strS (q : Q (.d (.str a)) cs) : wC W (sStr K) [.d (.str a)] cs sl st Q := o_sc1 hv_str (scd_str _) (fun _ _ h => h) q
theorem o_strI (h1 : i.natAbs.log2 < 1920) (q : Q (.d (.str (toString i))) cs) : wC W (sStr K) [.d (.int i)] cs sl st Q := o_sc1 hv_int (scd_str _) (fun _ _ h => ⟨h1, h⟩) q
theorem o_abs (q : Q (.d (.int (if i < 0 then -i else i))) cs) : wC W (sAbs K) [.d (.int i)] cs sl st Q := o_sc1 hv_int (scd_int _) (fun _ _ h => h) q
end
/-! ### joined, repeated, cut -/
theorem DvAll.flat {K : PySem.W.Frag} {C : Addr} {av : Addr → Prop} {vs : List V} {ds : List D} (h : DvAll K C av H vs ds) : ∀ n, DvAll K C av H (List.replicate n vs).flatten (List.replicate n ds).flatten
  | 0 => .nil
  | n + 1 => by
    rw [List.replicate_succ, List.replicate_succ, List.flatten_cons, List.flatten_cons]
    exact h.app (DvAll.flat h n)
theorem flat_len {α : Type} (xs : List α) (n : Nat) : (List.replicate n xs).flatten.length = n * xs.length := by
  simp [List.length_flatten]
theorem o_mulT {ds : List D} {i : Int} (h0 : ds ≠ []) (h2 : -1000 ≤ i ∧ i ≤ 1000) (h3 : ds.length ≤ 800) (q : Q (.d (.tup (List.replicate i.toNat ds).flatten)) cs) : wO W (sMul W.K) (.d (.tup ds)) (.d (.int i)) cs sl st Q := fun H σ vx vy ws R Q' k => by
  obtain rfl := R.int
  obtain ⟨as, R1⟩ := R.drop1
  obtain ⟨a, xs, rfl, h1, hl, hn, h4⟩ := R1.seqT
  have hx : xs ≠ [] := fun e => h0 (List.eq_nil_of_length_eq_zero (by rw [← hl, e]; rfl))
  refine z_mulTup h1 hx h2 (by omega) (fun e => ?_) fun _ p n => ?_
  · refine k _ _ _ _ q ?_
    have e1 : (List.replicate i.toNat ds).flatten = ds := by
      rw [e]
      show (List.replicate 1 ds).flatten = ds
      simp
    rw [e1]
    exact ⟨as, R1⟩
  · have hm : i.toNat * ds.length ≤ 1000 * 800 := Nat.mul_le_mul (by omega) h3
    exact k _ _ _ _ q (new_tup ⟨as, R1.drop1.all (h4.flat i.toNat)⟩ (by rw [flat_len, flat_len, hl]) (by rw [flat_len]; omega) n)
theorem RepA.rlA {as : List Addr} {v : V} {x : Sd} {ds : List D} (R : RepA W as H σ (v :: ws) cs sl (x :: st)) (h : rdD cs x = some (.lst ds)) : ∃ a xs, v = .ref a ∧ H a = some (.lst xs) ∧ xs.length = ds.length ∧ ds.length ≤ 900000 ∧ DvAll W.K W.C (Av W as cs) H xs ds := by
  cases x with
  | d x => cases x with
    | lst es =>
      cases h
      have h := R.st.1
      cases h with
      | lst h1 h2 h3 h4 => exact ⟨_, _, rfl, h1, h4.len, by rw [← h4.len]; exact h3, h4⟩
    | _ => cases h
  | r => cases h
  | c k =>
    unfold rdD at h
    simp only at h
    split at h
    · rename_i ds hk
      cases h
      obtain ⟨a, xs, rfl, _, h1, h2, h3, h4⟩ := R.seqC hk
      exact ⟨a, xs, rfl, h1, h2, h3, h4⟩
    · cases h
/-- [x] * n, a list -/
theorem o_mulLst {x : Sd} {ds : List D} {i : Int} {Q : List D → Cs → Prop} (h2 : 0 ≤ i ∧ i < 2 ^ 62) (h3 : i.toNat * ds.length ≤ 900000) (q : Q (List.replicate i.toNat ds).flatten cs) (h : rdD cs x = some (.lst ds) := by rfl) : wON W (sMul W.K) x (.d (.int i)) cs sl st Q := fun H σ vx vy ws R Q' k => by
  obtain rfl := R.int
  obtain ⟨as, R1⟩ := R.drop1
  obtain ⟨a, xs, rfl, h1, hl, hn, h4⟩ := R1.rlA h
  refine z_mulLst h1 h2 (by rw [hl, Nat.mul_comm]; omega) fun p n => ?_
  have R2 := new_list (p := p) (H := H) (W := W) (ds := (List.replicate i.toNat ds).flatten) ⟨as, R1.drop1.all (h4.flat i.toNat)⟩ (by rw [flat_len, flat_len, hl]) (by rw [flat_len]; exact h3) n
  exact k _ _ _ _ q R2.1 R2.2
/-- a list and a list -/
theorem o_addL {x y : Sd} {xs ys : List D} {Q : List D → Cs → Prop} (h3 : xs.length + ys.length ≤ 900000) (q : Q (xs ++ ys) cs) (hx : rdD cs x = some (.lst xs) := by rfl) (hy : rdD cs y = some (.lst ys) := by rfl) : wON W (sAdd W.K) x y cs sl st Q := fun H σ vx vy ws R Q' k => by
  obtain ⟨as, R⟩ := R
  obtain ⟨b, vb, rfl, h1, hl, hn, h4⟩ := R.rlA hy
  obtain ⟨a, va, rfl, g1, gl, gn, g4⟩ := R.drop1.rlA hx
  refine z_addL g1 h1 (sz_of (by omega)) fun p n => ?_
  have R2 := new_list (p := p) (H := H) (W := W) (ds := xs ++ ys) ⟨as, R.drop1.drop1.all (g4.app h4)⟩ (by rw [List.length_append, List.length_append, hl, gl]) (by rw [List.length_append]; omega) n
  exact k _ _ _ _ q R2.1 R2.2
theorem o_addT {xs ys : List D} (h3 : xs.length + ys.length ≤ 900000) (q : Q (.d (.tup (xs ++ ys))) cs) : wO W (sAdd W.K) (.d (.tup xs)) (.d (.tup ys)) cs sl st Q := fun H σ vx vy ws R Q' k => by
  obtain ⟨as, R⟩ := R
  obtain ⟨b, vb, rfl, h1, hl, hn, h4⟩ := R.seqT
  obtain ⟨a, va, rfl, g1, gl, gn, g4⟩ := R.drop1.seqT
  refine z_addT g1 h1 (by omega) (fun e => ?_) (fun _ e => ?_) fun _ _ p n => ?_
  · have : xs = [] := List.eq_nil_of_length_eq_zero (by rw [← gl, e]; rfl)
    subst this
    exact k _ _ _ _ q ⟨as, R.st' ⟨R.st.1, R.st.2.2⟩⟩
  · have : ys = [] := List.eq_nil_of_length_eq_zero (by rw [← hl, e]; rfl)
    subst this
    rw [List.append_nil] at q
    exact k _ _ _ _ q ⟨as, R.drop1⟩
  · exact k _ _ _ _ q (new_tup ⟨as, R.drop1.drop1.all (g4.app h4)⟩ (by rw [List.length_append, List.length_append, hl, gl]) (by rw [List.length_append]; omega) n)
end
end R

/-! # W4: loops, comprehensions, changed lists -/
namespace R
open PySem PySem.Spec PyProof.Rows L2 L2H LamX
structure DIt (W : Wo) (J : It) (vs : List V) (sds : List Sd) (okc : Cs → Prop) (items : List D) : Prop where
  goes : ∀ (i : Nat) (H : Hp) (σ : L2.St) (ws : List V) (cs : Cs) (sl : Sl) (st : List Sd), Rep W H σ (vs ++ ws) cs sl (sds ++ st) → okc cs → i < items.length → J.go i H
  stops : ∀ (H : Hp) (σ : L2.St) (ws : List V) (cs : Cs) (sl : Sl) (st : List Sd), Rep W H σ (vs ++ ws) cs sl (sds ++ st) → okc cs → J.stop items.length H
  yld : ∀ (i : Nat) (H : Hp) (x : V) (H' : Hp) (σ : L2.St) (ws : List V) (cs : Cs) (sl : Sl) (st : List Sd), Rep W H σ (vs ++ ws) cs sl (sds ++ st) → okc cs → i < items.length → J.yld i H x H' → ∃ d, items[i]? = some d ∧ Rep W H' σ (x :: (vs ++ ws)) cs sl (.d d :: (sds ++ st))
def wI (W : Wo) (wi : TI) (cs : Cs) (sl : Sl) (st : List Sd) (Q : List D → (Cs → Prop) → Cs → Prop) : Prop := ∀ (H : Hp) (σ : L2.St) (ws : List V), Rep W H σ ws cs sl st → ∀ R' : It → Hp → Prop,
  (∀ items okc cs' J H' vs sds, Q items okc cs' → okc cs' → items.length ≤ 900000 → vs.length = sds.length → Rep W H' σ (vs ++ ws) cs' sl (sds ++ st) → DIt W J vs sds okc items → R' J H') → wi σ H R'
abbrev anyc : Cs → Prop := fun _ => True
/-- what a for walks, as data -/
def ItD (cs : Cs) : Sd → (List D → (Cs → Prop) → Prop) → Prop
  | .d (.lst ds), k => k ds anyc
  | .d (.tup ds), k => k ds anyc
  | .d (.ktp ts), k => k (ts.map dn) anyc
  | .d (.str z), k => z.cps.size ≤ 900000 ∧ k (z.cps.toList.map fun c => .str ⟨#[c]⟩) anyc
  | .c i, k => ∃ ds, cs[i]? = some (some (.lst ds)) ∧ k ds fun cs => cs[i]? = some (some (.lst ds))
  | _, _ => False
section
variable {W : Wo} {cs : Cs} {sl : Sl} {st : List Sd} {H : Hp} {σ : L2.St} {ws : List V} {QI : List D → (Cs → Prop) → Cs → Prop}
theorem dit_seq {a : Addr} {sd : Sd} {ds : List D} {okc : Cs → Prop} {J : It} {S : Hp → List V → Prop} (hr : ∀ cs, okc cs → rdQ cs sd = some ds)
    (hS : ∀ (as : List Addr) (H : Hp) (σ : L2.St) (ws : List V) (cs : Cs) (sl : Sl) (st : List Sd), RepA W as H σ (V.ref a :: ws) cs sl (sd :: st) → okc cs → ∃ xs, S H xs ∧ xs.length = ds.length ∧ DvAll W.K W.C (Av W as cs) H xs ds)
    (hw : ∀ xs, Walk J xs.length (fun H => S H xs) (YAt xs)) : DIt W J [.ref a] [sd] okc ds := by
  refine ⟨fun i H σ ws cs sl st R ok hi => ?_, fun H σ ws cs sl st R ok => ?_, fun i H x H' σ ws cs sl st R ok hi hy => ?_⟩
  · obtain ⟨as, R⟩ := R
    obtain ⟨xs, h1, h2, h3⟩ := hS as H σ ws cs sl st R ok
    exact (hw xs).goes i H (by omega) h1
  · obtain ⟨as, R⟩ := R
    obtain ⟨xs, h1, h2, h3⟩ := hS as H σ ws cs sl st R ok
    have := (hw xs).stops H h1
    rwa [h2] at this
  · obtain ⟨as, R⟩ := R
    obtain ⟨xs, h1, h2, h3⟩ := hS as H σ ws cs sl st R ok
    obtain ⟨rfl, hx⟩ := (hw xs).yields i H x H' (by omega) h1 hy
    obtain ⟨d, h4, h5⟩ := h3.getV hx
    exact ⟨d, h4, as, R.one h5⟩
theorem w_iS {te : TE} (q : wE W te cs sl st fun x cs1 => ItD cs1 x fun items okc => QI items okc cs1) : wI W (iS W.K te) cs sl st QI := fun H σ ws R R' k => q H σ ws R _ fun x cs1 v H1 h1 R1 => by
  show rS W.K v H1 R'
  cases x with
  | r => exact h1.elim
  | c j =>
    obtain ⟨ds, hk, h⟩ := h1
    obtain ⟨as, R1⟩ := R1
    obtain ⟨a, xs, rfl, ha, h2, h3, h4, h5⟩ := R1.seqC hk
    refine z_sL (.inl (.inl h2)) (k ds _ cs1 _ H1 [.ref a] [.c j] h hk (by omega) rfl ⟨as, R1⟩ (dit_seq (S := fun H xs => SqL W.K H a xs) (fun cs hc => by unfold rdQ; simp only [hc]) (fun as H σ ws cs sl st R ok => ?_) fun xs => walk_list))
    obtain ⟨a', xs, e, _, h2, h3, h4, h5⟩ := R.seqC ok
    cases e
    exact ⟨xs, .inl (.inl h2), h3, h5⟩
  | d x => cases x with
    | lst ds =>
      obtain ⟨as, R1⟩ := R1
      obtain ⟨a, xs, rfl, h2, h3, h4, h5⟩ := R1.seqL
      refine z_sL h2 (k ds anyc cs1 _ H1 [.ref a] [.d (.lst ds)] h1 trivial (by omega) rfl ⟨as, R1⟩ (dit_seq (S := fun H xs => SqL W.K H a xs) (fun cs hc => rfl) (fun as H σ ws cs sl st R ok => ?_) fun xs => walk_list))
      obtain ⟨a', xs, e, h2, h3, h4, h5⟩ := R.seqL
      cases e
      exact ⟨xs, h2, h3, h5⟩
    | tup ds =>
      obtain ⟨as, R1⟩ := R1
      obtain ⟨a, xs, rfl, h2, h3, h4, h5⟩ := R1.seqT
      refine z_sT h2 (k ds anyc cs1 _ H1 [.ref a] [.d (.tup ds)] h1 trivial (by omega) rfl ⟨as, R1⟩ (dit_seq (S := fun H xs => SqT W.K H a xs) (fun cs hc => rfl) (fun as H σ ws cs sl st R ok => ?_) fun xs => walk_tup))
      obtain ⟨a', xs, e, h2, h3, h4, h5⟩ := R.seqT
      cases e
      exact ⟨xs, h2, h3, h5⟩
    | ktp ts =>
      obtain ⟨as, R1⟩ := R1
      obtain ⟨a, rfl, h2, h3, h4, h5⟩ := R1.seqK
      refine z_sT h2 (k _ anyc cs1 _ H1 [.ref a] [.d (.ktp ts)] h1 trivial h4 rfl ⟨as, R1⟩ (dit_seq (S := fun H xs => SqT W.K H a xs) (fun cs hc => rfl) (fun as H σ ws cs sl st R ok => ?_) fun xs => walk_tup))
      obtain ⟨a', e, h2, h3, h4, h5⟩ := R.seqK
      cases e
      exact ⟨_, h2, h3, h5⟩
    | str z =>
      obtain ⟨hl, h1⟩ := h1
      obtain rfl := R1.str
      refine z_sS (k _ anyc cs1 (Its z) H1 [.str z] [.d (.str z)] h1 trivial (by simpa using hl) rfl R1 ?_)
      have e : (z.cps.toList.map fun c => D.str ⟨#[c]⟩).length = z.cps.size := by simp
      refine ⟨fun i H σ ws cs sl st R ok hi => ?_, fun H σ ws cs sl st R ok => ?_, fun i H x H' σ ws cs sl st R ok hi hy => ?_⟩
      · rw [e] at hi
        exact (walk_str (z := z)).goes i H hi trivial
      · rw [e]
        exact (walk_str (z := z)).stops H trivial
      · rw [e] at hi
        obtain ⟨rfl, c, hc, rfl⟩ := (walk_str (z := z)).yields i H x H' hi trivial hy
        refine ⟨.str ⟨#[c]⟩, ?_, R.push (scd_str _)⟩
        rw [List.getElem?_map, Array.getElem?_toList, hc]
        rfl
    | _ => exact h1.elim
def R1K (k : Int → Prop) : List Sd → Prop
  | [.d (.int j)] => k j
  | _ => False
def R2K (k : Int → Int → Prop) : List Sd → Prop
  | [.d (.int i), .d (.int j)] => k i j
  | _ => False
theorem r1k {k : Int → Prop} {j : Int} (h : k j) : R1K k [.d (.int j)] := h
theorem r2k {k : Int → Int → Prop} {i j : Int} (h : k i j) : R2K k [.d (.int i), .d (.int j)] := h
theorem dit_range {lo : Int} {n : Nat} : DIt W (Itr lo n) [] [] anyc ((List.range n).map fun i : Nat => D.int (lo + i)) := by
  have e : ((List.range n).map fun i : Nat => D.int (lo + i)).length = n := by simp
  refine ⟨fun i H σ ws cs sl st R ok hi => ?_, fun H σ ws cs sl st R ok => ?_, fun i H x H' σ ws cs sl st R ok hi hy => ?_⟩
  · rw [e] at hi
    exact (walk_range (lo := lo) (n := n)).goes i H hi trivial
  · rw [e]
    exact (walk_range (lo := lo) (n := n)).stops H trivial
  · rw [e] at hi
    obtain ⟨rfl, rfl⟩ := (walk_range (lo := lo) (n := n)).yields i H x H' hi trivial hy
    exact ⟨.int (lo + i), by rw [List.getElem?_map, List.getElem?_range hi]; rfl, R.push (scd_int _)⟩
def Rg (lo hi : Int) (P : Prop) : Prop := -(2 ^ 62) ≤ lo ∧ lo < 2 ^ 62 ∧ -(2 ^ 62) ≤ hi ∧ hi < 2 ^ 62 ∧ hi - lo ≤ 900000 ∧ P
theorem rg {lo hi : Int} {P : Prop} (h : -(2 ^ 62) ≤ lo ∧ lo < 2 ^ 62 ∧ -(2 ^ 62) ≤ hi ∧ hi < 2 ^ 62 ∧ hi - lo ≤ 900000) (q : P) : Rg lo hi P := ⟨h.1, h.2.1, h.2.2.1, h.2.2.2.1, h.2.2.2.2, q⟩
theorem w_r1 {t : TA} (q : wA W t cs sl st fun xs cs1 => R1K (fun j => Rg 0 j (QI ((List.range j.toNat).map fun i : Nat => D.int i) anyc cs1)) xs) : wI W (iRng1 t) cs sl st QI := fun H σ ws R R' k => q H σ ws R _ fun xs cs1 vs H1 h1 l R1 => by
  match xs, vs, l, h1, R1 with
  | [.d (.int j)], [v], _, h1, R1 =>
    have R1 : Rep W H1 σ (v :: ws) cs1 sl (.d (.int j) :: st) := R1
    obtain rfl := R1.int
    obtain ⟨_, _, b1, b2, b3, h1⟩ := h1
    refine ⟨j, rfl, b1, b2, ?_⟩
    have e : ((List.range j.toNat).map fun i : Nat => D.int i) = (List.range j.toNat).map fun i : Nat => D.int (0 + i) := by simp
    exact k _ anyc cs1 _ H1 [] [] h1 trivial (by rw [List.length_map, List.length_range]; omega) rfl R1.drop1 (by rw [e]; exact dit_range)
theorem w_r2 {t : TA} (q : wA W t cs sl st fun xs cs1 => R2K (fun i j => Rg i j (QI ((List.range (j - i).toNat).map fun k : Nat => D.int (i + k)) anyc cs1)) xs) : wI W (iRng2 t) cs sl st QI := fun H σ ws R R' k => q H σ ws R _ fun xs cs1 vs H1 h1 l R1 => by
  match xs, vs, l, h1, R1 with
  | [.d (.int i), .d (.int j)], [u, v], _, h1, R1 =>
    have R1 : Rep W H1 σ (u :: v :: ws) cs1 sl (.d (.int i) :: .d (.int j) :: st) := R1
    obtain rfl := R1.int
    obtain rfl := R1.drop1.int
    obtain ⟨a1, a2, b1, b2, b3, h1⟩ := h1
    exact ⟨i, j, rfl, ⟨a1, a2, b1, b2⟩, k _ anyc cs1 _ H1 [] [] h1 trivial (by rw [List.length_map, List.length_range]; omega) rfl R1.drop1.drop1 dit_range⟩
/-- enumerate, zip -/
def enumD (ds : List D) : List D := ds.zipIdx.map fun p => .tup [.int (p.2 : Nat), p.1]
theorem enumD_at {ds : List D} {i : Nat} : (enumD ds)[i]? = ds[i]?.map fun d => .tup [.int (i : Nat), d] := by
  unfold enumD
  rw [List.getElem?_map, List.getElem?_zipIdx]
  cases ds[i]? <;> simp
theorem enumD_len {ds : List D} : (enumD ds).length = ds.length := by simp [enumD]
def zipD (xs ys : List D) : List D := List.zipWith (fun a b => .tup [a, b]) xs ys
def E1K (k : List D → Prop) : List Sd → Prop
  | [.d (.lst ds)] => k ds
  | [.d (.tup ds)] => k ds
  | [.d (.ktp ts)] => k (ts.map dn)
  | [.d (.str z)] => z.cps.size ≤ 900000 ∧ k (z.cps.toList.map fun c => .str ⟨#[c]⟩)
  | _ => False
theorem e1k {k : List D → Prop} {ds : List D} (h : k ds) : E1K k [.d (.lst ds)] := h
theorem e1kt {k : List D → Prop} {ds : List D} (h : k ds) : E1K k [.d (.tup ds)] := h
theorem pair_new {a b : V} {x y : D} {T : Addr} {as : List Addr} (R : RepA W as H σ ws cs sl st) (n : H T = none) (h1 : Dv W.K W.C (Av W as cs) H a x) (h2 : Dv W.K W.C (Av W as cs) H b y) : Rep W (upd H T (.tup [a, b])) σ (.ref T :: ws) cs sl (.d (.tup [x, y]) :: st) :=
  new_tup (vs := [a, b]) (ds := [x, y]) ⟨as, R.all (.cons h1 (.cons h2 .nil))⟩ rfl (Nat.le_of_ble_eq_true rfl) n
theorem w_enum {t : TA} (q : wA W t cs sl st fun xs cs1 => E1K (fun ds => QI (enumD ds) anyc cs1) xs) : wI W (iEnumA W.K t) cs sl st QI := fun H σ ws R R' k => q H σ ws R _ fun xs cs1 vs H1 h1 l R1 => by
  match xs, vs, l, h1, R1 with
  | [.d (.lst ds)], [v], _, h1, R1 =>
    obtain ⟨as, R1⟩ := R1
    obtain ⟨a, xs, rfl, h2, h3, h4, h5⟩ := RepA.seqL (ws := ws) (st := st) R1
    refine .inl ⟨a, xs, rfl, h2, k _ anyc cs1 _ H1 [.ref a] [.d (.lst ds)] h1 trivial (by rw [enumD_len]; exact h4) rfl ⟨as, R1⟩ ⟨fun i H σ ws cs sl st R ok hi => ?_, fun H σ ws cs sl st R ok => ?_, fun i H x H' σ ws cs sl st R ok hi hy => ?_⟩⟩
    · obtain ⟨as, R⟩ := R
      obtain ⟨a', xs, e, h2, h3, h4, h5⟩ := RepA.seqL (ws := ws) (st := st) R
      cases e
      rw [enumD_len] at hi
      exact (walk_enum (xs := xs)).goes i H (by omega) h2
    · obtain ⟨as, R⟩ := R
      obtain ⟨a', xs, e, h2, h3, h4, h5⟩ := RepA.seqL (ws := ws) (st := st) R
      cases e
      rw [enumD_len, ← h3]
      exact (walk_enum (xs := xs)).stops H h2
    · obtain ⟨as, R⟩ := R
      obtain ⟨a', xs, e, h2, h3, h4, h5⟩ := RepA.seqL (ws := ws) (st := st) R
      cases e
      rw [enumD_len] at hi
      obtain ⟨T, u, w, rfl, hT, rfl, hu, hw⟩ := (walk_enum (xs := xs)).yields i H x H' (by omega) h2 hy
      cases hu
      obtain ⟨d, h6, h7⟩ := h5.getV hw
      exact ⟨_, by rw [enumD_at, h6]; rfl, pair_new R hT (.int _) h7⟩
  | [.d (.tup ds)], [v], _, h1, R1 =>
    obtain ⟨as, R1⟩ := R1
    obtain ⟨a, xs, rfl, h2, h3, h4, h5⟩ := RepA.seqT (ws := ws) (st := st) R1
    refine .inr (.inl ⟨a, xs, rfl, h2, k _ anyc cs1 _ H1 [.ref a] [.d (.tup ds)] h1 trivial (by rw [enumD_len]; exact h4) rfl ⟨as, R1⟩ ⟨fun i H σ ws cs sl st R ok hi => ?_, fun H σ ws cs sl st R ok => ?_, fun i H x H' σ ws cs sl st R ok hi hy => ?_⟩⟩)
    · obtain ⟨as, R⟩ := R
      obtain ⟨a', xs, e, h2, h3, h4, h5⟩ := RepA.seqT (ws := ws) (st := st) R
      cases e
      rw [enumD_len] at hi
      exact (walk_enumT (xs := xs)).goes i H (by omega) h2
    · obtain ⟨as, R⟩ := R
      obtain ⟨a', xs, e, h2, h3, h4, h5⟩ := RepA.seqT (ws := ws) (st := st) R
      cases e
      rw [enumD_len, ← h3]
      exact (walk_enumT (xs := xs)).stops H h2
    · obtain ⟨as, R⟩ := R
      obtain ⟨a', xs, e, h2, h3, h4, h5⟩ := RepA.seqT (ws := ws) (st := st) R
      cases e
      rw [enumD_len] at hi
      obtain ⟨T, u, w, rfl, hT, rfl, hu, hw⟩ := (walk_enumT (xs := xs)).yields i H x H' (by omega) h2 hy
      cases hu
      obtain ⟨d, h6, h7⟩ := h5.getV hw
      exact ⟨_, by rw [enumD_at, h6]; rfl, pair_new R hT (.int _) h7⟩
  | [.d (.ktp ts)], [v], _, h1, R1 =>
    obtain ⟨as, R1⟩ := R1
    obtain ⟨a, rfl, h2, h3, h4, h5⟩ := RepA.seqK (ws := ws) (st := st) R1
    refine .inr (.inl ⟨a, _, rfl, h2, k _ anyc cs1 _ H1 [.ref a] [.d (.ktp ts)] h1 trivial (by rw [enumD_len]; exact h4) rfl ⟨as, R1⟩ ⟨fun i H σ ws cs sl st R ok hi => ?_, fun H σ ws cs sl st R ok => ?_, fun i H x H' σ ws cs sl st R ok hi hy => ?_⟩⟩)
    · obtain ⟨as, R⟩ := R
      obtain ⟨a', e, h2, h3, h4, h5⟩ := RepA.seqK (ws := ws) (st := st) R
      cases e
      rw [enumD_len] at hi
      exact (walk_enumT (xs := ts.map vN)).goes i H (by omega) h2
    · obtain ⟨as, R⟩ := R
      obtain ⟨a', e, h2, h3, h4, h5⟩ := RepA.seqK (ws := ws) (st := st) R
      cases e
      rw [enumD_len, ← h3]
      exact (walk_enumT (xs := ts.map vN)).stops H h2
    · obtain ⟨as, R⟩ := R
      obtain ⟨a', e, h2, h3, h4, h5⟩ := RepA.seqK (ws := ws) (st := st) R
      cases e
      rw [enumD_len] at hi
      obtain ⟨T, u, w, rfl, hT, rfl, hu, hw⟩ := (walk_enumT (xs := ts.map vN)).yields i H x H' (by omega) h2 hy
      cases hu
      obtain ⟨d, h6, h7⟩ := h5.getV hw
      exact ⟨_, by rw [enumD_at, h6]; rfl, pair_new R hT (.int _) h7⟩
  | [.d (.str z)], [v], _, ⟨hz, h1⟩, R1 =>
    have R1 : Rep W H1 σ (v :: ws) cs1 sl (.d (.str z) :: st) := R1
    obtain rfl := R1.str
    refine .inr (.inr ⟨z, rfl, k _ anyc cs1 _ H1 [] [] h1 trivial (by rw [enumD_len, List.length_map, Array.length_toList]; exact hz) rfl R1.drop1 ⟨fun i H σ ws cs sl st R ok hi => ?_, fun H σ ws cs sl st R ok => ?_, fun i H x H' σ ws cs sl st R ok hi hy => ?_⟩⟩)
    · rw [enumD_len, List.length_map, Array.length_toList] at hi
      exact (walk_enumS (x := z)).goes i H hi trivial
    · rw [enumD_len, List.length_map, Array.length_toList]
      exact (walk_enumS (x := z)).stops H trivial
    · obtain ⟨as, R⟩ := R
      rw [enumD_len, List.length_map, Array.length_toList] at hi
      obtain ⟨T, u, w, rfl, hT, rfl, hu, hw⟩ := (walk_enumS (x := z)).yields i H x H' hi trivial hy
      cases hu
      obtain ⟨c, hc, rfl⟩ := Option.map_eq_some_iff.mp hw
      exact ⟨_, by rw [enumD_at, List.getElem?_map, Array.getElem?_toList, hc]; rfl, pair_new R hT (.int _) (.str _)⟩
def Z2K (k : List D → List D → Prop) : List Sd → Prop
  | [.d (.lst xs), .d (.lst ys)] => k xs ys
  | [.d (.tup xs), .d (.tup ys)] => k xs ys
  | [.d (.ktp xs), .d (.ktp ys)] => k (xs.map dn) (ys.map dn)
  | _ => False
theorem z2k {k : List D → List D → Prop} {xs ys : List D} (h : k xs ys) : Z2K k [.d (.lst xs), .d (.lst ys)] := h
theorem z2kt {k : List D → List D → Prop} {xs ys : List D} (h : k xs ys) : Z2K k [.d (.tup xs), .d (.tup ys)] := h
theorem z2kk {k : List D → List D → Prop} {xs ys : List Nat} (h : k (xs.map dn) (ys.map dn)) : Z2K k [.d (.ktp xs), .d (.ktp ys)] := h
theorem e1kk {k : List D → Prop} {ts : List Nat} (h : k (ts.map dn)) : E1K k [.d (.ktp ts)] := h
theorem zipD_at {xs ys : List D} {i : Nat} {x y : D} (h1 : xs[i]? = some x) (h2 : ys[i]? = some y) : (zipD xs ys)[i]? = some (.tup [x, y]) := by
  unfold zipD
  rw [List.getElem?_zipWith, h1, h2]
theorem zipD_len {xs ys : List D} : (zipD xs ys).length = min xs.length ys.length := by simp [zipD]
theorem w_zip {t : TA} (q : wA W t cs sl st fun xs cs1 => Z2K (fun xs ys => QI (zipD xs ys) anyc cs1) xs) : wI W (RZ.iZipA W.K t) cs sl st QI := fun H σ ws R R' k => q H σ ws R _ fun xs cs1 vs H1 h1 l R1 => by
  show rZip W.K vs H1 R'
  match xs, vs, l, h1, R1 with
  | [.d (.lst xs), .d (.lst ys)], [u, v], _, h1, R1 =>
    obtain ⟨as, R1⟩ := R1
    obtain ⟨a, us, rfl, h2, h3, h4, h5⟩ := RepA.seqL (ws := v :: ws) (st := .d (.lst ys) :: st) R1
    obtain ⟨b, vs, rfl, g2, g3, g4, g5⟩ := RepA.seqL (ws := ws) (st := st) (RepA.drop1 (ws := v :: ws) (st := .d (.lst ys) :: st) R1)
    refine z_zipL h2 g2 (k _ anyc cs1 _ H1 [.ref a, .ref b] [.d (.lst xs), .d (.lst ys)] h1 trivial (by rw [zipD_len]; omega) rfl ⟨as, R1⟩ ⟨fun i H σ ws cs sl st R ok hi => ?_, fun H σ ws cs sl st R ok => ?_, fun i H x H' σ ws cs sl st R ok hi hy => ?_⟩)
    · obtain ⟨as, R⟩ := R
      obtain ⟨a', us, e, h2, h3, h4, h5⟩ := RepA.seqL (ws := .ref b :: ws) (st := .d (.lst ys) :: st) R
      cases e
      obtain ⟨b', vs, e, g2, g3, g4, g5⟩ := RepA.seqL (ws := ws) (st := st) (RepA.drop1 (ws := .ref b :: ws) (st := .d (.lst ys) :: st) R)
      cases e
      rw [zipD_len] at hi
      exact (walk_zip (xs := us) (ys := vs) rfl).goes i H (by omega) ⟨h2, g2⟩
    · obtain ⟨as, R⟩ := R
      obtain ⟨a', us, e, h2, h3, h4, h5⟩ := RepA.seqL (ws := .ref b :: ws) (st := .d (.lst ys) :: st) R
      cases e
      obtain ⟨b', vs, e, g2, g3, g4, g5⟩ := RepA.seqL (ws := ws) (st := st) (RepA.drop1 (ws := .ref b :: ws) (st := .d (.lst ys) :: st) R)
      cases e
      rw [zipD_len, ← h3, ← g3]
      exact (walk_zip (xs := us) (ys := vs) rfl).stops H ⟨h2, g2⟩
    · obtain ⟨as, R⟩ := R
      obtain ⟨a', us, e, h2, h3, h4, h5⟩ := RepA.seqL (ws := .ref b :: ws) (st := .d (.lst ys) :: st) R
      cases e
      obtain ⟨b', vs, e, g2, g3, g4, g5⟩ := RepA.seqL (ws := ws) (st := st) (RepA.drop1 (ws := .ref b :: ws) (st := .d (.lst ys) :: st) R)
      cases e
      rw [zipD_len] at hi
      obtain ⟨T, u, w, rfl, hT, rfl, hu, hw⟩ := (walk_zip (xs := us) (ys := vs) rfl).yields i H x H' (by omega) ⟨h2, g2⟩ hy
      obtain ⟨d, h6, h7⟩ := h5.getV hu
      obtain ⟨e, h8, h9⟩ := g5.getV hw
      exact ⟨_, zipD_at h6 h8, pair_new R hT h7 h9⟩
  | [.d (.tup xs), .d (.tup ys)], [u, v], _, h1, R1 =>
    obtain ⟨as, R1⟩ := R1
    obtain ⟨a, us, rfl, h2, h3, h4, h5⟩ := RepA.seqT (ws := v :: ws) (st := .d (.tup ys) :: st) R1
    obtain ⟨b, vs, rfl, g2, g3, g4, g5⟩ := RepA.seqT (ws := ws) (st := st) (RepA.drop1 (ws := v :: ws) (st := .d (.tup ys) :: st) R1)
    refine z_zipT h2 g2 (k _ anyc cs1 _ H1 [.ref a, .ref b] [.d (.tup xs), .d (.tup ys)] h1 trivial (by rw [zipD_len]; omega) rfl ⟨as, R1⟩ ⟨fun i H σ ws cs sl st R ok hi => ?_, fun H σ ws cs sl st R ok => ?_, fun i H x H' σ ws cs sl st R ok hi hy => ?_⟩)
    · obtain ⟨as, R⟩ := R
      obtain ⟨a', us, e, h2, h3, h4, h5⟩ := RepA.seqT (ws := .ref b :: ws) (st := .d (.tup ys) :: st) R
      cases e
      obtain ⟨b', vs, e, g2, g3, g4, g5⟩ := RepA.seqT (ws := ws) (st := st) (RepA.drop1 (ws := .ref b :: ws) (st := .d (.tup ys) :: st) R)
      cases e
      rw [zipD_len] at hi
      exact (walk_zipT (xs := us) (ys := vs) rfl).goes i H (by omega) ⟨h2, g2⟩
    · obtain ⟨as, R⟩ := R
      obtain ⟨a', us, e, h2, h3, h4, h5⟩ := RepA.seqT (ws := .ref b :: ws) (st := .d (.tup ys) :: st) R
      cases e
      obtain ⟨b', vs, e, g2, g3, g4, g5⟩ := RepA.seqT (ws := ws) (st := st) (RepA.drop1 (ws := .ref b :: ws) (st := .d (.tup ys) :: st) R)
      cases e
      rw [zipD_len, ← h3, ← g3]
      exact (walk_zipT (xs := us) (ys := vs) rfl).stops H ⟨h2, g2⟩
    · obtain ⟨as, R⟩ := R
      obtain ⟨a', us, e, h2, h3, h4, h5⟩ := RepA.seqT (ws := .ref b :: ws) (st := .d (.tup ys) :: st) R
      cases e
      obtain ⟨b', vs, e, g2, g3, g4, g5⟩ := RepA.seqT (ws := ws) (st := st) (RepA.drop1 (ws := .ref b :: ws) (st := .d (.tup ys) :: st) R)
      cases e
      rw [zipD_len] at hi
      obtain ⟨T, u, w, rfl, hT, rfl, hu, hw⟩ := (walk_zipT (xs := us) (ys := vs) rfl).yields i H x H' (by omega) ⟨h2, g2⟩ hy
      obtain ⟨d, h6, h7⟩ := h5.getV hu
      obtain ⟨e, h8, h9⟩ := g5.getV hw
      exact ⟨_, zipD_at h6 h8, pair_new R hT h7 h9⟩
  | [.d (.ktp xs), .d (.ktp ys)], [u, v], _, h1, R1 =>
    obtain ⟨as, R1⟩ := R1
    obtain ⟨a, rfl, h2, h3, h4, h5⟩ := RepA.seqK (ws := v :: ws) (st := .d (.ktp ys) :: st) R1
    obtain ⟨b, rfl, g2, g3, g4, g5⟩ := RepA.seqK (ws := ws) (st := st) (RepA.drop1 (ws := v :: ws) (st := .d (.ktp ys) :: st) R1)
    refine z_zipT h2 g2 (k _ anyc cs1 _ H1 [.ref a, .ref b] [.d (.ktp xs), .d (.ktp ys)] h1 trivial (by rw [zipD_len]; omega) rfl ⟨as, R1⟩ ⟨fun i H σ ws cs sl st R ok hi => ?_, fun H σ ws cs sl st R ok => ?_, fun i H x H' σ ws cs sl st R ok hi hy => ?_⟩)
    · obtain ⟨as, R⟩ := R
      obtain ⟨a', e, h2, h3, h4, h5⟩ := RepA.seqK (ws := .ref b :: ws) (st := .d (.ktp ys) :: st) R
      cases e
      obtain ⟨b', e, g2, g3, g4, g5⟩ := RepA.seqK (ws := ws) (st := st) (RepA.drop1 (ws := .ref b :: ws) (st := .d (.ktp ys) :: st) R)
      cases e
      rw [zipD_len] at hi
      exact (walk_zipT (xs := xs.map vN) (ys := ys.map vN) rfl).goes i H (by omega) ⟨h2, g2⟩
    · obtain ⟨as, R⟩ := R
      obtain ⟨a', e, h2, h3, h4, h5⟩ := RepA.seqK (ws := .ref b :: ws) (st := .d (.ktp ys) :: st) R
      cases e
      obtain ⟨b', e, g2, g3, g4, g5⟩ := RepA.seqK (ws := ws) (st := st) (RepA.drop1 (ws := .ref b :: ws) (st := .d (.ktp ys) :: st) R)
      cases e
      rw [zipD_len, ← h3, ← g3]
      exact (walk_zipT (xs := xs.map vN) (ys := ys.map vN) rfl).stops H ⟨h2, g2⟩
    · obtain ⟨as, R⟩ := R
      obtain ⟨a', e, h2, h3, h4, h5⟩ := RepA.seqK (ws := .ref b :: ws) (st := .d (.ktp ys) :: st) R
      cases e
      obtain ⟨b', e, g2, g3, g4, g5⟩ := RepA.seqK (ws := ws) (st := st) (RepA.drop1 (ws := .ref b :: ws) (st := .d (.ktp ys) :: st) R)
      cases e
      rw [zipD_len] at hi
      obtain ⟨T, u, w, rfl, hT, rfl, hu, hw⟩ := (walk_zipT (xs := xs.map vN) (ys := ys.map vN) rfl).yields i H x H' (by omega) ⟨h2, g2⟩ hy
      obtain ⟨d, h6, h7⟩ := h5.getV hu
      obtain ⟨e, h8, h9⟩ := g5.getV hw
      exact ⟨_, zipD_at h6 h8, pair_new R hT h7 h9⟩
/-! ### for -/
/-- slots without the cells from m on; only the first n -/
def fgS (m : Nat) : Nat → Sl → Sl
  | _, [] => []
  | 0, _ :: r => none :: fgS m 0 r
  | n + 1, some (.c k) :: r => (if k < m then some (.c k) else none) :: fgS m n r
  | n + 1, x :: r => x :: fgS m n r
theorem RepA.forget {as : List Addr} (m n : Nat) (R : RepA W as H σ ws cs sl st) (b2 : StOk (fun _ => Below m) ws st) : RepA W (as.take m) H σ ws (cs.take m) (fgS m n sl) st := by
  have tk : ∀ {α : Type} {xs : List α} {k : Nat} {x : α}, (xs.take m)[k]? = some x → k < m ∧ xs[k]? = some x := fun {α xs k x} h => by
    rw [List.getElem?_take] at h
    by_cases hk : k < m
    · rw [if_pos hk] at h
      exact ⟨hk, h⟩
    · rw [if_neg hk] at h
      cases h
  have kk : ∀ b u, H b = some u → ¬ Av W as cs b → Nt u → H b = some u := fun b u hb _ _ => hb
  have k2 : ∀ b u, Av W (as.take m) (cs.take m) b → H b = some u → Av W as cs b := fun b u hb _ => by
    rcases hb with h | h | ⟨k, h, c, hc⟩
    · exact .inl h
    · exact .inr (.inl h)
    · exact .inr (.inr ⟨k, (tk h).2, c, (tk hc).2⟩)
  have conv : ∀ v s, Below m s → Rv W as (Av W as cs) H v s → Rv W (as.take m) (Av W (as.take m) (cs.take m)) H v s := fun v s hb h => by
    cases s with
    | d y => exact Dv.step kk k2 h
    | r => exact h
    | c j =>
      obtain ⟨a, h1, h2⟩ := h
      have hb : j < m := hb
      exact ⟨a, by rw [List.getElem?_take, if_pos hb]; exact h1, h2⟩
  have cst : ∀ {vs : List V} {ss : List Sd}, StOk (fun _ => Below m) vs ss → StOk (Rv W as (Av W as cs) H) vs ss → StOk (Rv W (as.take m) (Av W (as.take m) (cs.take m)) H) vs ss := fun {vs ss} => by
    induction vs generalizing ss with
    | nil => cases ss with
      | nil => exact fun _ _ => trivial
      | cons _ _ => exact fun q => q.elim
    | cons v vs ih => cases ss with
      | nil => exact fun q => q.elim
      | cons s ss => exact fun q h => ⟨conv _ _ q.1 h.1, ih q.2 h.2⟩
  have csl : ∀ {n : Nat} {vs : List (Option V)} {ss : List (Option Sd)}, SlOk (Rv W as (Av W as cs) H) vs ss → SlOk (Rv W (as.take m) (Av W (as.take m) (cs.take m)) H) vs (fgS m n ss) := fun {n vs ss} => by
    induction vs generalizing ss n with
    | nil => cases ss with
      | nil => cases n <;> exact fun _ => trivial
      | cons s _ => cases s <;> exact fun q => q.elim
    | cons v vs ih => cases ss with
      | nil => exact fun q => q.elim
      | cons s ss => cases n with
       | zero => cases s with
        | none => exact fun h => ih (ss := ss) h
        | some s => exact fun h => ih (ss := ss) h.2
       | succ n => cases s with
        | none => exact fun h => ih (ss := ss) h
        | some s =>
          rintro ⟨⟨y', e', z'⟩, q'⟩
          cases s with
          | d y => exact ⟨⟨y', e', conv _ (.d y) trivial z'⟩, ih q'⟩
          | r => exact ⟨⟨y', e', conv _ .r trivial z'⟩, ih q'⟩
          | c j =>
            show SlOk _ (v :: vs) ((if j < m then some (.c j) else none) :: fgS m n ss)
            by_cases hj : j < m
            · rw [if_pos hj]
              exact ⟨⟨y', e', conv _ (.c j) hj z'⟩, ih q'⟩
            · rw [if_neg hj]
              exact ih q'
  refine ⟨by rw [List.length_take, List.length_take, R.len], R.nd.sublist (List.take_sublist _ _), fun a ha => R.new a (List.mem_of_mem_take ha), R.fra, R.kp, R.rng, R.tab, fun i b y h1 h2 => ?_, csl R.sl, cst b2 R.st⟩
  obtain ⟨u, h3, h4⟩ := R.cells i b y (tk h1).2 (tk h2).2
  exact ⟨u, h3, h4.step kk k2⟩
theorem Rep.forget (m n : Nat) (R : Rep W H σ ws cs sl st) (b2 : StOk (fun _ => Below m) ws st) : Rep W H σ ws (cs.take m) (fgS m n sl) st := by
  obtain ⟨as, R⟩ := R
  exact ⟨_, R.forget m n b2⟩
def ForK (W : Wo) (g : TG) (tb : TS) (F : DE) (items : List D) (okc : Cs → Prop) (cs : Cs) (sl : Sl) : Prop := ∃ Iv J : Nat → Cs → Sl → Prop, (J = Iv ∨ ∃ m n, cs.length ≤ m ∧ J = fun i cs sl => Iv i (cs.take m) (fgS m n sl)) ∧ Iv 0 cs sl ∧ (∀ i cs2 sl2, Iv i cs2 sl2 → okc cs2) ∧
  (∀ i x cs2 sl2 st2, items[i]? = some x → Iv i cs2 sl2 → wG W g (.d x) cs2 sl2 st2 fun cs3 sl3 => wS W tb cs3 sl3 st2 { F with nx := J (i + 1), ct := J (i + 1), bk := F.nx }) ∧ ∀ cs2 sl2, Iv items.length cs2 sl2 → F.nx cs2 sl2
theorem for_k {g : TG} {tb : TS} {F : DE} {items : List D} {okc : Cs → Prop} (Iv : Nat → Cs → Sl → Prop) (h0 : Iv 0 cs sl) (hs : ∀ i x cs2 sl2 st2, items[i]? = some x → Iv i cs2 sl2 → wG W g (.d x) cs2 sl2 st2 fun cs3 sl3 => wS W tb cs3 sl3 st2 { F with nx := Iv (i + 1), ct := Iv (i + 1), bk := F.nx })
    (he : ∀ cs2 sl2, Iv items.length cs2 sl2 → F.nx cs2 sl2) (ho : ∀ i cs2 sl2, Iv i cs2 sl2 → okc cs2 := by exact fun _ _ _ _ => trivial) : ForK W g tb F items okc cs sl := ⟨Iv, Iv, .inl rfl, h0, ho, hs, he⟩
/-- the same; what the body makes from cell m on is forgotten -/
theorem for_kf {g : TG} {tb : TS} {F : DE} {items : List D} {okc : Cs → Prop} (m n : Nat) (Iv : Nat → Cs → Sl → Prop) (hm : cs.length ≤ m) (h0 : Iv 0 cs sl) (hs : ∀ i x cs2 sl2 st2, items[i]? = some x → Iv i cs2 sl2 → wG W g (.d x) cs2 sl2 st2 fun cs3 sl3 => wS W tb cs3 sl3 st2 { F with nx := fun cs sl => Iv (i + 1) (cs.take m) (fgS m n sl), ct := fun cs sl => Iv (i + 1) (cs.take m) (fgS m n sl), bk := F.nx })
    (he : ∀ cs2 sl2, Iv items.length cs2 sl2 → F.nx cs2 sl2) (ho : ∀ i cs2 sl2, Iv i cs2 sl2 → okc cs2 := by exact fun _ _ _ _ => trivial) : ForK W g tb F items okc cs sl := ⟨Iv, _, .inr ⟨m, n, hm, rfl⟩, h0, ho, hs, he⟩
theorem w_for {wi : TI} {g : TG} {tb : TS} {F : DE} (q : wI W wi cs sl st fun items okc cs1 => ForK W g tb F items okc cs1 sl) : wS W (tFor wi g tb) cs sl st F := fun H σ ws R De k => q H σ ws R _ fun items okc cs1 J H1 vs sds ⟨Iv, Jv, hJ, h0, ho, hs, he⟩ hok hl hvs R1 dit => by
  have bl := R1.below.2
  have fin : ∀ {i cs sl σ H}, Jv i cs sl → Rep W H σ (vs ++ ws) cs sl (sds ++ st) → ∃ cs sl, Iv i cs sl ∧ Rep W H σ (vs ++ ws) cs sl (sds ++ st) := fun {i cs sl σ H} h R => by
    rcases hJ with rfl | ⟨m, n, hm, rfl⟩
    · exact ⟨cs, sl, h, R⟩
    · exact ⟨_, _, h, R.forget m n (bl.imp fun v s h => by
        cases s with
        | c k => exact Nat.lt_of_lt_of_le (show k < cs1.length from h) hm
        | _ => trivial)⟩
  refine for_it (n := items.length) (G := fun H => ∃ σ cs sl, okc cs ∧ Rep W H σ (vs ++ ws) cs sl (sds ++ st)) (Y := fun i H x H' => J.yld i H x H') ⟨fun i H hi ⟨σ, cs, sl, ok, R⟩ => dit.goes i H σ ws cs sl st R ok hi, fun H ⟨σ, cs, sl, ok, R⟩ => dit.stops H σ ws cs sl st R ok, fun i H x H' hi hG hy => hy⟩
    (fun i σ H => ∃ cs sl, Iv i cs sl ∧ Rep W H σ (vs ++ ws) cs sl (sds ++ st)) ⟨cs1, sl, h0, R1⟩ (fun i σ H hi ⟨cs, sl, hI, R⟩ => ⟨σ, cs, sl, ho i cs sl hI, R⟩) ?_ ?_
  · rintro i x σ2 H2 H3 hi ⟨cs2, sl2, hI, R2⟩ hy
    obtain ⟨d, hd, R3⟩ := dit.yld i H2 x H3 σ2 ws cs2 sl2 st R2 (ho i cs2 sl2 hI) hi hy
    refine hs i d cs2 sl2 (sds ++ st) hd hI H3 σ2 x (vs ++ ws) R3 _ fun cs4 sl4 σ4 H4 h4 R4 => ?_
    exact h4 H4 σ4 (vs ++ ws) R4 _ ⟨fun cs sl σ H h R => fin h R, k.rt, fun cs sl σ H h R => k.nx cs sl σ H h (R.dropn hvs), fun cs sl σ H h R => fin h R⟩
  · rintro σ2 H2 ⟨cs2, sl2, hI, R2⟩
    exact k.nx _ _ _ _ (he cs2 sl2 hI) (R2.dropn hvs)
/-! ### while -/
def LtM (Iv : Nat → Cs → Sl → Prop) (m : Nat) (cs : Cs) (sl : Sl) : Prop := ∃ m', m' < m ∧ Iv m' cs sl
theorem w_while {c : TT} {tb : TS} {F : DE} (Iv : Nat → Cs → Sl → Prop) (m0 : Nat) (h0 : Iv m0 cs sl) (hs : ∀ m cs1 sl1, Iv m cs1 sl1 → wT W c cs1 sl1 st fun b cs2 => if b = true then wS W tb cs2 sl1 st { F with nx := LtM Iv m, ct := LtM Iv m, bk := F.nx } else F.nx cs2 sl1) : wS W (tWhile c tb) cs sl st F := fun H σ ws R De k => by
  refine ⟨fun m σ H => ∃ cs sl, Iv m cs sl ∧ Rep W H σ ws cs sl st, ⟨m0, cs, sl, h0, R⟩, fun m σ1 H1 ⟨cs1, sl1, hI, R1⟩ => hs m cs1 sl1 hI H1 σ1 ws R1 _ fun b cs2 H2 h2 R2 => ?_⟩
  cases b with
  | false =>
    exact iteF (k.nx _ _ _ _ h2 R2)
  | true =>
    refine iteT ⟨fun σ' H' => ∃ cs' sl', LtM Iv m cs' sl' ∧ Rep W H' σ' ws cs' sl' st, fun σ' H' ⟨cs', sl', ⟨m', hm, hI'⟩, R'⟩ => ⟨m', hm, cs', sl', hI', R'⟩, ?_⟩
    have h2 : wS W tb cs2 sl1 st { F with nx := LtM Iv m, ct := LtM Iv m, bk := F.nx } := h2
    exact h2 H2 σ1 ws R2 _ ⟨fun cs sl σ H h R => ⟨cs, sl, h, R⟩, k.rt, k.nx, fun cs sl σ H h R => ⟨cs, sl, h, R⟩⟩
/-! ### comprehensions -/
/-- the target's names are among vs -/
def GT (g : TG) (vs : List Nat) : Prop := ∀ (v : V) (σ : L2.St) (H : Hp) (Q Q' : L2.St → Hp → Prop), (∀ σ' H', Q σ' H' → wipe σ' vs = wipe σ vs → Q' σ' H') → g v σ H Q → g v σ H Q'
def GTs (g : TGs) (vs : List Nat) : Prop := ∀ (us : List V) (σ : L2.St) (H : Hp) (Q Q' : L2.St → Hp → Prop), (∀ σ' H', Q σ' H' → wipe σ' vs = wipe σ vs → Q' σ' H') → g us σ H Q → g us σ H Q'
theorem wipe_set {v : V} {i : Nat} : ∀ {vs : List Nat} (σ : L2.St), i ∈ vs → wipe (σ.set i (some v)) vs = wipe σ vs
  | [], _, h => absurd h List.not_mem_nil
  | j :: vs, σ, h => by
    show (wipe (σ.set i (some v)) vs).set j none = (wipe σ vs).set j none
    by_cases hi : i ∈ vs
    · rw [wipe_set σ hi]
    · have e : i = j := (List.mem_cons.mp h).resolve_right hi
      subst e
      have : ∀ {vs : List Nat}, i ∉ vs → wipe (σ.set i (some v)) vs = (wipe σ vs).set i (some v) := fun {vs} => by
        induction vs with
        | nil => exact fun _ => rfl
        | cons k vs ih =>
          intro hk
          show (wipe (σ.set i (some v)) vs).set k none = ((wipe σ vs).set k none).set i (some v)
          rw [ih fun z => hk (.tail _ z), List.set_comm]
          exact fun z => hk (by rw [z]; exact .head _)
      rw [this hi, List.set_set]
theorem gt_name {i : Nat} {vs : List Nat} (h : i ∈ vs) : GT (gName i) vs := fun v σ H Q Q' k q => k _ _ q (wipe_set σ h)
theorem gt_nil {vs : List Nat} : GTs gNil vs := fun us σ H Q Q' k ⟨e, q⟩ => ⟨e, k _ _ q rfl⟩
theorem gt_cons {t : TG} {u : TGs} {vs : List Nat} (ht : GT t vs) (hu : GTs u vs) : GTs (gCons t u) vs := fun us σ H Q Q' k ⟨v, r, e, q⟩ => ⟨v, r, e, ht v σ H _ _ (fun σ1 H1 q1 w1 => hu r σ1 H1 _ _ (fun σ2 H2 q2 w2 => k _ _ q2 (w2.trans w1)) q1) q⟩
theorem gt_tup {K : PySem.W.Frag} {n : Nat} {t : TGs} {vs : List Nat} (ht : GTs t vs) : GT (gTup K n t) vs := fun v σ H Q Q' k ⟨a, xs, e, h1, h2, q⟩ => ⟨a, xs, e, h1, h2, ht xs σ H _ _ k q⟩
def EqK (cs0 cs : Cs) (P : Prop) : Prop := cs = cs0 ∧ P
theorem eqk {cs : Cs} {P : Prop} (h : P) : EqK cs cs P := ⟨rfl, h⟩
def DatK (P : D → Prop) : Sd → Prop
  | .d x => P x
  | _ => False
theorem datk {P : D → Prop} {x : D} (h : P x) : DatK P (.d x) := h
theorem datk_of {P : D → Prop} {x : Sd} (h : DatK P x) : ∃ d, x = .d d ∧ P d := by
  cases x with
  | d x => exact ⟨x, rfl, h⟩
  | _ => exact h.elim
/-- one turn of a comprehension: at the end Y of the item, or N where it is left out -/
def LcT (W : Wo) (g : TG) (tt : TT) (te : TE) (x : D) (cs : Cs) (sl : Sl) (st : List Sd) (Y : D → Prop) (N : Prop) : Prop :=
  wG W g (.d x) cs sl st fun cs2 sl2 => EqK cs cs2 (wT W tt cs sl2 st fun b cs3 => EqK cs cs3 (if b = true then wE W te cs sl2 st fun sd cs4 => EqK cs cs4 (DatK Y sd) else N))
def LcK (W : Wo) (g : TG) (tt : TT) (te : TE) (items : List D) (okc : Cs → Prop) (cs : Cs) (sl : Sl) (Q : List D → Prop) : Prop := ∃ Iv : Nat → List D → Prop, Iv 0 [] ∧ (∀ ds, okc (cs ++ [some (.lst ds)])) ∧
  (∀ i x ds st2, items[i]? = some x → Iv i ds → LcT W g tt te x (cs ++ [some (.lst ds)]) sl st2 (fun d => Iv (i + 1) (ds ++ [d])) (Iv (i + 1) ds)) ∧ ∀ ds, ds.length ≤ items.length → Iv items.length ds → Q ds
theorem wipe_in {σ : L2.St} {i : Nat} : ∀ {vs : List Nat}, i ∈ vs → i < σ.length → (wipe σ vs)[i]? = some none
  | [], h, _ => absurd h List.not_mem_nil
  | j :: vs, h, hl => by
    show ((wipe σ vs).set j none)[i]? = some none
    by_cases e : j = i
    · subst e
      rw [List.getElem?_set_self (by rw [wipe_length]; exact hl)]
    · rw [List.getElem?_set_ne e]
      exact wipe_in ((List.mem_cons.mp h).resolve_left fun z => e z.symm) hl
theorem wipe_idem (σ : L2.St) (vs : List Nat) : wipe (wipe σ vs) vs = wipe σ vs := by
  refine List.ext_getElem? fun i => ?_
  by_cases h : i ∈ vs
  · by_cases hl : i < σ.length
    · rw [wipe_in h (by rw [wipe_length]; exact hl), wipe_in h hl]
    · rw [List.getElem?_eq_none (by rw [wipe_length, wipe_length]; omega), List.getElem?_eq_none (by rw [wipe_length]; omega)]
  · rw [wipe_out h]
theorem Rep.fin_list {D : Addr} {ds : List _root_.R.D} (R : Rep W H σ (V.ref D :: ws) (cs ++ [some (.lst ds)]) sl (.c cs.length :: st)) (b1 : SlOk (fun _ => Below cs.length) σ sl) (b2 : StOk (fun _ => Below cs.length) ws st) : Rep W H σ (.ref D :: ws) cs sl (.d (.lst ds) :: st) := by
  obtain ⟨as, R⟩ := R
  obtain ⟨a, ha, e⟩ := R.st.1
  cases e
  have hlen := R.len
  rw [List.length_append, List.length_singleton] at hlen
  obtain ⟨as0, l0, rfl⟩ : ∃ as0 : List Addr, as0.length = cs.length ∧ as = as0 ++ [D] := by
    refine ⟨as.take cs.length, by rw [List.length_take]; omega, ?_⟩
    have h1 : as.drop cs.length = [D] := by
      rw [List.drop_eq_getElem_cons (by omega), List.drop_eq_nil_of_le (by omega)]
      rw [List.getElem?_eq_getElem (by omega)] at ha
      rw [Option.some.inj ha]
    rw [← h1, List.take_append_drop]
  have hx : (cs ++ [some (Cell.lst ds)])[cs.length]? = some (some (.lst ds)) := by simp
  have hd := R.frzData ha hx
  have e1 : (cs ++ [some (Cell.lst ds)]).set cs.length none = cs ++ [none] := by simp
  rw [e1] at hd
  have R0 := (R.st' (ws' := ws) (st' := st) R.st.2).dropLast l0 b1 b2
  exact ⟨as0, R0.one (hd.step (fun _ _ q _ _ => q) fun b o q _ => av_grow' l0 q)⟩
theorem w_lc {wi : TI} {g : TG} {tt : TT} {te : TE} {vs : List Nat} {Q : List D → Cs → Prop} {slw : Sl} (e : wipeS sl vs = slw) (q : wI W wi cs sl st fun items okc cs1 => LcK W g tt te items okc cs1 slw fun ds => Q ds cs1) (gt : GT g vs) : wN W (tLc wi g tt te vs) cs sl st Q := fun H σ ws R Q' k => q H σ ws R _ fun items okc cs1 J H1 us sds ⟨Iv, h0, ho, hs, he⟩ hok hl hvs R1 dit => by
  subst e
  intro D hD
  have bl := R1.below
  have shape : ∃ P, SlOk P σ sl := by
    obtain ⟨as, R1⟩ := R1
    exact ⟨_, R1.sl⟩
  obtain ⟨P0, shape⟩ := shape
  have start : Rep W (upd H1 D (.lst [])) (wipe σ vs) (us ++ (.ref D :: (slW σ sl ++ ws))) (cs1 ++ [some (.lst [])]) (wipeS sl vs) (sds ++ (.c cs1.length :: (slS sl ++ st))) := by
    have R2 : Rep W H1 σ (us ++ (slW σ sl ++ ws)) cs1 sl (sds ++ (slS sl ++ st)) := by
      obtain ⟨as, R1⟩ := R1
      have hsp := StOk.split hvs R1.st
      exact ⟨as, R1.st' (StOk.app hsp.1 (StOk.app R1.sl.out hsp.2))⟩
    obtain ⟨as, R3⟩ := (new_list (vs := []) (ds := []) R2 rfl (Nat.zero_le _) hD).1
    have R4 := R3.sl' (R3.sl.wipe vs)
    refine ⟨as, R4.st' ?_⟩
    have := StOk.split hvs R4.st.2
    exact StOk.app this.1 ⟨R4.st.1, this.2⟩
  have slots : ∀ {H : Hp} {σ2 : L2.St} {sl2 : Sl} {x : List _root_.R.D} {as : List Addr}, RepA W as H σ2 (us ++ (.ref D :: (slW σ sl ++ ws))) (cs1 ++ [some (.lst x)]) sl2 (sds ++ (.c cs1.length :: (slS sl ++ st))) → SlOk (Rv W as (Av W as (cs1 ++ [some (.lst x)])) H) σ sl := fun {H σ2 sl2 x as} R => by
    have h1 := (StOk.split hvs R.st).2.2
    have l : (slW σ sl).length = (slS sl).length := shape.out.len
    exact shape.back (StOk.split l h1).1
  refine lc_it (n := items.length) (G := fun H => ∃ ds, ds.length ≤ items.length ∧ Rep W H (wipe σ vs) (us ++ (.ref D :: (slW σ sl ++ ws))) (cs1 ++ [some (.lst ds)]) (wipeS sl vs) (sds ++ (.c cs1.length :: (slS sl ++ st)))) (Y := fun i H x H' => J.yld i H x H')
    ⟨fun i H hi ⟨ds, _, R⟩ => dit.goes i H _ _ _ _ _ R (ho ds) hi, fun H ⟨ds, _, R⟩ => dit.stops H _ _ _ _ _ R (ho ds), fun i H x H' hi hG hy => hy⟩
    (fun i H => ∃ ds, Iv i ds ∧ ds.length ≤ i ∧ Rep W H (wipe σ vs) (us ++ (.ref D :: (slW σ sl ++ ws))) (cs1 ++ [some (.lst ds)]) (wipeS sl vs) (sds ++ (.c cs1.length :: (slS sl ++ st)))) ⟨[], h0, Nat.le_refl _, start⟩ (fun i H hi ⟨ds, hI, hd, R⟩ => ⟨ds, by omega, R⟩) ?_ ?_
  · rintro i x H2 H3 hi ⟨ds, hI, hdl, R2⟩ hy
    obtain ⟨d, hd, R3⟩ := dit.yld i H2 x H3 _ _ _ _ _ R2 (ho ds) hi hy
    have hg := hs i d ds (sds ++ (.c cs1.length :: (slS sl ++ st))) hd hI H3 (wipe σ vs) x _ R3
    refine gt x (wipe σ vs) H3 _ _ (fun σ2 H4 q4 w4 => ⟨w4.trans (wipe_idem σ vs), q4⟩) (hg _ fun cs4 sl4 σ4 H4 h4 R4 => ?_)
    obtain ⟨rfl, h4⟩ := h4
    refine h4 H4 σ4 _ R4 _ fun b cs5 H5 h5 R5 => ?_
    obtain ⟨rfl, h5⟩ := h5
    cases b with
    | false =>
      have h5 : Iv (i + 1) ds := h5
      refine iteF ⟨ds, h5, by omega, ?_⟩
      obtain ⟨as, R5⟩ := R5
      exact ⟨as, R5.sl' ((slots R5).wipe vs)⟩
    | true =>
      have h5 : wE W te (cs1 ++ [some (.lst ds)]) sl4 _ _ := h5
      refine iteT (h5 H5 σ4 _ R5 _ fun sd cs6 y H6 h6 R6 => ?_)
      obtain ⟨rfl, h6⟩ := h6
      obtain ⟨dy, rfl, h6⟩ := datk_of h6
      obtain ⟨as, R6⟩ := R6
      obtain ⟨a, ha, e⟩ := (StOk.split hvs R6.st.2).2.1
      cases e
      have hx : (cs1 ++ [some (Cell.lst ds)])[cs1.length]? = some (some (.lst ds)) := by simp
      obtain ⟨o, hD6, hc⟩ := R6.cells _ _ _ ha hx
      cases o with
      | lst acc =>
        have hal := hc.2.len
        refine ⟨acc, hD6, sz_lt (by omega), ds ++ [dy], h6, by rw [List.length_append, List.length_singleton]; omega, ?_⟩
        have R7 := R6.setc (c := .lst (ds ++ [dy])) (o := .lst (acc ++ [y])) ha hx ⟨by rw [List.length_append, List.length_singleton]; omega, hc.2.app (.cons R6.st.1 .nil)⟩
        have e1 : (cs1 ++ [some (Cell.lst ds)]).set cs1.length (some (.lst (ds ++ [dy]))) = cs1 ++ [some (.lst (ds ++ [dy]))] := by simp
        rw [e1] at R7
        have R8 := R7.drop1
        exact ⟨as, R8.sl' ((slots R8).wipe vs)⟩
      | _ => exact hc.elim
  · rintro H2 ⟨ds, hI, hdl, R2⟩
    have R3 : Rep W H2 σ (.ref D :: ws) (cs1 ++ [some (.lst ds)]) sl (.c cs1.length :: st) := by
      obtain ⟨as, R2⟩ := R2
      have h1 := (StOk.split hvs R2.st).2
      have l : (slW σ sl).length = (slS sl).length := shape.out.len
      exact ⟨as, (R2.sl' (slots R2)).st' ⟨h1.1, (StOk.split l h1.2).2⟩⟩
    exact k ds cs1 (.ref D) H2 (he ds hdl hI) R3 (R3.fin_list bl.1 (StOk.split hvs bl.2).2)
/-! what a comprehension gives -/
theorem lck {g : TG} {tt : TT} {te : TE} {items : List D} {okc : Cs → Prop} {Q : List D → Prop} (Iv : Nat → List D → Prop) (h0 : Iv 0 []) (hs : ∀ i x ds st2, items[i]? = some x → Iv i ds → LcT W g tt te x (cs ++ [some (.lst ds)]) sl st2 (fun d => Iv (i + 1) (ds ++ [d])) (Iv (i + 1) ds)) (he : ∀ ds, ds.length ≤ items.length → Iv items.length ds → Q ds)
    (ho : ∀ ds, okc (cs ++ [some (.lst ds)]) := by exact fun _ => trivial) : LcK W g tt te items okc cs sl Q := ⟨Iv, h0, ho, hs, he⟩
theorem LcT.imp {g : TG} {tt : TT} {te : TE} {x : D} {Y Y' : D → Prop} {N N' : Prop} (h : LcT W g tt te x cs sl st Y N) (hY : ∀ d, Y d → Y' d) (hN : N → N') : LcT W g tt te x cs sl st Y' N' := fun H σ v ws R Q' k => h H σ v ws R Q' fun cs2 sl2 σ2 H2 ⟨e, h2⟩ R2 => k cs2 sl2 σ2 H2 ⟨e, fun H σ ws R Q' k => h2 H σ ws R Q' fun b cs3 H3 ⟨e, h3⟩ R3 => k b cs3 H3 ⟨e, by
  cases b with
  | true =>
    have h3 : wE W te cs sl2 st _ := h3
    refine iteT (A := wE W te cs sl2 st _) fun H σ ws R Q' k => h3 H σ ws R Q' fun sd cs4 v H4 ⟨e, h4⟩ R4 => k sd cs4 v H4 ⟨e, ?_⟩ R4
    cases sd with
    | d x => exact hY x h4
    | _ => exact h4.elim
  | false => exact iteF (hN h3)⟩ R3⟩ R2
variable {α : Type} {β : Type} {F : α → D} {G : β → D}
/-- each item gives f of it -/
theorem lck_map {g : TG} {tt : TT} {te : TE} {xs : List α} {okc : Cs → Prop} {Q : List D → Prop} (f : α → D) (hs : ∀ x ds st2, x ∈ xs → LcT W g tt te (F x) (cs ++ [some (.lst ds)]) sl st2 (fun d => d = f x) False) (q : Q (xs.map f))
    (ho : ∀ ds, okc (cs ++ [some (.lst ds)]) := by exact fun _ => trivial) : LcK W g tt te (xs.map F) okc cs sl Q := by
  refine ⟨fun i ds => ds = (xs.take i).map f, rfl, ho, fun i x ds st2 hx hI => ?_, fun ds _ hI => ?_⟩
  · rw [List.getElem?_map] at hx
    obtain ⟨y, hy, rfl⟩ := Option.map_eq_some_iff.mp hx
    refine (hs y ds st2 (List.mem_of_getElem? hy)).imp (fun d e => ?_) False.elim
    show ds ++ [d] = (xs.take (i + 1)).map f
    rw [e, hI, List.take_add_one, hy, List.map_append]
    rfl
  · have hI : ds = (xs.take (xs.map F).length).map f := hI
    rw [hI, List.length_map, List.take_length]
    exact q
theorem lck_filter {g : TG} {tt : TT} {te : TE} {xs : List α} {okc : Cs → Prop} {Q : List D → Prop} (p : α → Bool) (f : α → D) (hs : ∀ x ds st2, x ∈ xs → LcT W g tt te (F x) (cs ++ [some (.lst ds)]) sl st2 (fun d => p x = true ∧ d = f x) (p x = false)) (q : Q ((xs.filter p).map f))
    (ho : ∀ ds, okc (cs ++ [some (.lst ds)]) := by exact fun _ => trivial) : LcK W g tt te (xs.map F) okc cs sl Q := by
  refine ⟨fun i ds => ds = ((xs.take i).filter p).map f, rfl, ho, fun i x ds st2 hx hI => ?_, fun ds _ hI => ?_⟩
  · rw [List.getElem?_map] at hx
    obtain ⟨y, hy, rfl⟩ := Option.map_eq_some_iff.mp hx
    refine (hs y ds st2 (List.mem_of_getElem? hy)).imp (fun d e => ?_) fun e => ?_
    · show ds ++ [d] = ((xs.take (i + 1)).filter p).map f
      rw [e.2, hI, List.take_add_one, hy, List.filter_append, List.map_append]
      simp [e.1]
    · show ds = ((xs.take (i + 1)).filter p).map f
      rw [hI, List.take_add_one, hy, List.filter_append, List.map_append]
      simp [e]
  · have hI : ds = ((xs.take (xs.map F).length).filter p).map f := hI
    rw [hI, List.length_map, List.take_length]
    exact q
/-- each item gives some G y, ok x y -/
theorem lck_some {g : TG} {tt : TT} {te : TE} {xs : List α} {okc : Cs → Prop} {Q : List D → Prop} (G : β → D) (ok : α → β → Prop) (hs : ∀ x ds st2, x ∈ xs → LcT W g tt te (F x) (cs ++ [some (.lst ds)]) sl st2 (fun d => ∃ y, d = G y ∧ ok x y) False)
    (q : ∀ ys : List β, ys.length = xs.length → (∀ (i : Nat) x y, xs[i]? = some x → ys[i]? = some y → ok x y) → Q (ys.map G)) (ho : ∀ ds, okc (cs ++ [some (.lst ds)]) := by exact fun _ => trivial) : LcK W g tt te (xs.map F) okc cs sl Q := by
  refine ⟨fun i ds => ∃ ys : List β, ds = ys.map G ∧ ys.length = (xs.take i).length ∧ ∀ (j : Nat) x y, (xs.take i)[j]? = some x → ys[j]? = some y → ok x y, ⟨[], rfl, rfl, fun j x y h => by simp at h⟩, ho, fun i x ds st2 hx ⟨ys, hI, hl, hy⟩ => ?_, fun ds _ ⟨ys, hI, hl, hy⟩ => ?_⟩
  · rw [List.getElem?_map] at hx
    obtain ⟨z, hz, rfl⟩ := Option.map_eq_some_iff.mp hx
    refine (hs z ds st2 (List.mem_of_getElem? hz)).imp (fun d ⟨y, e, o⟩ => ?_) False.elim
    have hzl : i < xs.length := (List.getElem?_eq_some_iff.mp hz).1
    have hil : (xs.take i).length = i := by rw [List.length_take]; omega
    refine ⟨ys ++ [y], by rw [hI, e, List.map_append]; rfl, ?_, fun j a b ha hb => ?_⟩
    · rw [List.length_append, List.take_add_one, hz, List.length_append, hl]
      rfl
    · rw [List.take_add_one, hz] at ha
      by_cases hj : j < i
      · rw [List.getElem?_append_left (by omega)] at ha hb
        exact hy j a b ha hb
      · have hj' : j < i + 1 := by
          have := (List.getElem?_eq_some_iff.mp hb).1
          rw [List.length_append, hl, hil] at this
          simpa using this
        have e : j = i := by omega
        subst e
        rw [List.getElem?_append_right (by omega), hil] at ha
        rw [List.getElem?_append_right (by omega), hl, hil] at hb
        simp at ha hb
        rw [← ha, ← hb]
        exact o
  · rw [List.length_map, List.take_length] at hl hy
    rw [hI]
    exact q ys hl hy
end
end R

/-! # W5: lists changed, defs called, errors -/
namespace R
open PySem PySem.Spec PyProof.Rows L2 L2H LamX
/-- a method of a built-in -/
def wM (W : Wo) (r : V → List V → Hp → VK → Prop) (x : Sd) (xs : List Sd) (cs : Cs) (sl : Sl) (st : List Sd) (Q : Sd → Cs → Prop) : Prop := ∀ (H : Hp) (σ : L2.St) (vx : V) (vs : List V) (ws : List V), vs.length = xs.length → Rep W H σ (vs ++ vx :: ws) cs sl (xs ++ x :: st) → ∀ Q' : VK, (∀ sd cs' v H', Q sd cs' → Rep W H' σ (v :: ws) cs' sl (sd :: st) → Q' v H') → r vx vs H Q'
def TyK (T : String) (cs : Cs) (x : Sd) : Prop := match x with
  | .d (.str _) => T = "str"
  | .d (.lst _) => T = "list"
  | .c k => T = "list" ∧ ∃ ds, cs[k]? = some (some (.lst ds))
  | _ => False
section
variable {W : Wo} {cs : Cs} {sl : Sl} {st : List Sd} {Q : Sd → Cs → Prop} {H : Hp} {σ : L2.St} {ws : List V}
theorem tyk {T : String} {v : V} {x : Sd} (R : Rep W H σ (v :: ws) cs sl (x :: st)) (h : TyK T cs x) : tyV W.K T v H := by
  cases x with
  | r => exact h.elim
  | c k =>
    obtain ⟨rfl, ds, hk⟩ := h
    obtain ⟨as, R⟩ := R
    obtain ⟨a, xs, rfl, _, h1, _⟩ := R.seqC hk
    exact .inl ⟨rfl, xs, .inl (.inl h1)⟩
  | d x => cases x with
    | str z =>
      obtain rfl := R.str
      exact h
    | lst ds =>
      obtain ⟨as, R⟩ := R
      obtain ⟨a, xs, rfl, h1, _⟩ := R.seqL
      exact .inl ⟨h, xs, h1⟩
    | _ => exact h.elim
def TyA (T : String) (cs : Cs) (x : Sd) (P : Prop) : Prop := TyK T cs x ∧ P
theorem tya_c {k : Nat} {ds : List D} {P : Prop} (h : cs[k]? = some (some (.lst ds))) (q : P) : TyA "list" cs (.c k) P := ⟨⟨rfl, ds, h⟩, q⟩
theorem tya_l {ds : List D} {P : Prop} (q : P) : TyA "list" cs (.d (.lst ds)) P := ⟨rfl, q⟩
theorem tya_s {z : Str} {P : Prop} (q : P) : TyA "str" cs (.d (.str z)) P := ⟨rfl, q⟩
theorem w_bm {T : String} {r : V → List V → Hp → VK → Prop} {to : TE} {t : TA} (q : wE W to cs sl st fun x cs1 => TyA T cs1 x (wA W t cs1 sl (x :: st) fun xs cs2 => wM W r x xs cs2 sl st Q)) : wE W (tBM W.K T r to t) cs sl st Q := fun H σ ws R Q' k =>
  q H σ ws R _ fun x cs1 vx H1 h1 R1 => ⟨tyk R1 h1.1, h1.2 H1 σ (vx :: ws) R1 _ fun xs cs2 vs H2 h2 l R2 => h2 H2 σ vx vs ws l R2 Q' k⟩
theorem w_bm0 {T : String} {r : V → List V → Hp → VK → Prop} {to : TE} (q : wE W to cs sl st fun x cs1 => TyA T cs1 x (wM W r x [] cs1 sl st Q)) : wE W (tBM0 W.K T r to) cs sl st Q := fun H σ ws R Q' k =>
  q H σ ws R _ fun x cs1 vx H1 h1 R1 => ⟨tyk R1 h1.1, h1.2 H1 σ vx [] ws rfl R1 Q' k⟩
theorem w_m1 {r : V → List V → Hp → VK → Prop} {to te : TE} (q : wE W to cs sl st fun x cs1 => TyA "str" cs1 x (wE W te cs1 sl (x :: st) fun y cs2 => wM W r x [y] cs2 sl st Q)) : wE W (tM1 r to te) cs sl st Q := fun H σ ws R Q' k =>
  q H σ ws R _ fun x cs1 vx H1 h1 R1 => by
    refine ⟨?_, h1.2 H1 σ (vx :: ws) R1 _ fun y cs2 vy H2 h2 R2 => h2 H2 σ vx [vy] ws rfl R2 Q' k⟩
    have := h1.1
    cases x with
    | d x => cases x with
      | str z => exact ⟨z, R1.str⟩
      | lst _ => exact absurd (show ("str" : String) = "list" from this) (by decide)
      | _ => exact this.elim
    | c _ => exact absurd this.1 (by decide)
    | r => exact this.elim
/-- a cell's list changed -/
theorem cell_set {k : Nat} {ds es : List D} {a : Addr} {ys : List V} {as : List Addr} (R : RepA W as H σ ws cs sl st) (ha : as[k]? = some a) (hk : cs[k]? = some (some (.lst ds))) (h1 : ys.length ≤ 900000) (h2 : DvAll W.K W.C (Av W as cs) H ys es) : RepA W as (upd H a (.lst ys)) σ ws (cs.set k (some (.lst es))) sl st := R.setc (c := .lst es) (o := .lst ys) ha hk ⟨h1, h2⟩
theorem m_append {k : Nat} {ds : List D} {d : D} {cs' : Cs} (q : Q (.d .non) cs') (hl : ds.length < 900000) (hk : cs[k]? = some (some (.lst ds)) := by rfl) (e : cs.set k (some (.lst (ds ++ [d]))) = cs' := by rfl) : wM W rAppend (.c k) [.d d] cs sl st Q := fun H σ vx vs ws l R Q' kk => by
  subst e
  match vs, l, R with
  | [v], _, R =>
    have R : Rep W H σ (v :: vx :: ws) cs sl (.d d :: .c k :: st) := R
    obtain ⟨as, R⟩ := R
    have hd := R.st.1
    obtain ⟨a, xs, rfl, ha, h1, h2, h3, h4⟩ := R.drop1.seqC hk
    refine z_append h1 (by omega) ?_
    have R2 := cell_set R ha hk (ys := xs ++ [v]) (es := ds ++ [d]) (by rw [List.length_append, List.length_singleton]; omega) (h4.app (.cons hd .nil))
    exact kk _ _ _ _ q (Rep.push ⟨as, R2.drop1.drop1⟩ scd_non)
theorem m_insert {k : Nat} {ds : List D} {i : Int} {d : D} {cs' : Cs} (hi : 0 ≤ i ∧ i < 2 ^ 62) (q : Q (.d .non) cs') (hl : ds.length < 900000) (hk : cs[k]? = some (some (.lst ds)) := by rfl) (e : cs.set k (some (.lst (ds.take i.toNat ++ [d] ++ ds.drop i.toNat))) = cs' := by rfl) :
    wM W (fun x vs H Q => ∃ (l : Addr) (xs : List V) (i : Int) (y : V), x = .ref l ∧ vs = [.int i, y] ∧ H l = some (.lst xs) ∧ xs.length < sizeLine ∧ 0 ≤ i ∧ i < 2 ^ 63 ∧ Q .non (upd H l (.lst (xs.take i.toNat ++ [y] ++ xs.drop i.toNat)))) (.c k) [.d (.int i), .d d] cs sl st Q := fun H σ vx vs ws l R Q' kk => by
  subst e
  match vs, l, R with
  | [u, v], _, R =>
    have R : Rep W H σ (u :: v :: vx :: ws) cs sl (.d (.int i) :: .d d :: .c k :: st) := R
    obtain rfl := R.int
    obtain ⟨as, R⟩ := R.drop1
    have hd := R.st.1
    obtain ⟨a, xs, rfl, ha, h1, h2, h3, h4⟩ := R.drop1.seqC hk
    refine ⟨a, xs, i, v, rfl, rfl, h1, sz_lt (by omega), hi.1, by omega, ?_⟩
    have R2 := cell_set R ha hk (ys := xs.take i.toNat ++ [v] ++ xs.drop i.toNat) (es := ds.take i.toNat ++ [d] ++ ds.drop i.toNat) (by simp only [List.length_append, List.length_take, List.length_drop, List.length_singleton]; omega) (((h4.take _).app (.cons hd .nil)).app (h4.drop _))
    exact kk _ _ _ _ q (Rep.push ⟨as, R2.drop1.drop1⟩ scd_non)
theorem m_clear {k : Nat} {ds : List D} {cs' : Cs} (q : Q (.d .non) cs') (hk : cs[k]? = some (some (.lst ds)) := by rfl) (e : cs.set k (some (.lst [])) = cs' := by rfl) : wM W rClear (.c k) [] cs sl st Q := fun H σ vx vs ws l R Q' kk => by
  subst e
  match vs, l, R with
  | [], _, R =>
    have R : Rep W H σ (vx :: ws) cs sl (.c k :: st) := R
    obtain ⟨as, R⟩ := R
    obtain ⟨a, xs, rfl, ha, h1, h2, h3, h4⟩ := R.seqC hk
    refine ⟨a, xs, rfl, rfl, h1, ?_⟩
    have R2 := cell_set R ha hk (ys := []) (es := []) (Nat.zero_le _) .nil
    exact kk _ _ _ _ q (Rep.push ⟨as, R2.drop1⟩ scd_non)
theorem DvAll.rev {K : PySem.W.Frag} {C : Addr} {av : Addr → Prop} : ∀ {vs : List V} {ds : List D}, DvAll K C av H vs ds → DvAll K C av H vs.reverse ds.reverse
  | _, _, .nil => .nil
  | _, _, .cons h t => by
    rw [List.reverse_cons, List.reverse_cons]
    exact (DvAll.rev t).app (.cons h .nil)
theorem m_reverse {k : Nat} {ds : List D} {cs' : Cs} (q : Q (.d .non) cs') (hk : cs[k]? = some (some (.lst ds)) := by rfl) (e : cs.set k (some (.lst ds.reverse)) = cs' := by rfl) : wM W rReverse (.c k) [] cs sl st Q := fun H σ vx vs ws l R Q' kk => by
  subst e
  match vs, l, R with
  | [], _, R =>
    have R : Rep W H σ (vx :: ws) cs sl (.c k :: st) := R
    obtain ⟨as, R⟩ := R
    obtain ⟨a, xs, rfl, ha, h1, h2, h3, h4⟩ := R.seqC hk
    refine ⟨a, xs, rfl, rfl, h1, ?_⟩
    have R2 := cell_set R ha hk (ys := xs.reverse) (es := ds.reverse) (by rw [List.length_reverse]; omega) h4.rev
    exact kk _ _ _ _ q (Rep.push ⟨as, R2.drop1⟩ scd_non)
theorem DvAll.dropLast {K : PySem.W.Frag} {C : Addr} {av : Addr → Prop} {vs : List V} {ds : List D} (h : DvAll K C av H vs ds) : DvAll K C av H vs.dropLast ds.dropLast := by
  rw [List.dropLast_eq_take, List.dropLast_eq_take, h.len]
  exact h.take _
theorem m_pop {k : Nat} {ds : List D} {d : D} {cs' : Cs} (hd : ds[ds.length - 1]? = some d) (q : Q (.d d) cs') (hk : cs[k]? = some (some (.lst ds)) := by rfl) (e : cs.set k (some (.lst ds.dropLast)) = cs' := by rfl) : wM W rPop (.c k) [] cs sl st Q := fun H σ vx vs ws l R Q' kk => by
  subst e
  match vs, l, R with
  | [], _, R =>
    have R : Rep W H σ (vx :: ws) cs sl (.c k :: st) := R
    obtain ⟨as, R⟩ := R
    obtain ⟨a, xs, rfl, ha, h1, h2, h3, h4⟩ := R.seqC hk
    obtain ⟨v, h5, h6⟩ := h4.get hd
    refine ⟨a, xs, v, rfl, rfl, h1, by rw [h2]; exact h5, ?_⟩
    have R2 := cell_set (R.drop1.one h6) ha hk (ys := xs.dropLast) (es := ds.dropLast) (by rw [List.length_dropLast]; omega) h4.dropLast
    exact kk _ _ _ _ q ⟨as, R2⟩
/-- xs[i] = v -/
theorem w_sub {to ti : TE} {t : TSet} {x : Sd} {Q : Cs → Sl → Prop} (q : wE W to cs sl (x :: st) fun o cs1 => wE W ti cs1 sl (o :: x :: st) fun i cs2 => wM W (fun o vs H Q => ∃ i v, vs = [i, v] ∧ t o i v H (fun H' => Q .non H')) o [i, x] cs2 sl st fun _ cs3 => Q cs3 sl) : wG W (gSub to ti t) x cs sl st Q := fun H σ v ws R Q' k =>
  q H σ (v :: ws) R _ fun o cs1 vo H1 h1 R1 => h1 H1 σ (vo :: v :: ws) R1 _ fun i cs2 vi H2 h2 R2 => by
    obtain ⟨i', v', e, h3⟩ := h2 H2 σ vo [vi, v] ws rfl (R2.st' fun P hp => ⟨hp.1, hp.2.2.1, hp.2.1, hp.2.2.2⟩) (fun _ H' => Q' σ H') fun sd cs3 _ H3 h3 R3 => k cs3 sl σ H3 h3 R3.drop1
    cases e
    exact h3
theorem ixn_lt {n j : Nat} {i : Int} (h : ixN n i = some j) : j < n := (ixN_seq h).2.1
theorem m_setL {k : Nat} {ds : List D} {i : Int} {j : Nat} {d : D} {cs' : Cs} (hj : ixN ds.length i = some j) (q : Q (.d .non) cs') (hk : cs[k]? = some (some (.lst ds)) := by rfl) (e : cs.set k (some (.lst (ds.set j d))) = cs' := by rfl) : wM W (fun o vs H Q => ∃ i v, vs = [i, v] ∧ rSetL o i v H (fun H' => Q .non H')) (.c k) [.d (.int i), .d d] cs sl st Q := fun H σ vx vs ws l R Q' kk => by
  subst e
  match vs, l, R with
  | [u, v], _, R =>
    have R : Rep W H σ (u :: v :: vx :: ws) cs sl (.d (.int i) :: .d d :: .c k :: st) := R
    obtain rfl := R.int
    obtain ⟨as, R⟩ := R.drop1
    have hd := R.st.1
    obtain ⟨a, xs, rfl, ha, h1, h2, h3, h4⟩ := R.drop1.seqC hk
    refine ⟨.int i, v, rfl, z_setL h1 (by rw [h2]; exact hj) ?_⟩
    have R2 := cell_set R ha hk (ys := xs.set j v) (es := ds.set j d) (by rw [List.length_set]; omega) (h4.set j hd)
    exact kk _ _ _ _ q (Rep.push ⟨as, R2.drop1.drop1⟩ scd_non)
theorem ixn_nat {n j : Nat} {i : Int} (e : i = j) (h : j < n) : ixN n i = some j := by
  subst e
  unfold ixN
  rw [if_pos (by omega), if_pos (by omega)]
  simp
/-- x += e -/
theorem w_augI {i : Nat} {te : TE} {g : Int → Int → Int} {a : Int} {F : DE} (h : sl[i]? = some (some (.d (.int a)))) (q : wE W te cs sl st fun y cs1 => R1K (fun b => SetK (sl.set i (some (.d (.int (g a b))))) (F.nx cs1)) [y]) : wS W (tAug i te (ipI g)) cs sl st F := fun H σ ws R De k => by
  have h0 : σ[i]? = some (some (.int a)) := by
    obtain ⟨as, R⟩ := R
    obtain ⟨v, h1, h2⟩ := R.sl.get h
    have h2 : Dv W.K W.C (Av W as cs) H v (.int a) := h2
    cases h2
    exact h1
  refine ⟨.int a, h0, q H σ ws R _ fun y cs1 vy H1 h1 R1 => ?_⟩
  cases y with
  | d y => cases y with
    | int b =>
      obtain rfl := R1.int
      exact ⟨a, b, rfl, rfl, k.nx _ _ _ _ h1 ((R1.drop1.push (scd_int (g a b))).set i)⟩
    | _ => exact h1.elim
  | _ => exact h1.elim
/-! ### x in xs -/
theorem inv_int (t : Int) : ∀ xs : List Int, inV (.int t) (xs.map V.int) = decide (t ∈ xs)
  | [] => by simp [inV]
  | x :: xs => by
    have h := inv_int t xs
    unfold inV at h ⊢
    rw [List.map_cons, List.any_cons, h]
    unfold eqV
    rw [Bool.eq_iff_iff]
    simp only [Bool.or_eq_true, beq_iff_eq, decide_eq_true_eq, List.mem_cons]
    exact ⟨fun h => h.elim (fun h => .inl h.symm) .inr, fun h => h.elim (fun h => .inl h.symm) .inr⟩
theorem inv_str (t : Str) : ∀ xs : List Str, inV (.str t) (xs.map V.str) = decide (t ∈ xs)
  | [] => by simp [inV]
  | x :: xs => by
    have h := inv_str t xs
    unfold inV at h ⊢
    rw [List.map_cons, List.any_cons, h]
    unfold eqV
    rw [Bool.eq_iff_iff]
    simp only [Bool.or_eq_true, beq_iff_eq, decide_eq_true_eq, List.mem_cons]
    exact ⟨fun h => h.elim (fun h => .inl h.symm) .inr, fun h => h.elim (fun h => .inl h.symm) .inr⟩
theorem all_flat {α : Type} (f : α → V) (h : ∀ x, flatV (f x) = true) (xs : List α) : (xs.map f).all flatV = true := by
  rw [List.all_map]
  exact List.all_eq_true.mpr fun x _ => h x
theorem o_inI {y : Sd} {i : Int} {ns : List Int} (q : Q (.d (.bl (decide (i ∈ ns)))) cs) (h : rdQ cs y = some (ns.map .int) := by rfl) : wO W (sIn W.K) (.d (.int i)) y cs sl st Q := fun H σ vx vy ws R Q' k => by
  obtain rfl := R.drop1.int
  obtain ⟨as, R⟩ := R
  obtain ⟨a, xs, rfl, h1, h2, h3, h4⟩ := R.rq h
  have := h4.ints
  subst this
  exact ⟨_, h1, rfl, all_flat _ (fun _ => rfl) ns, by rw [inv_int]; exact k _ _ _ _ q ((Rep.drop1 (Rep.drop1 ⟨as, R⟩)).push (scd_bl _))⟩
theorem o_ninI {y : Sd} {i : Int} {ns : List Int} (q : Q (.d (.bl (!decide (i ∈ ns)))) cs) (h : rdQ cs y = some (ns.map .int) := by rfl) : wO W (sNotIn W.K) (.d (.int i)) y cs sl st Q := fun H σ vx vy ws R Q' k => by
  obtain rfl := R.drop1.int
  obtain ⟨as, R⟩ := R
  obtain ⟨a, xs, rfl, h1, h2, h3, h4⟩ := R.rq h
  have := h4.ints
  subst this
  exact ⟨_, h1, rfl, all_flat _ (fun _ => rfl) ns, by rw [inv_int]; exact k _ _ _ _ q ((Rep.drop1 (Rep.drop1 ⟨as, R⟩)).push (scd_bl _))⟩
theorem o_inS {y : Sd} {i : Str} {ns : List Str} (q : Q (.d (.bl (decide (i ∈ ns)))) cs) (h : rdQ cs y = some (ns.map .str) := by rfl) : wO W (sIn W.K) (.d (.str i)) y cs sl st Q := fun H σ vx vy ws R Q' k => by
  obtain rfl := R.drop1.str
  obtain ⟨as, R⟩ := R
  obtain ⟨a, xs, rfl, h1, h2, h3, h4⟩ := R.rq h
  have := h4.strs
  subst this
  exact ⟨_, h1, rfl, all_flat _ (fun _ => rfl) ns, by rw [inv_str]; exact k _ _ _ _ q ((Rep.drop1 (Rep.drop1 ⟨as, R⟩)).push (scd_bl _))⟩
theorem o_inC {c : Nat} {z : Str} (q : Q (.d (.bl (decide (c ∈ z.cps.toList)))) cs) : wO W (sIn W.K) (.d (.str ⟨#[c]⟩)) (.d (.str z)) cs sl st Q := o_str (scd_bl _) (fun _ _ h => z_inS h) q
theorem o_ninC {c : Nat} {z : Str} (q : Q (.d (.bl (!decide (c ∈ z.cps.toList)))) cs) : wO W (sNotIn W.K) (.d (.str ⟨#[c]⟩)) (.d (.str z)) cs sl st Q := o_str (scd_bl _) (fun _ _ h => z_ninS h) q
theorem o_any {x : Sd} {bs : List Bool} (q : Q (.d (.bl (bs.any id))) cs) (h : rdD cs x = some (.lst (bs.map .bl)) := by rfl) : wC W (sAny W.K) [x] cs sl st Q := fun H σ vs ws l R Q' k => by
  match vs, l, R with
  | [v], _, R =>
    have R : Rep W H σ (v :: ws) cs sl (x :: st) := R
    obtain ⟨as, R1⟩ := R
    obtain ⟨a, xs, rfl, h1, h4⟩ := R1.rl h
    have := h4.bls
    subst this
    exact ⟨a, bs, rfl, .inl (.inl h1), k _ _ _ _ q ((Rep.drop1 ⟨as, R1⟩).push (scd_bl _))⟩
theorem m_join {a : Str} {y : Sd} {ys : List Str} (hz : (ys.map (·.length)).sum + ys.length * a.length ≤ 16777216) (q : Q (.d (.str (Txt.join a ys))) cs) (h : rdQ cs y = some (ys.map .str) := by rfl) : wM W (sJoin W.K) (.d (.str a)) [y] cs sl st Q := fun H σ vx vs ws l R Q' kk => by
  match vs, l, R with
  | [v], _, R =>
    have R : Rep W H σ (v :: vx :: ws) cs sl (y :: .d (.str a) :: st) := by
      have := R
      exact this
    obtain rfl := R.drop1.str
    obtain ⟨as, R⟩ := R
    obtain ⟨p, xs, rfl, h1, h2, h3, h4⟩ := R.rq h
    have := h4.strs
    subst this
    exact z_join h1 hz (kk _ _ _ _ q ((Rep.drop1 (Rep.drop1 ⟨as, R⟩)).push (scd_str _)))
/-! ### slices -/
def cutD (ds : List D) (lo hi : Option Int) : List D := (ds.drop (HT.sIx ds.length 0 lo)).take (HT.sIx ds.length ds.length hi - HT.sIx ds.length 0 lo)
theorem DvAll.cut {K : PySem.W.Frag} {C : Addr} {av : Addr → Prop} {vs : List V} {ds : List D} (h : DvAll K C av H vs ds) (lo hi : Option Int) : DvAll K C av H (cutV vs lo hi) (cutD ds lo hi) := by
  unfold cutV cutD
  rw [h.len]
  exact (h.drop _).take _
theorem cutD_len (ds : List D) (lo hi : Option Int) : (cutD ds lo hi).length ≤ ds.length := by
  unfold cutD
  rw [List.length_take, List.length_drop]
  omega
/-- a piece of a slice -/
def wP (W : Wo) (t : TO) (cs : Cs) (sl : Sl) (st : List Sd) (Q : Option Int → Cs → Prop) : Prop := ∀ (H : Hp) (σ : L2.St) (ws : List V), Rep W H σ ws cs sl st → ∀ Q' : Option Int → Hp → Prop, (∀ i cs' H', Q i cs' → Rep W H' σ ws cs' sl st → Q' i H') → t σ H Q'
theorem w_nopart {Q : Option Int → Cs → Prop} (q : Q none cs) : wP W tNoPart cs sl st Q := fun H σ ws R Q' k => k _ _ _ q R
theorem w_part {t : TE} {Q : Option Int → Cs → Prop} (q : wE W t cs sl st fun x cs1 => R1K (fun i => Q (some i) cs1) [x]) : wP W (tPart t) cs sl st Q := fun H σ ws R Q' k => q H σ ws R _ fun x cs1 v H1 h1 R1 => by
  cases x with
  | d x => cases x with
    | int i =>
      obtain rfl := R1.int
      exact ⟨i, rfl, k _ _ _ h1 R1.drop1⟩
    | _ => exact h1.elim
  | _ => exact h1.elim
def wL (W : Wo) (r : V → Option Int → Option Int → Hp → VK → Prop) (x : Sd) (lo hi : Option Int) (cs : Cs) (sl : Sl) (st : List Sd) (Q : Sd → Cs → Prop) : Prop := ∀ (H : Hp) (σ : L2.St) (v : V) (ws : List V), Rep W H σ (v :: ws) cs sl (x :: st) → ∀ Q' : VK, (∀ sd cs' v H', Q sd cs' → Rep W H' σ (v :: ws) cs' sl (sd :: st) → Q' v H') → r v lo hi H Q'
def wLN (W : Wo) (r : V → Option Int → Option Int → Hp → VK → Prop) (x : Sd) (lo hi : Option Int) (cs : Cs) (sl : Sl) (st : List Sd) (Q : List D → Cs → Prop) : Prop := ∀ (H : Hp) (σ : L2.St) (v : V) (ws : List V), Rep W H σ (v :: ws) cs sl (x :: st) → ∀ Q' : VK, (∀ ds cs' v H', Q ds cs' → Rep W H' σ (v :: ws) (cs' ++ [some (.lst ds)]) sl (.c cs'.length :: st) → Rep W H' σ (v :: ws) cs' sl (.d (.lst ds) :: st) → Q' v H') → r v lo hi H Q'
theorem w_sl {r : V → Option Int → Option Int → Hp → VK → Prop} {te : TE} {tl th : TO} (q : wE W te cs sl st fun x cs1 => wP W tl cs1 sl (x :: st) fun l cs2 => wP W th cs2 sl (x :: st) fun h cs3 => wL W r x l h cs3 sl st Q) : wE W (tSl r te tl th) cs sl st Q := fun H σ ws R Q' k =>
  q H σ ws R _ fun x cs1 v H1 h1 R1 => h1 H1 σ (v :: ws) R1 _ fun l cs2 H2 h2 R2 => h2 H2 σ (v :: ws) R2 _ fun h cs3 H3 h3 R3 => h3 H3 σ v ws R3 Q' k
theorem w_slN {Q : List D → Cs → Prop} {r : V → Option Int → Option Int → Hp → VK → Prop} {te : TE} {tl th : TO} (q : wE W te cs sl st fun x cs1 => wP W tl cs1 sl (x :: st) fun l cs2 => wP W th cs2 sl (x :: st) fun h cs3 => wLN W r x l h cs3 sl st Q) : wN W (tSl r te tl th) cs sl st Q := fun H σ ws R Q' k =>
  q H σ ws R _ fun x cs1 v H1 h1 R1 => h1 H1 σ (v :: ws) R1 _ fun l cs2 H2 h2 R2 => h2 H2 σ (v :: ws) R2 _ fun h cs3 H3 h3 R3 => h3 H3 σ v ws R3 Q' k
theorem l_new {r : V → Option Int → Option Int → Hp → VK → Prop} {x : Sd} {lo hi : Option Int} (q : wLN W r x lo hi cs sl st fun ds cs1 => Q (.d (.lst ds)) cs1) : wL W r x lo hi cs sl st Q := fun H σ v ws R Q' k => q H σ v ws R Q' fun ds cs' v H' h _ R1 => k _ _ v H' h R1
theorem l_lst {x : Sd} {ds : List D} {lo hi : Option Int} {Q : List D → Cs → Prop} (q : Q (cutD ds lo hi) cs) (h : rdD cs x = some (.lst ds) := by rfl) : wLN W (sSl W.K) x lo hi cs sl st Q := fun H σ v ws R Q' k => by
  obtain ⟨as, R⟩ := R
  obtain ⟨a, xs, rfl, h1, h2, h3, h4⟩ := R.rlA h
  refine z_slL (.inl (.inl h1)) fun p n => ?_
  have R2 := new_list (p := p) (H := H) (W := W) (ds := cutD ds lo hi) ⟨as, R.drop1.all (h4.cut lo hi)⟩ (h4.cut lo hi).len (by have := cutD_len ds lo hi; omega) n
  exact k _ _ _ _ q R2.1 R2.2
theorem l_tup {ds : List D} {lo hi : Option Int} (q : Q (.d (.tup (cutD ds lo hi))) cs) : wL W (sSl W.K) (.d (.tup ds)) lo hi cs sl st Q := fun H σ v ws R Q' k => by
  obtain ⟨as, R⟩ := R
  obtain ⟨a, xs, rfl, h1, h2, h3, h4⟩ := R.seqT
  refine .inr ⟨a, xs, rfl, h1, fun e => ?_, fun e p n => ?_⟩
  · rw [h2] at e
    have : cutD ds lo hi = ds := by
      unfold cutD
      rw [e.1, e.2]
      simp
    rw [this] at q
    exact k _ _ _ _ q ⟨as, R⟩
  · exact k _ _ _ _ q (new_tup ⟨as, R.drop1.all (h4.cut lo hi)⟩ (h4.cut lo hi).len (by have := cutD_len ds lo hi; omega) n)
theorem l_str {a : Str} {lo hi : Option Int} (hl : a.length ≤ 1000000) (q : Q (.d (.str (Txt.slice a lo hi))) cs) : wL W (sSl W.K) (.d (.str a)) lo hi cs sl st Q := fun H σ v ws R Q' k => by
  obtain rfl := R.str
  exact ⟨sz_of hl, k _ _ _ _ q (R.drop1.push (scd_str _))⟩
end
/-! ### defs -/
/-- what a def gives back: data, or a new list -/
inductive Rt where
  | d (x : D) | n (ds : List D)
abbrev DSp := List D → (Rt → Prop) → ErP → Prop
def RtOk (K : PySem.W.Frag) (C : Addr) (av : Addr → Prop) (H H' : Hp) (v : V) : Rt → Prop
  | .d x => Dv K C av H' v x
  | .n ds => ∃ p vs, v = .ref p ∧ H p = none ∧ H' p = some (.lst vs) ∧ vs.length ≤ 900000 ∧ DvAll K C (fun b => av b ∨ b = p) H' vs ds
/-- a def of the program: data in, data out, all that stood stands -/
def liftP (K : PySem.W.Frag) (C : Addr) (dsp : DSp) : Sp := fun vs H Q E => ∃ (av : Addr → Prop) (ds : List D) (Qd : Rt → Prop) (Ed : ErP), (∀ b, av b → ∃ o, H b = some o ∧ Na o) ∧ DvAll K C av H vs ds ∧ dsp ds Qd Ed ∧
  (∀ rt v H', Qd rt → Ex H H' → RtOk K C av H H' v rt → Q v H') ∧ ∀ Cx fs H', Ed Cx fs → Ex H H' → Er E Cx fs H'
/-- a def of the law that draws: the source first -/
def liftR (K : PySem.W.Frag) (C : Addr) (dsp : List D → (Rt → Prop) → Prop) : Sp := fun vs H Q _ => ∃ (r l : Addr) (vs' : List V) (av : Addr → Prop) (ds : List D) (Qd : Rt → Prop), vs = .ref r :: vs' ∧ Rng H r l ∧ (∀ b, av b → b ≠ r ∧ ∃ o, H b = some o ∧ Na o) ∧ DvAll K C (fun b => av b ∨ b = r) H vs' ds ∧ dsp ds Qd ∧
  ∀ rt v H', Qd rt → Kp r H H' → Rng H' r l → RtOk K C (fun b => av b ∨ b = r) H H' v rt → Q v H'
/-- errors that may leave -/
def EOk (W : Wo) (E : XK) (Ed : ErP) : Prop := ∀ Cx fs H (σ : L2.St) ws cs sl st, Ed Cx fs → Rep W H σ ws cs sl st → Er E Cx fs H
def RtF (Q : Rt → Prop) (sd : Sd) (cs : Cs) : Prop := match sd with
  | .d x => Q (.d x)
  | .c k => ∃ ds, cs[k]? = some (some (.lst ds)) ∧ Q (.n ds)
  | .r => False
theorem rtf_d {Q : Rt → Prop} {x : D} {cs : Cs} (h : Q (.d x)) : RtF Q (.d x) cs := h
theorem rtf_c {Q : Rt → Prop} {k : Nat} {ds : List D} {cs : Cs} (e : cs[k]? = some (some (.lst ds))) (h : Q (.n ds)) : RtF Q (.c k) cs := ⟨ds, e, h⟩
def slStart (N : List Str) (ds : List D) : Sl := ds.map (fun d => some (.d d)) ++ List.replicate (N.length - ds.length) none
abbrev deP (Qd : Rt → Prop) : DE := { nx := fun _ _ => Qd (.d .non), rt := RtF Qd }
theorem slok_start {P : V → Sd → Prop} : ∀ {vs : List V} {ss : List D} {n : Nat}, (∀ (i : Nat) v d, vs[i]? = some v → ss[i]? = some d → P v (.d d)) → vs.length = ss.length → SlOk P (vs.map some ++ List.replicate n none) (ss.map (fun d => some (Sd.d d)) ++ List.replicate n none)
  | [], [], n, _, _ => by
    induction n with
    | zero => exact trivial
    | succ n ih => exact ih
  | v :: vs, d :: ds, n, h, l => ⟨⟨v, rfl, h 0 v d rfl rfl⟩, slok_start (fun i v d h1 h2 => h (i + 1) v d (by simpa using h1) (by simpa using h2)) (Nat.succ.inj l)⟩
  | [], _ :: _, _, _, l => by simp at l
  | _ :: _, [], _, _, l => by simp at l
theorem DvAll.at2 {K : PySem.W.Frag} {C : Addr} {av : Addr → Prop} {H : Hp} {vs : List V} {ds : List D} (h : DvAll K C av H vs ds) (i : Nat) (v : V) (d : D) (h1 : vs[i]? = some v) (h2 : ds[i]? = some d) : Dv K C av H v d := by
  obtain ⟨e, h3, h4⟩ := h.getV h1
  rw [h2] at h3
  cases h3
  exact h4
section
variable {P : Program} {w : World} {K : PySem.W.Frag} {mg : Str → Option Value} {base : Heap}
/-- what leaves a def of the program -/
theorem rt_out {C : Addr} {av : Addr → Prop} {H0 H : Hp} {v : V} {σ : L2.St} {ws : List V} {cs : Cs} {sl : Sl} {st : List Sd} {sd : Sd} {Qd : Rt → Prop} {rg : Option (Addr × Addr)} (R : Rep ⟨K, C, av, rg, H0, []⟩ H σ (v :: ws) cs sl (sd :: st)) (h : RtF Qd sd cs) : ∃ rt, Qd rt ∧ RtOk K C (fun b => av b ∨ ∃ p, rg = some p ∧ b = p.1) H0 H v rt := by
  obtain ⟨as, R⟩ := R
  cases sd with
  | r => exact h.elim
  | d x =>
    refine ⟨.d x, h, ?_⟩
    exact R.st.1.step (fun _ _ q _ _ => q) fun b o q _ => q.elim .inl fun q => .inr (.inl q)
  | c k =>
    obtain ⟨ds, hk, h⟩ := h
    refine ⟨.n ds, h, ?_⟩
    obtain ⟨a, xs, rfl, ha, h1, h2, h3, h4⟩ := R.seqC hk
    obtain ⟨_, _, n, _⟩ := R.new a (List.mem_of_getElem? ha)
    exact ⟨a, xs, rfl, n rfl, h1, by omega, h4.step (fun _ _ q _ _ => q) fun b o q _ => q.elim (fun q => q.elim .inl fun q => .inr (.inl q)) fun q => .inr (.inr ⟨k, q ▸ ha, _, hk⟩)⟩
theorem ok_P {x : Str} {st : Stmt} {ps N : List Str} {k : Nat} {C : Addr} {dsp : DSp} (d : DF K mg x st ps) (S : FnScope N ps (defScope st)) (len : ∀ ds Q E, dsp ds Q E → ds.length = ps.length)
    (hbody : ∀ (cdv : Value) (A : Around) (outer : List Env) (s : Shared) (H : Hp) (E : XK) (ds : List D) (Qd : Rt → Prop) (Ed : ErP) (fr : Addr → Prop), Room k (A.deeper (envOfC x (defScope st) s.heap.objs.size d.f cdv)) → dsp ds Qd Ed → EOk ⟨K, C, fr, none, H, []⟩ E Ed →
      ∃ t, PSs (cxOf (L2.CX P w) P w K mg base N x (defScope st) d.f cdv A outer s H E) (defBody st) t ∧ wS ⟨K, C, fr, none, H, []⟩ t [] (slStart N ds) [] (deP Qd)) : Ok P w K mg base (k + 1) d (liftP K C dsp) := by
  refine ok_of d S (fun vs H Q E h => ?_) fun cdv A outer s H vs Q E hr h => ?_
  · obtain ⟨av, ds, Qd, Ed, _, h1, h2, _⟩ := h
    rw [h1.len]
    exact len _ _ _ h2
  · obtain ⟨av, ds, Qd, Ed, h0, h1, h2, h3, h4⟩ := h
    obtain ⟨t, ht, hw⟩ := hbody cdv A outer s H E ds Qd Ed av hr h2 (fun Cx fs H' σ ws cs sl st hE R => h4 Cx fs H' hE fun b o hb => by
      obtain ⟨as, R⟩ := R
      exact R.kp rfl b o hb fun p hp => nomatch hp)
    refine ⟨t, ht, hw H _ [] ⟨[], rfl, List.nodup_nil, fun _ h => absurd h List.not_mem_nil, h0, fun _ _ _ h _ => h, fun _ h => (nomatch h), fun _ h => absurd h List.not_mem_nil, fun i _ _ h => by simp at h, ?_, trivial⟩ _ ⟨fun cs sl σ H' hq R => ?_, fun sd cs v H' σ ws sl st hq R => ?_, fun _ _ _ _ h => h.elim, fun _ _ _ _ h => h.elim⟩⟩
    · show SlOk _ (vs.map some ++ List.replicate (N.length - vs.length) none) (slStart N ds)
      unfold slStart
      rw [h1.len]
      exact slok_start (fun i v d a b => (h1.at2 i v d a b).step (fun _ _ q _ _ => q) fun b o q _ => q.elim id fun q => q.elim (fun ⟨p, hp, _⟩ => (nomatch hp)) fun ⟨k, hk, _⟩ => by simp at hk) h1.len
    · obtain ⟨as, R⟩ := R
      exact h3 (.d .non) .non H' hq (fun b o hb => R.kp rfl b o hb fun p hp => nomatch hp) .non
    · obtain ⟨rt, hq, hr⟩ := rt_out R hq
      have ex : Ex H H' := fun b o hb => by
        obtain ⟨as, R⟩ := R
        exact R.kp rfl b o hb fun p hp => nomatch hp
      refine h3 rt v H' hq ex ?_
      cases rt with
      | d x => exact Dv.step (fun _ _ q _ _ => q) (fun b o q _ => .inl q) hr
      | n es =>
        obtain ⟨p, us, e1, e2, e3, e4, e5⟩ := hr
        exact ⟨p, us, e1, e2, e3, e4, e5.step (fun _ _ q _ _ => q) fun b o q _ => q.elim (fun q => .inl (.inl q)) .inr⟩
theorem ok_R {x : Str} {st : Stmt} {ps N : List Str} {k : Nat} {C : Addr} {dsp : List D → (Rt → Prop) → Prop} (d : DF K mg x st ps) (S : FnScope N ps (defScope st)) (len : ∀ ds Q, dsp ds Q → ds.length + 1 = ps.length)
    (hbody : ∀ (cdv : Value) (A : Around) (outer : List Env) (s : Shared) (H : Hp) (E : XK) (ds : List D) (Qd : Rt → Prop) (fr : Addr → Prop) (rl : Addr × Addr), Room k (A.deeper (envOfC x (defScope st) s.heap.objs.size d.f cdv)) → dsp ds Qd → EOk ⟨K, C, fr, some rl, H, []⟩ E (fun _ _ => False) →
      ∃ t, PSs (cxOf (L2.CX P w) P w K mg base N x (defScope st) d.f cdv A outer s H E) (defBody st) t ∧ wS ⟨K, C, fr, some rl, H, []⟩ t [] (some .r :: (ds.map (fun d => some (Sd.d d)) ++ List.replicate (N.length - (ds.length + 1)) none)) [] (deP Qd)) : Ok P w K mg base (k + 1) d (liftR K C dsp) := by
  refine ok_of d S (fun vs H Q E h => ?_) fun cdv A outer s H vs Q E hr h => ?_
  · obtain ⟨r, l, vs', av, ds, Qd, rfl, _, _, h1, h2, _⟩ := h
    rw [List.length_cons, h1.len]
    exact len _ _ h2
  · obtain ⟨r, l, vs', av, ds, Qd, rfl, hR, h0, h1, h2, h3⟩ := h
    obtain ⟨t, ht, hw⟩ := hbody cdv A outer s H E ds Qd av (r, l) hr h2 (fun _ _ _ _ _ _ _ _ h _ => h.elim)
    have kp : ∀ {H' σ ws cs sl st}, Rep ⟨K, C, av, some (r, l), H, []⟩ H' σ ws cs sl st → Kp r H H' ∧ Rng H' r l := fun {H' σ ws cs sl st} ⟨as, R⟩ => ⟨fun b o hb n => R.kp rfl b o hb fun p hp => by cases hp; exact n, (R.rng (r, l) rfl).2⟩
    refine ⟨t, ht, hw H _ [] ⟨[], rfl, List.nodup_nil, fun _ h => absurd h List.not_mem_nil, fun a ha => (h0 a ha).2, fun _ _ _ h _ => h, fun p hp => ?_, fun _ h => absurd h List.not_mem_nil, fun i _ _ h => by simp at h, ?_, trivial⟩ _ ⟨fun cs sl σ H' hq R => ?_, fun sd cs v H' σ ws sl st hq R => ?_, fun _ _ _ _ h => h.elim, fun _ _ _ _ h => h.elim⟩⟩
    · cases hp
      exact ⟨fun h => (h0 _ h).1 rfl, hR⟩
    · show SlOk _ ((V.ref r :: vs').map some ++ List.replicate (N.length - (V.ref r :: vs').length) none) _
      refine ⟨⟨_, rfl, (r, l), rfl, rfl⟩, ?_⟩
      rw [List.length_cons, h1.len]
      exact slok_start (fun i v d a b => (h1.at2 i v d a b).step (fun _ _ q _ _ => q) fun b o q _ => q.elim .inl fun q => q.elim (fun ⟨p, hp, e⟩ => by cases hp; exact .inr e) fun ⟨k, hk, _⟩ => by simp at hk) h1.len
    · exact h3 (.d .non) .non H' hq (kp R).1 (kp R).2 .non
    · obtain ⟨rt, hq, hr⟩ := rt_out R hq
      refine h3 rt v H' hq (kp R).1 (kp R).2 ?_
      cases rt with
      | d x => exact Dv.step (fun _ _ q _ _ => q) (fun b o q _ => q.elim .inl fun q => .inr ⟨_, rfl, q⟩) hr
      | n es =>
        obtain ⟨p, us, e1, e2, e3, e4, e5⟩ := hr
        exact ⟨p, us, e1, e2, e3, e4, e5.step (fun _ _ q _ _ => q) fun b o q _ => q.elim (fun q => q.elim (fun q => .inl (.inl q)) fun q => .inl (.inr ⟨_, rfl, q⟩)) .inr⟩
end
end R

/-! # W6: calls, errors, over data -/
namespace R
open PySem PySem.Spec PyProof.Rows L2 L2H LamX
section
variable {W : Wo} {cs : Cs} {sl : Sl} {st : List Sd} {Q : Sd → Cs → Prop} {H H' : Hp} {σ : L2.St} {ws : List V}
/-- a new list that a def has made -/
theorem RepA.adopt {as : List Addr} (R : RepA W as H σ ws cs sl st) {p : Addr} (n : H p = none) {o : HO} {c : Cell} (e : Stp W H H') (g : ∀ q, W.rg = some q → Rng H' q.1 q.2) (t : Tabs W.TT H') (hp : H' p = some o) (h : CellHO W.K W.C (fun b => Av W as cs b ∨ b = p) H' o c) : RepA W (as ++ [p]) H' σ ws (cs ++ [some c]) sl st := by
  obtain ⟨f0, f1, f2, f3, f4⟩ := R.fresh n
  have k : ∀ b u, H b = some u → ¬ Av W as cs b → Nt u → H' b = some u := fun b u hb n z => e b u hb (av_nr n) (.inr z)
  have k2 : ∀ b u, Av W (as ++ [p]) (cs ++ [some c]) b → H b = some u → Av W as cs b := fun b u hb hu => (av_grow R.len hb).elim id fun e => by
    rw [e, n] at hu
    cases hu
  refine ⟨by simp [R.len], List.nodup_append.mpr ⟨R.nd, by simp, fun a ha b hb => by rw [List.mem_singleton.mp hb]; exact fun e => f1 (e ▸ ha)⟩, fun a ha => ?_, fun a ha => ?_, fun ht b u h1 h2 => e b u (R.kp ht b u h1 h2) h2 (.inl ht), fun q hq => ⟨(R.rng q hq).1, g q hq⟩, t, fun i a x h1 h2 => ?_, R.sl.imp fun v s h => h.grow k k2, R.st.imp fun v s h => h.grow k k2⟩
  · rcases List.mem_append.mp ha with ha | ha
    · obtain ⟨h1, h2, h3, u, h4, h5⟩ := R.new a ha
      exact ⟨h1, h2, h3, u, e a u h4 (fun p hp => (h2 p hp).1) (.inr h5.1), h5⟩
    · rw [List.mem_singleton.mp ha]
      exact ⟨f3, f4, f2, o, hp, h.nt⟩
  · obtain ⟨u, h4, h5⟩ := R.fra a ha
    exact ⟨u, e a u h4 (fun p hp z => (R.rng p hp).1 (z ▸ ha)) (.inr h5.1), h5⟩
  · by_cases hi : i < as.length
    · rw [List.getElem?_append_left hi] at h1
      rw [List.getElem?_append_left (by rw [← R.len]; exact hi)] at h2
      obtain ⟨u, h3, h4⟩ := R.cells i a x h1 h2
      obtain ⟨_, n2, _⟩ := R.new a (List.mem_of_getElem? h1)
      exact ⟨u, e a u h3 (fun p hp => (n2 p hp).1) (.inr h4.nt.1), h4.step k k2⟩
    · rw [List.getElem?_append_right (by omega)] at h1
      rw [List.getElem?_append_right (by rw [← R.len]; omega)] at h2
      cases q : i - as.length with
      | succ j => rw [q] at h1; simp at h1
      | zero =>
        rw [q] at h1
        rw [← R.len, q] at h2
        have e1 : p = a := by simpa using h1
        have e2 : c = x := by simpa using h2
        subst e1 e2
        exact ⟨o, hp, h.step (fun _ _ q _ _ => q) fun b u q _ => av_grow R.len q⟩
theorem RepA.alloc {as : List Addr} (R : RepA W as H σ ws cs sl st) {b : Addr} (h : Av W as cs b) : ∃ o, H b = some o ∧ Na o := by
  rcases h with h | ⟨p, hp, rfl⟩ | ⟨k, hk, _⟩
  · exact R.fra b h
  · obtain ⟨ns, i, c, s, h1, _⟩ := (R.rng p hp).2
    exact ⟨_, h1, ⟨fun _ z => (by cases z), fun _ z => (by cases z), fun _ _ z => by cases z⟩⟩
  · exact (R.new b (List.mem_of_getElem? hk)).2.2.2
/-- what comes back from a def of the program -/
theorem back_d {as : List Addr} (R : RepA W as H σ ws cs sl st) (e : Ex H H') {v : V} {rt : Rt} (h : RtOk W.K W.C (Av W as cs) H H' v rt) : Rep W H' σ (v :: ws) cs sl (.d (match rt with | .d x => x | .n ds => .lst ds) :: st) := by
  cases rt with
  | d x => exact ⟨as, (R.ex e).one h⟩
  | n ds =>
    obtain ⟨p, vs, rfl, h1, h2, h3, h4⟩ := h
    exact ⟨as, (R.ex e).one (.lst h2 (R.fresh h1).1 h3 (h4.step (fun _ _ q _ _ => q) fun b o q _ => .inl q))⟩
def RtK (Q : Sd → Cs → Prop) (cs : Cs) : Rt → Prop
  | .d x => Q (.d x) cs
  | .n ds => Q (.d (.lst ds)) cs
def RtN (Q : List D → Cs → Prop) (cs : Cs) : Rt → Prop
  | .n ds => Q ds cs
  | .d _ => False
theorem rtk_d {x : D} (h : Q (.d x) cs) : RtK Q cs (.d x) := h
theorem rtk_n {ds : List D} (h : Q (.d (.lst ds)) cs) : RtK Q cs (.n ds) := h
theorem rtn {ds : List D} {Q : List D → Cs → Prop} (h : Q ds cs) : RtN Q cs (.n ds) := h
theorem call_core {dsp : DSp} {E : XK} {Ed : ErP} (he : EOk W E Ed) {vs : List V} {ds : List D} (R : Rep W H σ (vs ++ ws) cs sl (ds.map .d ++ st)) (l : vs.length = ds.length) (h : dsp ds (RtK Q cs) Ed) {Q' : VK} (k : ∀ sd cs' v H', Q sd cs' → Rep W H' σ (v :: ws) cs' sl (sd :: st) → Q' v H') : liftP W.K W.C dsp vs H Q' E := by
  obtain ⟨as, R⟩ := R
  have hs := StOk.split (by rw [List.length_map]; exact l) R.st
  have R0 := R.st' hs.2
  refine ⟨Av W as cs, ds, RtK Q cs, Ed, fun b h => R.alloc h, stok_all (fun _ _ h => h) hs.1, h, fun rt v H' hq e ok => ?_, fun Cx fs H' hE e => he Cx fs H' σ ws cs sl st hE ⟨as, R0.ex e⟩⟩
  have := back_d R0 e ok
  cases rt with
  | d x => exact k _ _ v H' hq this
  | n es => exact k _ _ v H' hq this
theorem call_coreN {dsp : DSp} {E : XK} {Ed : ErP} {Q : List D → Cs → Prop} (he : EOk W E Ed) {vs : List V} {ds : List D} (R : Rep W H σ (vs ++ ws) cs sl (ds.map .d ++ st)) (l : vs.length = ds.length) (h : dsp ds (RtN Q cs) Ed) {Q' : VK} (k : ∀ ds cs' v H', Q ds cs' → Rep W H' σ (v :: ws) (cs' ++ [some (.lst ds)]) sl (.c cs'.length :: st) → Rep W H' σ (v :: ws) cs' sl (.d (.lst ds) :: st) → Q' v H') : liftP W.K W.C dsp vs H Q' E := by
  obtain ⟨as, R⟩ := R
  have hs := StOk.split (by rw [List.length_map]; exact l) R.st
  have R0 := R.st' hs.2
  refine ⟨Av W as cs, ds, RtN Q cs, Ed, fun b h => R.alloc h, stok_all (fun _ _ h => h) hs.1, h, fun rt v H' hq e ok => ?_, fun Cx fs H' hE e => he Cx fs H' σ ws cs sl st hE ⟨as, R0.ex e⟩⟩
  have hb := back_d R0 e ok
  cases rt with
  | d x => exact hq.elim
  | n es =>
    refine k es cs v H' hq ?_ hb
    obtain ⟨p, us, rfl, h1, h2, h3, h4⟩ := ok
    have R1 := R0.adopt h1 (.ex e) (fun q hq => (R0.rng q hq).2.ex e) (R0.tab.ext e) h2 (c := .lst es) ⟨h3, h4⟩
    exact ⟨_, R1.st' ⟨⟨p, by rw [← R0.len]; simp, rfl⟩, R1.st⟩⟩
theorem argd_map {ds : List D} {xs : List Sd} (e : xs = ds.map .d) : xs.length = ds.length := by rw [e, List.length_map]
theorem eok0 {E : XK} : EOk W E (fun _ _ => False) := fun _ _ _ _ _ _ _ _ h _ => h.elim
theorem w_call {dsp : DSp} {E : XK} {Ed : ErP} {t : TA} (he : EOk W E Ed) (q : wA W t cs sl st fun xs cs1 => ArgD xs fun ds => dsp ds (RtK Q cs1) Ed) : wE W (tCall (liftP W.K W.C dsp) [] E t) cs sl st Q := fun H σ ws R Q' k => q H σ ws R _ fun xs cs1 vs H1 h1 l R1 => by
  obtain ⟨ds, rfl, h⟩ := argd h1
  rw [List.append_nil]
  exact call_core he R1 (by rw [l, List.length_map]) h k
theorem w_callO {dsp : DSp} {E : XK} {Ed : ErP} {t : TA} {Q : List D → Cs → Prop} (he : EOk W E Ed) (q : wA W t cs sl st fun xs cs1 => ArgD xs fun ds => dsp ds (RtN Q cs1) Ed) : wN W (tCall (liftP W.K W.C dsp) [] E t) cs sl st Q := fun H σ ws R Q' k => q H σ ws R _ fun xs cs1 vs H1 h1 l R1 => by
  obtain ⟨ds, rfl, h⟩ := argd h1
  rw [List.append_nil]
  exact call_coreN he R1 (by rw [l, List.length_map]) h k
/-- defaults left out -/
def ScAll : List V → List D → Prop
  | [], [] => True
  | v :: vs, d :: ds => ScD v d ∧ ScAll vs ds
  | _, _ => False
theorem scall : ∀ {vs : List V} {ds : List D}, ScAll vs ds → ∀ K C av H, DvAll K C av H vs ds
  | [], [], _, _, _, _, _ => .nil
  | _ :: _, _ :: _, h, _, _, _, _ => .cons (h.1 _ _ _ _) (scall h.2 _ _ _ _)
  | [], _ :: _, h, _, _, _, _ => h.elim
  | _ :: _, [], h, _, _, _, _ => h.elim
theorem scall1I {n : Int} {s : Str} : ScAll (List.map (fun x => x.2) [(s, V.int n)]) [.int n] := ⟨scd_int _, trivial⟩
theorem scall1N {s : Str} : ScAll (List.map (fun x => x.2) [(s, V.non)]) [.non] := ⟨scd_non, trivial⟩
theorem w_callD {dsp : DSp} {E : XK} {Ed : ErP} {t : TA} {dvs : List V} {dds : List D} (hd : ScAll dvs dds) (he : EOk W E Ed) (q : wA W t cs sl st fun xs cs1 => ArgD xs fun ds => dsp (ds ++ dds) (RtK Q cs1) Ed) : wE W (tCall (liftP W.K W.C dsp) dvs E t) cs sl st Q := fun H σ ws R Q' k => q H σ ws R _ fun xs cs1 vs H1 h1 l R1 => by
  obtain ⟨ds, rfl, h⟩ := argd h1
  have hl : vs.length = ds.length := by rw [l, List.length_map]
  refine call_core (ds := ds ++ dds) (vs := vs ++ dvs) (ws := ws) (st := st) he ?_ ?_ h k
  · obtain ⟨as, R1⟩ := R1
    have hs := StOk.split (by rw [List.length_map]; exact hl) R1.st
    have := all_stok (W := W) (as := as) (scall hd W.K W.C (Av W as cs1) H1)
    rw [List.map_append, List.append_assoc, List.append_assoc]
    exact ⟨as, R1.st' (StOk.app hs.1 (StOk.app this hs.2))⟩
  · rw [List.length_append, List.length_append, hl, (scall hd W.K W.C (fun _ => False) H1).len]
def KwK (n j : Nat) (xs zs : List Sd) (k : List D → Prop) : Prop := xs.length = n ∧ zs.length = j ∧ ArgD (xs ++ zs) k
theorem kw01 {n j : Nat} {z : Sd} {k : List D → Prop} (h1 : n = 0) (h2 : j = 1) (q : ArgD [z] k) : KwK n j [] [z] k := ⟨h1.symm, h2.symm, q⟩
theorem kw11 {n j : Nat} {x z : Sd} {k : List D → Prop} (h1 : n = 1) (h2 : j = 1) (q : ArgD [x, z] k) : KwK n j [x] [z] k := ⟨h1.symm, h2.symm, q⟩
theorem kw21 {n j : Nat} {x y z : Sd} {k : List D → Prop} (h1 : n = 2) (h2 : j = 1) (q : ArgD [x, y, z] k) : KwK n j [x, y] [z] k := ⟨h1.symm, h2.symm, q⟩
theorem w_callN {n j : Nat} {dsp : DSp} {E : XK} {Ed : ErP} {t tk : TA} (he : EOk W E Ed) (q : wA W t cs sl st fun xs cs1 => wA W tk cs1 sl (xs ++ st) fun zs cs2 => KwK n j xs zs fun ds => dsp ds (RtK Q cs2) Ed) : wE W (tCallN n j (liftP W.K W.C dsp) (fun vs zs => vs ++ zs) E t tk) cs sl st Q := fun H σ ws R Q' k => q H σ ws R _ fun xs cs1 vs H1 h1 l1 R1 => h1 H1 σ (vs ++ ws) R1 _ fun zs cs2 us H2 h2 l2 R2 => by
  obtain ⟨hn, hj, h3⟩ := h2
  obtain ⟨ds, e, h⟩ := argd h3
  refine ⟨by rw [l1, hn], by rw [l2, hj], ?_⟩
  refine call_core (ds := ds) (vs := vs ++ us) (ws := ws) (st := st) he ?_ ?_ h k
  · rw [← e, List.append_assoc, List.append_assoc]
    refine R2.st' fun P hp => ?_
    have h1 := StOk.split l2 hp
    have h2 := StOk.split l1 h1.2
    exact StOk.app h2.1 (StOk.app h1.1 h2.2)
  · rw [List.length_append, l1, l2, ← List.length_append, e, List.length_map]
theorem w_callNO {n j : Nat} {dsp : DSp} {E : XK} {Ed : ErP} {t tk : TA} {Q : List D → Cs → Prop} (he : EOk W E Ed) (q : wA W t cs sl st fun xs cs1 => wA W tk cs1 sl (xs ++ st) fun zs cs2 => KwK n j xs zs fun ds => dsp ds (RtN Q cs2) Ed) : wN W (tCallN n j (liftP W.K W.C dsp) (fun vs zs => vs ++ zs) E t tk) cs sl st Q := fun H σ ws R Q' k => q H σ ws R _ fun xs cs1 vs H1 h1 l1 R1 => h1 H1 σ (vs ++ ws) R1 _ fun zs cs2 us H2 h2 l2 R2 => by
  obtain ⟨hn, hj, h3⟩ := h2
  obtain ⟨ds, e, h⟩ := argd h3
  refine ⟨by rw [l1, hn], by rw [l2, hj], ?_⟩
  refine call_coreN (ds := ds) (vs := vs ++ us) (ws := ws) (st := st) he ?_ ?_ h k
  · rw [← e, List.append_assoc, List.append_assoc]
    refine R2.st' fun P hp => ?_
    have h1 := StOk.split l2 hp
    have h2 := StOk.split l1 h1.2
    exact StOk.app h2.1 (StOk.app h1.1 h2.2)
  · rw [List.length_append, l1, l2, ← List.length_append, e, List.length_map]
/-- a def of the law that draws -/
def ArgR : List Sd → (List D → Prop) → Prop
  | .r :: xs, k => ArgD xs k
  | _, _ => False
theorem ad_r {xs : List Sd} {k : List D → Prop} (h : ArgD xs k) : ArgR (.r :: xs) k := h
theorem callR_core {as : List Addr} {rl : Addr × Addr} (hrl : W.rg = some rl) (R : RepA W as H σ ws cs sl st) (kp : Kp rl.1 H H') (hR : Rng H' rl.1 rl.2) : RepA W as H' σ ws cs sl st :=
  R.step (fun b o hb n _ => kp b o hb (n rl hrl)) (fun p hp => by rw [hrl] at hp; cases hp; exact hR) (Tabs.kp R.tab kp (R.rng rl hrl).2)
theorem w_callR {dsp : List D → (Rt → Prop) → Prop} {E : XK} {t : TA} (q : wA W t cs sl st fun xs cs1 => ArgR xs fun ds => dsp ds (RtK Q cs1)) : wE W (tCall (liftR W.K W.C dsp) [] E t) cs sl st Q := fun H σ ws R Q' k => q H σ ws R _ fun xs cs1 vs H1 h1 l R1 => by
  match xs, h1, l, R1 with
  | .r :: xs, h1, l, R1 =>
    match vs, l, R1 with
    | v :: vs, l, R1 =>
    obtain ⟨ds, rfl, h⟩ := argd h1
    rw [List.append_nil]
    have l2 : vs.length = ds.length := by
      have := Nat.succ.inj l
      rw [this, List.length_map]
    obtain ⟨as, R1⟩ := R1
    obtain ⟨rl, hrl, rfl⟩ := R1.st.1
    have hs := StOk.split (by rw [List.length_map]; exact l2) R1.st.2
    have R0 := R1.st' hs.2
    have avr : Av W as cs1 rl.1 := .inr (.inl ⟨rl, hrl, rfl⟩)
    refine ⟨rl.1, rl.2, vs, fun b => Av W as cs1 b ∧ b ≠ rl.1, ds, RtK Q cs1, rfl, (R1.rng rl hrl).2, fun b hb => ⟨hb.2, R1.alloc hb.1⟩, ?_, h, fun rt v H' hq kp hR ok => ?_⟩
    · exact (stok_all (fun _ _ h => h) hs.1 : DvAll W.K W.C (Av W as cs1) H1 vs ds).step (fun _ _ q _ _ => q) fun b o q _ => q.elim (fun q => q.1) fun q => q ▸ avr
    · have R2 := callR_core hrl R0 kp hR
      have up : ∀ b, Av W as cs1 b → (Av W as cs1 b ∧ b ≠ rl.1) ∨ b = rl.1 := fun b hb => by
        by_cases e : b = rl.1
        · exact .inr e
        · exact .inl ⟨hb, e⟩
      cases rt with
      | d x => exact k _ _ v H' hq ⟨as, R2.one (Dv.step (fun _ _ q _ _ => q) (fun b o q _ => up b q) ok)⟩
      | n es =>
        obtain ⟨p, us, rfl, h1, h2, h3, h4⟩ := ok
        exact k _ _ _ H' hq ⟨as, R2.one (.lst h2 (R0.fresh h1).1 h3 (h4.step (fun _ _ q _ _ => q) fun b o q _ => .inl (up b q)))⟩
theorem w_callRO {dsp : List D → (Rt → Prop) → Prop} {E : XK} {t : TA} {Q : List D → Cs → Prop} (q : wA W t cs sl st fun xs cs1 => ArgR xs fun ds => dsp ds (RtN Q cs1)) : wN W (tCall (liftR W.K W.C dsp) [] E t) cs sl st Q := fun H σ ws R Q' k => q H σ ws R _ fun xs cs1 vs H1 h1 l R1 => by
  match xs, h1, l, R1 with
  | .r :: xs, h1, l, R1 =>
    match vs, l, R1 with
    | v :: vs, l, R1 =>
    obtain ⟨ds, rfl, h⟩ := argd h1
    rw [List.append_nil]
    have l2 : vs.length = ds.length := by
      have := Nat.succ.inj l
      rw [this, List.length_map]
    obtain ⟨as, R1⟩ := R1
    obtain ⟨rl, hrl, rfl⟩ := R1.st.1
    have hs := StOk.split (by rw [List.length_map]; exact l2) R1.st.2
    have R0 := R1.st' hs.2
    have avr : Av W as cs1 rl.1 := .inr (.inl ⟨rl, hrl, rfl⟩)
    refine ⟨rl.1, rl.2, vs, fun b => Av W as cs1 b ∧ b ≠ rl.1, ds, RtN Q cs1, rfl, (R1.rng rl hrl).2, fun b hb => ⟨hb.2, R1.alloc hb.1⟩, ?_, h, fun rt v H' hq kp hR ok => ?_⟩
    · exact (stok_all (fun _ _ h => h) hs.1 : DvAll W.K W.C (Av W as cs1) H1 vs ds).step (fun _ _ q _ _ => q) fun b o q _ => q.elim (fun q => q.1) fun q => q ▸ avr
    · have R2 := callR_core hrl R0 kp hR
      have up : ∀ b, Av W as cs1 b → (Av W as cs1 b ∧ b ≠ rl.1) ∨ b = rl.1 := fun b hb => by
        by_cases e : b = rl.1
        · exact .inr e
        · exact .inl ⟨hb, e⟩
      cases rt with
      | d x => exact hq.elim
      | n es =>
        obtain ⟨p, us, rfl, h1, h2, h3, h4⟩ := ok
        refine k es cs1 _ H' hq ?_ ⟨as, R2.one (.lst h2 (R0.fresh h1).1 h3 (h4.step (fun _ _ q _ _ => q) fun b o q _ => .inl (up b q)))⟩
        have R3 := R0.adopt (H' := H') h1 (fun b o hb n _ => kp b o hb (n rl hrl)) (fun p hp => by rw [hrl] at hp; cases hp; exact hR) (Tabs.kp R0.tab kp (R0.rng rl hrl).2) h2 (c := .lst es) ⟨h3, h4.step (fun _ _ q _ _ => q) fun b o q _ => q.elim (fun q => .inl (up b q)) .inr⟩
        exact ⟨_, R3.st' ⟨⟨p, by rw [← R0.len]; simp, rfl⟩, R3.st⟩⟩
/-- an error raised: its field is a scalar -/
def scV : D → Option V
  | .non => some .non
  | .bl b => some (.bl b)
  | .int i => some (.int i)
  | .str x => some (.str x)
  | _ => none
theorem scv_is {K : PySem.W.Frag} {C : Addr} {av : Addr → Prop} {v u : V} {d : D} (h : Dv K C av H v d) (e : scV d = some u) : v = u := by
  cases h <;> first | (cases e; rfl) | cases e
theorem w_rs0 {Cx : Addr} {fs : List V → List (Str × V)} {E : XK} {Ed : ErP} {F : DE} (he : EOk W E Ed) (q : Ed Cx (fs [])) : wS W (tRs Cx (spErr Cx fs 0) (fun cls d _ H => E cls d H) tNil) cs sl st F := fun H σ ws R De k =>
  z_rs rfl (by decide) (he _ _ H σ ws cs sl st q R)
theorem w_rs1 {Cx : Addr} {fs : List V → List (Str × V)} {E : XK} {Ed : ErP} {te : TE} {F : DE} (he : EOk W E Ed) (q : wE W te cs sl st fun x _ => DatK (fun d => ∃ u, scV d = some u ∧ Ed Cx (fs [u])) x) : wS W (tRs Cx (spErr Cx fs 1) (fun cls d _ H => E cls d H) (tCons te tNil)) cs sl st F := fun H σ ws R De k => q H σ ws R _ fun x cs1 v H1 h1 R1 => by
  obtain ⟨d, rfl, u, e, h⟩ := datk_of h1
  have : v = u := by
    obtain ⟨as, R1⟩ := R1
    exact scv_is R1.st.1 e
  subst this
  exact z_rs rfl (by decide) (he _ _ H1 σ ws cs1 sl st h R1.drop1)
end
end R

/-! # W7: machines over data, isinstance, more -/
namespace R
open PySem PySem.Spec PyProof.Rows L2 L2H LamX
/-- the class of machines, as its fields are read -/
structure MacC (K : PySem.W.Frag) (C : Addr) : Prop where
  cl : Cls K C
  no : ∀ f ∈ (["modulus", "start", "added", "targets"] : List Str), NoAttr K C f
section
variable {W : Wo} {cs : Cs} {sl : Sl} {st : List Sd} {Q : Sd → Cs → Prop} {H : Hp} {σ : L2.St} {ws : List V}
def MacK (k : Mac → Prop) : Sd → Prop
  | .d (.mac M) => k M
  | _ => False
theorem mack {k : Mac → Prop} {M : Mac} (h : k M) : MacK k (.d (.mac M)) := h
theorem mack_of {k : Mac → Prop} {x : Sd} (h : MacK k x) : ∃ M, x = .d (.mac M) ∧ k M := by
  cases x with
  | d x => cases x with
    | mac M => exact ⟨M, rfl, h⟩
    | _ => exact h.elim
  | _ => exact h.elim
theorem RepA.mac {as : List Addr} {v : V} {M : Mac} (R : RepA W as H σ (v :: ws) cs sl (.d (.mac M) :: st)) : ∃ a dx va vt, v = .ref a ∧ ¬ Av W as cs a ∧ H a = some (.ins W.C dx [("modulus", vN M.p), ("start", vN M.st), ("added", va), ("targets", vt)]) ∧ Dv W.K W.C (Av W as cs) H va (dl M.ad) ∧ Dv W.K W.C (Av W as cs) H vt (.lst (M.tg.map D.ktp)) := by
  have h := R.st.1
  cases h with
  | mac h1 h2 h3 h4 => exact ⟨_, _, _, _, rfl, h1, h2, h3, h4⟩
theorem w_fld1 {ta : TE} (mc : MacC W.K W.C) (q : wE W ta cs sl st fun x cs1 => MacK (fun M => Q (.d (dn M.p)) cs1) x) : wE W (tFld W.K ta "modulus") cs sl st Q := fun H σ ws R Q' k => q H σ ws R _ fun x cs1 v H1 h1 R1 => by
  obtain ⟨M, rfl, h⟩ := mack_of h1
  obtain ⟨as, R1⟩ := R1
  obtain ⟨a, dx, va, vt, rfl, _, h2, h3, h4⟩ := R1.mac
  exact ⟨a, W.C, dx, _, vN M.p, rfl, h2, mc.cl, mc.no _ (by decide), rfl, k _ _ _ _ h (Rep.push ⟨as, R1.drop1⟩ (scd_int _))⟩
theorem w_fld2 {ta : TE} (mc : MacC W.K W.C) (q : wE W ta cs sl st fun x cs1 => MacK (fun M => Q (.d (dn M.st)) cs1) x) : wE W (tFld W.K ta "start") cs sl st Q := fun H σ ws R Q' k => q H σ ws R _ fun x cs1 v H1 h1 R1 => by
  obtain ⟨M, rfl, h⟩ := mack_of h1
  obtain ⟨as, R1⟩ := R1
  obtain ⟨a, dx, va, vt, rfl, _, h2, h3, h4⟩ := R1.mac
  exact ⟨a, W.C, dx, _, vN M.st, rfl, h2, mc.cl, mc.no _ (by decide), rfl, k _ _ _ _ h (Rep.push ⟨as, R1.drop1⟩ (scd_int _))⟩
theorem w_fld3 {ta : TE} (mc : MacC W.K W.C) (q : wE W ta cs sl st fun x cs1 => MacK (fun M => Q (.d (dl M.ad)) cs1) x) : wE W (tFld W.K ta "added") cs sl st Q := fun H σ ws R Q' k => q H σ ws R _ fun x cs1 v H1 h1 R1 => by
  obtain ⟨M, rfl, h⟩ := mack_of h1
  obtain ⟨as, R1⟩ := R1
  obtain ⟨a, dx, va, vt, rfl, _, h2, h3, h4⟩ := R1.mac
  exact ⟨a, W.C, dx, _, va, rfl, h2, mc.cl, mc.no _ (by decide), rfl, k _ _ _ _ h ⟨as, R1.drop1.one h3⟩⟩
theorem w_fld4 {ta : TE} (mc : MacC W.K W.C) (q : wE W ta cs sl st fun x cs1 => MacK (fun M => Q (.d (.lst (M.tg.map D.ktp))) cs1) x) : wE W (tFld W.K ta "targets") cs sl st Q := fun H σ ws R Q' k => q H σ ws R _ fun x cs1 v H1 h1 R1 => by
  obtain ⟨M, rfl, h⟩ := mack_of h1
  obtain ⟨as, R1⟩ := R1
  obtain ⟨a, dx, va, vt, rfl, _, h2, h3, h4⟩ := R1.mac
  exact ⟨a, W.C, dx, _, vt, rfl, h2, mc.cl, mc.no _ (by decide), rfl, k _ _ _ _ h ⟨as, R1.drop1.one h4⟩⟩
theorem w_meth {m : Str} {dsp : DSp} {E : XK} {Ed : ErP} {ta : TE} {t : TA} (he : EOk W E Ed) (q : wE W ta cs sl st fun x cs1 => MacK (fun M => wA W t cs1 sl (.d (.mac M) :: st) fun xs cs2 => ArgD xs fun ds => dsp (.mac M :: ds) (RtK Q cs2) Ed) x)
    (hm : ∀ a b c d : V, List.lookup m [("modulus", a), ("start", b), ("added", c), ("targets", d)] = none := by intros; with_unfolding_all rfl) : wE W (tMeth W.C m (liftP W.K W.C dsp) [] E ta t) cs sl st Q := fun H σ ws R Q' k => q H σ ws R _ fun x cs1 v H1 h1 R1 => by
  obtain ⟨M, rfl, h⟩ := mack_of h1
  obtain ⟨as, R1'⟩ := id R1
  obtain ⟨a, dx, va, vt, rfl, _, h2, h3, h4⟩ := R1'.mac
  refine ⟨a, dx, _, rfl, h2, hm _ _ _ _, h H1 σ (.ref a :: ws) R1 _ fun xs cs2 vs H2 h5 l R2 => ?_⟩
  obtain ⟨ds, rfl, h6⟩ := argd h5
  rw [List.append_nil]
  rw [List.length_map] at l
  refine call_core (vs := .ref a :: vs) (ds := .mac M :: ds) (ws := ws) (st := st) he (R2.st' fun P hp => ?_) (by simp [l]) h6 k
  have := StOk.split (by rw [List.length_map]; exact l) hp
  exact ⟨this.2.1, StOk.app this.1 this.2.2⟩
theorem w_methO {m : Str} {dsp : DSp} {E : XK} {Ed : ErP} {ta : TE} {t : TA} {Q : List D → Cs → Prop} (he : EOk W E Ed) (q : wE W ta cs sl st fun x cs1 => MacK (fun M => wA W t cs1 sl (.d (.mac M) :: st) fun xs cs2 => ArgD xs fun ds => dsp (.mac M :: ds) (RtN Q cs2) Ed) x)
    (hm : ∀ a b c d : V, List.lookup m [("modulus", a), ("start", b), ("added", c), ("targets", d)] = none := by intros; with_unfolding_all rfl) : wN W (tMeth W.C m (liftP W.K W.C dsp) [] E ta t) cs sl st Q := fun H σ ws R Q' k => q H σ ws R _ fun x cs1 v H1 h1 R1 => by
  obtain ⟨M, rfl, h⟩ := mack_of h1
  obtain ⟨as, R1'⟩ := id R1
  obtain ⟨a, dx, va, vt, rfl, _, h2, h3, h4⟩ := R1'.mac
  refine ⟨a, dx, _, rfl, h2, hm _ _ _ _, h H1 σ (.ref a :: ws) R1 _ fun xs cs2 vs H2 h5 l R2 => ?_⟩
  obtain ⟨ds, rfl, h6⟩ := argd h5
  rw [List.append_nil]
  rw [List.length_map] at l
  refine call_coreN (vs := .ref a :: vs) (ds := .mac M :: ds) (ws := ws) (st := st) he (R2.st' fun P hp => ?_) (by simp [l]) h6 k
  have := StOk.split (by rw [List.length_map]; exact l) hp
  exact ⟨this.2.1, StOk.app this.1 this.2.2⟩
theorem y_yesD {x : D} {A B : Prop} (q : A) : if (decide (x = x)) = true then A else B := y_yes rfl q
theorem y_noD {x y : D} {A B : Prop} (h : ¬ x = y) (q : B) : if (decide (x = y)) = true then A else B := y_no h q
theorem w_newLc {wi : TI} {g : TG} {tt : TT} {te : TE} {vs : List Nat} (q : wN W (tLc wi g tt te vs) cs sl st fun ds cs1 => Q (.d (.lst ds)) cs1) : wE W (tLc wi g tt te vs) cs sl st Q := w_new q
theorem w_newLst {t : TA} (q : wN W (tLst t) cs sl st fun ds cs1 => Q (.d (.lst ds)) cs1) : wE W (tLst t) cs sl st Q := w_new q
theorem o_listD {x : Sd} {ds : List D} (q : Q (.d (.lst ds)) cs) (h : rdQ cs x = some ds := by rfl) : wC W (sList W.K) [x] cs sl st Q := w_newC (o_list q h)
theorem w_gconsD {x : D} {ds : List D} {t : TG} {u : TGs} {Q : Cs → Sl → Prop} (q : wG W t (.d x) cs sl (ds.map .d ++ st) fun cs1 sl1 => wGs W u (ds.map .d) cs1 sl1 st Q) : wGs W (gCons t u) ((x :: ds).map .d) cs sl st Q := w_gcons q
theorem w_gnilD {Q : Cs → Sl → Prop} (q : Q cs sl) : wGs W gNil (([] : List D).map .d) cs sl st Q := w_gnil q
theorem hdE {te : TE} (h : wE W te cs sl st Q) : wE W te cs sl st Q := h
theorem hdS {t : TS} {F : DE} (h : wS W t cs sl st F) : wS W t cs sl st F := h
theorem hdA {t : TA} {Q : List Sd → Cs → Prop} (h : wA W t cs sl st Q) : wA W t cs sl st Q := h
theorem hdO {r : R2} {x y : Sd} (h : wO W r x y cs sl st Q) : wO W r x y cs sl st Q := h
theorem hdC {r : List V → Hp → VK → Prop} {xs : List Sd} (h : wC W r xs cs sl st Q) : wC W r xs cs sl st Q := h
theorem hdT {t : TT} {B : Bool → Cs → Prop} (h : wT W t cs sl st B) : wT W t cs sl st B := h
theorem hdG {g : TG} {x : Sd} {Q : Cs → Sl → Prop} (h : wG W g x cs sl st Q) : wG W g x cs sl st Q := h
theorem hdN {te : TE} {Q : List D → Cs → Prop} (h : wN W te cs sl st Q) : wN W te cs sl st Q := h
theorem hdI {wi : TI} {QI : List D → (Cs → Prop) → Cs → Prop} (h : wI W wi cs sl st QI) : wI W wi cs sl st QI := h
theorem o_divmod {i j : Int} (h : 0 < j ∧ j < 1073741824) (q : Q (.d (.tup [.int (i / j), .int (i % j)])) cs) : wC W (fun xs H Q => ∃ i j : Int, xs = [.int i, .int j] ∧ CDiv i j ∧ ∀ p, H p = none → Q (.ref p) (upd H p (.tup [.int (i / j), .int (i % j)]))) [.d (.int i), .d (.int j)] cs sl st Q := fun H σ vs ws l R Q' k => by
  match vs, l, R with
  | [u, v], _, R =>
    have R : Rep W H σ (u :: v :: ws) cs sl (.d (.int i) :: .d (.int j) :: st) := R
    obtain rfl := R.int
    obtain rfl := R.drop1.int
    refine ⟨i, j, rfl, h, fun p n => k _ _ _ _ q ?_⟩
    exact new_tup (vs := [.int (i / j), .int (i % j)]) (ds := [.int (i / j), .int (i % j)]) ((R.drop1.drop1.push (scd_int (i % j))).push (scd_int (i / j))) rfl (Nat.le_of_ble_eq_true rfl) n
/-! isinstance -/
def tyD : D → Option String
  | .non => some "NoneType"
  | .bl _ => some "bool"
  | .int _ => some "int"
  | .str _ => some "str"
  | .lst _ => some "list"
  | .tup _ => some "tuple"
  | .ktp _ => some "tuple"
  | .mac _ => none
  | .htp _ => none
theorem RepA.ty {as : List Addr} {v : V} {d : D} {t : String} (R : RepA W as H σ (v :: ws) cs sl (.d d :: st)) (h : tyD d = some t) : TyX W.K H v (.type t) := by
  cases d with
  | non => obtain rfl := Rep.non ⟨as, R⟩; cases h; exact .base .non
  | bl b => obtain rfl := Rep.bl ⟨as, R⟩; cases h; exact .base (.bl b)
  | int b => obtain rfl := Rep.int ⟨as, R⟩; cases h; exact .base (.int b)
  | str b => obtain rfl := Rep.str ⟨as, R⟩; cases h; exact .base (.str b)
  | lst ds =>
    cases h
    obtain ⟨a, xs, rfl, h1, _⟩ := R.seqL
    exact tyx_l h1
  | tup ds =>
    cases h
    obtain ⟨a, xs, rfl, h1, _⟩ := R.seqT
    exact tyx_t h1
  | ktp ts =>
    cases h
    obtain ⟨a, rfl, h1, _⟩ := R.seqK
    exact tyx_t h1
  | mac M => cases h
  | htp ts => cases h
/-- built-in types as values -/
def wTy (W : Wo) (te : TE) (n : String) : Prop := ∀ (σ : L2.St) (H : Hp) (Q : VK), Q (.ty n) H → te σ H Q
def tyK (n : String) (t : String) : Option Bool := kitB t n
def IsK (n : String) (P : Bool → Prop) (d : D) : Prop := ∃ t b, tyD d = some t ∧ kitB t n = some b ∧ P b
def IsTK (n1 n2 : String) (P : Bool → Prop) (d : D) : Prop := ∃ t b1 b2, tyD d = some t ∧ kitB t n1 = some b1 ∧ kitB t n2 = some b2 ∧ P (b1 || b2)
theorem w_isi {ta : TE} {n : String} (q : wE W ta cs sl st fun x cs1 => DatK (IsK n fun b => Q (.d (.bl b)) cs1) x) : wE W (tCB (rIsi W.K) (tCons ta (tCons (tC (.ty n)) tNil))) cs sl st Q := fun H σ ws R Q' k => q H σ ws R _ fun x cs1 v H1 h1 R1 => by
  obtain ⟨d, rfl, t, b, e1, e2, h⟩ := datk_of h1
  show rIsi W.K [v, .ty n] H1 Q'
  obtain ⟨as, R1'⟩ := id R1
  exact z_isi (R1'.ty e1) e2 (k _ _ _ _ h (R1.drop1.push (scd_bl _)))
theorem w_isiT {ta : TE} {n1 n2 : String} (q : wE W ta cs sl st fun x cs1 => DatK (IsTK n1 n2 fun b => Q (.d (.bl b)) cs1) x) : wE W (tCB (rIsiT W.K) (tCons ta (tCons (tTup (tCons (tC (.ty n1)) (tCons (tC (.ty n2)) tNil))) tNil))) cs sl st Q := fun H σ ws R Q' k => q H σ ws R _ fun x cs1 v H1 h1 R1 => by
  obtain ⟨d, rfl, t, b1, b2, e1, e2, e3, h⟩ := datk_of h1
  refine ⟨sz_of (Nat.le_of_ble_eq_true rfl), fun p n => ?_⟩
  show rIsiT W.K [v, .ref p] (upd H1 p (.tup [.ty n1, .ty n2])) Q'
  obtain ⟨as, R1'⟩ := id R1
  have R2 := R1'.ex (Ex.new (o := .tup [.ty n1, .ty n2]) n)
  exact z_isiT upd_same (R2.ty e1) e2 e3 (k _ _ _ _ h (Rep.push ⟨as, R2.drop1⟩ (scd_bl _)))
theorem isi {d : D} {t n : String} {b : Bool} {P : Bool → Prop} (h1 : tyD d = some t) (h2 : kitB t n = some b) (h : P b) : IsK n P d := ⟨t, b, h1, h2, h⟩
theorem isiT {d : D} {t n1 n2 : String} {b1 b2 : Bool} {P : Bool → Prop} (h1 : tyD d = some t) (h2 : kitB t n1 = some b1) (h3 : kitB t n2 = some b2) (h : P (b1 || b2)) : IsTK n1 n2 P d := ⟨t, b1, b2, h1, h2, h3, h⟩
/-- a constant tuple of the top -/
theorem w_cT {a : Addr} {xs : List V} {ds : List D} (h : ∀ H, SqT W.K H a xs) (hd : ScAll xs ds) (hl : xs.length ≤ 900000) (q : Q (.d (.tup ds)) cs) (e : ds = [.int 2, .int 3, .int 5] := by rfl) : wE W (tC (.ref a)) cs sl st Q := fun H σ ws R Q' k => by
  subst e
  obtain ⟨as, R⟩ := R
  exact k _ _ _ _ q ⟨as, R.one (.ktup h hl (scall hd _ _ _ _))⟩
/-- a method's promise, as a def's -/
theorem okM_P {P : Program} {w : World} {K : PySem.W.Frag} {mg : Str → Option Value} {base : Heap} {nm x : Str} {st : Stmt} {ps N : List Str} {k : Nat} {C f : Addr} {fd : FuncData} {dsp : DSp} (d : Fun K nm x st f fd) (S : FnScope N ps (defScope st)) (len : ∀ ds Q E, dsp ds Q E → ds.length = ps.length)
    (hbody : ∀ (cdv : Value) (A : Around) (outer : List Env) (s : Shared) (H : Hp) (E : XK) (ds : List D) (Qd : Rt → Prop) (Ed : ErP) (fr : Addr → Prop), Room k (A.deeper (envOfC x (defScope st) s.heap.objs.size f cdv)) → dsp ds Qd Ed → EOk ⟨K, C, fr, none, H, []⟩ E Ed →
      ∃ t, PSs (cxOf (L2.CX P w) P w K mg base N x (defScope st) f cdv A outer s H E) (defBody st) t ∧ wS ⟨K, C, fr, none, H, []⟩ t [] (slStart N ds) [] (deP Qd)) : FnOk P w K mg base (L2.CX P w) (k + 1) f fd ps (liftP K C dsp) := by
  refine d.okX S (fun vs H Q E h => ?_) fun cdv A outer s H vs Q E hr h => ?_
  · obtain ⟨av, ds, Qd, Ed, _, h1, h2, _⟩ := h
    rw [h1.len]
    exact len _ _ _ h2
  · obtain ⟨av, ds, Qd, Ed, h0, h1, h2, h3, h4⟩ := h
    obtain ⟨t, ht, hw⟩ := hbody cdv A outer s H E ds Qd Ed av hr h2 (fun Cx fs H' σ ws cs sl st hE R => h4 Cx fs H' hE fun b o hb => by
      obtain ⟨as, R⟩ := R
      exact R.kp rfl b o hb fun p hp => (nomatch hp))
    refine ⟨t, ht, hw H _ [] ⟨[], rfl, List.nodup_nil, fun _ h => absurd h List.not_mem_nil, h0, fun _ _ _ h _ => h, fun _ h => (nomatch h), fun _ h => absurd h List.not_mem_nil, fun i _ _ h => by simp at h, ?_, trivial⟩ _ ⟨fun cs sl σ H' hq R => ?_, fun sd cs v H' σ ws sl st hq R => ?_, fun _ _ _ _ h => h.elim, fun _ _ _ _ h => h.elim⟩⟩
    · show SlOk _ (vs.map some ++ List.replicate (N.length - vs.length) none) (slStart N ds)
      unfold slStart
      rw [h1.len]
      exact slok_start (fun i v d a b => (h1.at2 i v d a b).step (fun _ _ q _ _ => q) fun b o q _ => q.elim id fun q => q.elim (fun ⟨p, hp, _⟩ => (nomatch hp)) fun ⟨k, hk, _⟩ => by simp at hk) h1.len
    · obtain ⟨as, R⟩ := R
      exact h3 (.d .non) .non H' hq (fun b o hb => R.kp rfl b o hb fun p hp => (nomatch hp)) .non
    · obtain ⟨rt, hq, hr⟩ := rt_out R hq
      have ex : Ex H H' := fun b o hb => by
        obtain ⟨as, R⟩ := R
        exact R.kp rfl b o hb fun p hp => (nomatch hp)
      refine h3 rt v H' hq ex ?_
      cases rt with
      | d x => exact Dv.step (fun _ _ q _ _ => q) (fun b o q _ => .inl q) hr
      | n es =>
        obtain ⟨p, us, e1, e2, e3, e4, e5⟩ := hr
        exact ⟨p, us, e1, e2, e3, e4, e5.step (fun _ _ q _ _ => q) fun b o q _ => q.elim (fun q => .inl (.inl q)) .inr⟩
theorem liftP_body {P : Program} {w : World} {K : PySem.W.Frag} {N : List Str} {C : Addr} {dsp : DSp} {vs : List V} {H : Hp} {Q0 : VK} {E : XK} {X : Cx} {body : List Stmt} (h : liftP K C dsp vs H Q0 E)
    (hb : ∀ (ds : List D) (Qd : Rt → Prop) (Ed : ErP) (fr : Addr → Prop), dsp ds Qd Ed → EOk ⟨K, C, fr, none, H, []⟩ E Ed → ∃ t, PSs X body t ∧ wS ⟨K, C, fr, none, H, []⟩ t [] (slStart N ds) [] (deP Qd)) : ∃ t, PSs X body t ∧ t { nx := fun _ H' => Q0 .non H', rt := Q0 } (L2.start N vs) H := by
  obtain ⟨av, ds, Qd, Ed, h0, h1, h2, h3, h4⟩ := h
  obtain ⟨t, ht, hw⟩ := hb ds Qd Ed av h2 (fun Cx fs H' σ ws cs sl st hE R => h4 Cx fs H' hE fun b o hb => by
    obtain ⟨as, R⟩ := R
    exact R.kp rfl b o hb fun p hp => (nomatch hp))
  refine ⟨t, ht, hw H _ [] ⟨[], rfl, List.nodup_nil, fun _ h => absurd h List.not_mem_nil, h0, fun _ _ _ h _ => h, fun _ h => (nomatch h), fun _ h => absurd h List.not_mem_nil, fun i _ _ h => by simp at h, ?_, trivial⟩ _ ⟨fun cs sl σ H' hq R => ?_, fun sd cs v H' σ ws sl st hq R => ?_, fun _ _ _ _ h => h.elim, fun _ _ _ _ h => h.elim⟩⟩
  · show SlOk _ (vs.map some ++ List.replicate (N.length - vs.length) none) (slStart N ds)
    unfold slStart
    rw [h1.len]
    exact slok_start (fun i v d a b => (h1.at2 i v d a b).step (fun _ _ q _ _ => q) fun b o q _ => q.elim id fun q => q.elim (fun ⟨p, hp, _⟩ => (nomatch hp)) fun ⟨k, hk, _⟩ => by simp at hk) h1.len
  · obtain ⟨as, R⟩ := R
    exact h3 (.d .non) .non H' hq (fun b o hb => R.kp rfl b o hb fun p hp => (nomatch hp)) .non
  · obtain ⟨rt, hq, hr⟩ := rt_out R hq
    have ex : Ex H H' := fun b o hb => by
      obtain ⟨as, R⟩ := R
      exact R.kp rfl b o hb fun p hp => (nomatch hp)
    refine h3 rt v H' hq ex ?_
    cases rt with
    | d x => exact Dv.step (fun _ _ q _ _ => q) (fun b o q _ => .inl q) hr
    | n es =>
      obtain ⟨p, us, e1, e2, e3, e4, e5⟩ := hr
      exact ⟨p, us, e1, e2, e3, e4, e5.step (fun _ _ q _ _ => q) fun b o q _ => q.elim (fun q => .inl (.inl q)) .inr⟩
theorem liftP_len {K : PySem.W.Frag} {C : Addr} {dsp : DSp} {n : Nat} (len : ∀ ds Q E, dsp ds Q E → ds.length = n) (vs : List V) (H : Hp) (Q : VK) (E : XK) (h : liftP K C dsp vs H Q E) : vs.length = n := by
  obtain ⟨av, ds, Qd, Ed, _, h1, h2, _⟩ := h
  rw [h1.len]
  exact len _ _ _ h2
/-- a def with a keyword-only parameter -/
theorem okD_P {P : Program} {w : World} {K : PySem.W.Frag} {mg : Str → Option Value} {base : Heap} {nm x : Str} {st : Stmt} {ps N : List Str} {dvs : List V} {kws : List (Str × V)} {k : Nat} {C f : Addr} {fd : FuncData} {dsp : DSp} (d : FunD K nm x (defArgs st) (defBody st) (defScope st) dvs kws f fd) (S : FnScope N ps (defScope st)) (len : ∀ ds Q E, dsp ds Q E → ds.length = ps.length)
    (hbody : ∀ (cdv : Value) (A : Around) (outer : List Env) (s : Shared) (H : Hp) (E : XK) (ds : List D) (Qd : Rt → Prop) (Ed : ErP) (fr : Addr → Prop), Room k (A.deeper (envOfC x (defScope st) s.heap.objs.size f cdv)) → dsp ds Qd Ed → EOk ⟨K, C, fr, none, H, []⟩ E Ed →
      ∃ t, PSs (cxOf (L2.CX P w) P w K mg base N x (defScope st) f cdv A outer s H E) (defBody st) t ∧ wS ⟨K, C, fr, none, H, []⟩ t [] (slStart N ds) [] (deP Qd)) : FnOk P w K mg base (L2.CX P w) (k + 1) f fd ps (liftP K C dsp) :=
  d.ok S (liftP_len len) fun cdv A outer s H vs Q E hr h => liftP_body (P := P) (w := w) h fun ds Qd Ed fr hd he => hbody cdv A outer s H E ds Qd Ed fr hr hd he
/-- a promise that another gives -/
theorem FnOk.weaken {P : Program} {w : World} {K : PySem.W.Frag} {mg : Str → Option Value} {base : Heap} {CX : CXT} {k : Nat} {f : Addr} {fd : FuncData} {ps : List Str} {sp sp' : Sp} (F : FnOk P w K mg base CX k f fd ps sp) (h : ∀ vs H Q E, sp' vs H Q E → sp vs H Q E) : FnOk P w K mg base CX k f fd ps sp' := ⟨fun vs H Q E q => F.len vs H Q E (h _ _ _ _ q), fun A outer s H args us vs Q E hr e0 hb hv q => F.run A outer s H args us vs Q E hr e0 hb hv (h _ _ _ _ q)⟩
end
end R

/-! # RV: t[::-1] of a tuple -/
namespace R
open PySem PySem.Spec PyProof.Rows L2 HT
section
variable {prog : Program} {w : World} {A : Around} {E : Value → Shared → Prop} {s : Shared}
theorem places_rev (n : Nat) : Builtin.Slice.slicePlaces ((n : Int) - 1) (-1) (-1) = n := by
  unfold Builtin.Slice.slicePlaces
  have h1 : ¬ (-1 : Int) > 0 := by omega
  simp only [h1, if_false]
  split
  · rw [show (-(-1 : Int)) = 1 from rfl, Int.ediv_one]
    omega
  · omega
theorem sliceApplied_rev {sl : Addr} {t : Tok} {n : Nat} {Q : Int × Int × Nat → Shared → Prop} (hs : s.heap.IsSliceOf sl .none .none (.int (-1) t)) (h : Q ((n : Int) - 1, -1, n) s) : wpAny (model prog w) A (Builtin.Slice.sliceApplied (.ref sl) (pure (n : Int))) Q E s := by
  obtain ⟨os, hos, hcs, hds⟩ := id hs
  unfold Builtin.Slice.sliceApplied Builtin.Slice.sliceFields
  refine wpAny_bind (wpAny_bind (wpAny_field hos hds (x := .none) rfl (wpAny_bind (wpAny_field hos hds (x := .none) rfl (wpAny_bind (wpAny_field hos hds (x := .int (-1) t) rfl (wpAny_pure ?_)))))))
  refine wpAny_bind (slicePart_ (.int (-1) t) ?_)
  show wpAny _ _ (if ((-1 : Int) == 0) = true then _ else _) _ _ s
  rw [if_neg (by decide)]
  refine wpAny_bind (slicePart_none (wpAny_bind (slicePart_none (wpAny_bind (wpAny_pure ?_)))))
  show wpAny _ _ (pure (((n : Int) - 1), (-1 : Int), Builtin.Slice.slicePlaces ((n : Int) - 1) (-1) (-1))) _ _ s
  rw [places_rev]
  exact wpAny_pure h
theorem fm_congr {α β : Type} {f g : α → Option β} : ∀ l : List α, (∀ m ∈ l, f m = g m) → l.filterMap f = l.filterMap g
  | [], _ => rfl
  | x :: l, h => by
    rw [List.filterMap_cons, List.filterMap_cons, h x (.head _), fm_congr l fun m hm => h m (.tail _ hm)]
theorem pick_rev (xs : Array Value) : ((List.range xs.size).filterMap fun (m : Nat) => xs[((xs.size : Int) - 1 + (m : Int) * (-1)).toNat]?).toArray = xs.toList.reverse.toArray := by
  congr 1
  have e : ∀ m ∈ List.range xs.size, xs[((xs.size : Int) - 1 + (m : Int) * (-1)).toNat]? = some (xs.toList.reverse.getD m .none) := fun m hm => by
    have hm := List.mem_range.mp hm
    have h1 : ((xs.size : Int) - 1 + (m : Int) * (-1)).toNat = xs.size - 1 - m := by omega
    rw [h1, List.getD_eq_getElem?_getD, List.getElem?_reverse (by simpa using hm)]
    simp only [Array.length_toList, Array.getElem?_toList]
    rw [Array.getElem?_eq_getElem (by omega)]
    rfl
  rw [fm_congr _ e]
  have e2 : ∀ (f : Nat → Value) (l : List Nat), l.filterMap (fun m => some (f m)) = l.map f := fun f l => by simp [List.filterMap_eq_map']
  rw [e2]
  refine List.ext_getElem? fun i => ?_
  rw [List.getElem?_map]
  by_cases hi : i < xs.size
  · rw [List.getElem?_range hi]
    rw [List.getElem?_eq_getElem (by simpa using hi)]
    simp [List.getD_eq_getElem?_getD, hi]
  · rw [List.getElem?_eq_none (by simpa using hi), List.getElem?_eq_none (by simpa using hi)]
    rfl
theorem getItem_tuple_rev {t sl : Addr} {items : Array Value} {tk : Tok} {Q : Value → Shared → Prop} (ht : IsTup s.heap t items) (hs : s.heap.IsSliceOf sl .none .none (.int (-1) tk))
    (h : Q (.ref s.heap.objs.size) { s with heap := s.heap.push { cls := .type "tuple", data := .seq items.toList.reverse.toArray } }) (hsz : items.size ≤ sizeLine) : wpAny (model prog w) A (getItem (.ref t) (.ref sl)) Q E s := by
  have htake : sizeOk (.seq items.toList.reverse.toArray) := by
    show items.toList.reverse.toArray.size ≤ sizeLine
    rw [List.size_toArray, List.length_reverse, Array.length_toList]
    exact hsz
  obtain ⟨os, hos, hcs, hds⟩ := id hs
  have hTs : s.TypeIs (.ref sl) "slice" := ⟨os, hos, hcs⟩
  unfold getItem
  try with_reducible refine wpAny_holding ?_
  first | refine wpAny_bind (wpAny_pure ?_) | skip
  refine wpAny_bind (wpAny_sequenceKey ht.typeIs (by decide) ?_)
  refine wpAny_bind (wpAny_callSpecial?_slot (name := Str.ofString "__getitem__") ht.typeIs PyProof.Rows.slot_tuple_getitem
    (wpAny_call_entry PyProof.Rows.slot_tuple_getitem ht.typeIs entry_tuple_getitem ?_ (args_tuple_getitem _ _)))
  show wpAny _ _ (Builtin.Tuple.tupleItemsOf (.ref t) >>= _) _ _ s
  refine wpAny_bind (tupleItemsOf_ ht ?_)
  refine wpAny_bind (wpAny_typeOf hTs ?_)
  rw [if_pos (by decide)]
  refine wpAny_bind (sliceApplied_rev hs ?_)
  have hno : ¬ ((((items.size : Int) - 1) == 0 && (-1 : Int) == 1 && items.size == items.size) = true) := by
    intro q
    rw [Bool.and_eq_true, Bool.and_eq_true] at q
    exact absurd q.1.2 (by decide)
  show wpAny _ _ (if (((items.size : Int) - 1) == 0 && (-1 : Int) == 1 && items.size == items.size) = true then _ else _) _ _ s
  rw [if_neg hno, pick_rev]
  first
    | exact wpAny_bind (m := Builtin.Tuple.tupleExact _) (wpAny_newObj_type (wpAny_pure ⟨_, rfl, wpAny_pure h⟩) htake)
    | exact wpAny_bind (m := Builtin.Tuple.tupleExact _) (wpAny_newObj_type (wpAny_bind (wpAny_pure (wpAny_pure ⟨_, rfl, wpAny_pure h⟩))) htake)
    | exact wpAny_bind (wpAny_bind (m := Builtin.Tuple.tupleExact _) (wpAny_newObj_type (wpAny_pure (wpAny_pure ⟨_, rfl, wpAny_pure h⟩)) htake))
    | exact wpAny_bind (wpAny_bind (m := Builtin.Tuple.tupleExact _) (wpAny_newObj_type (wpAny_pure ⟨_, rfl, wpAny_pure h⟩) htake))
end
section
variable {X : Cx} {e : Expr} {te : TE} {pos p2 p3 p4 : Pos}
/-- t[::-1] -/
def tRevT (K : PySem.W.Frag) (te : TE) (th : TO) : TE := fun σ H Q => te σ H fun x H1 => th σ H1 fun o H2 => o = some (-1) ∧ ∃ a xs, x = .ref a ∧ SqT K H2 a xs ∧ ∀ p, H2 p = none → Q (.ref p) (upd H2 p (.tup xs.reverse))
theorem vals_rev : ∀ {xs : List V} {us : List Value}, Vals xs us → Vals xs.reverse us.reverse
  | _, _, .nil => .nil
  | _, _, .cons r t => by
    rw [List.reverse_cons, List.reverse_cons]
    exact (vals_rev t).append (.cons r .nil)
theorem pe_revT {x : Expr} {th : TO} (he : PE X e te) (hk : PO X (some x) th) : PE X (.Subscript e (.Slice none none (some x) p2) pos) (tRevT X.K te th) := by
  refine ⟨fun pins s σ H Q I h => ?_⟩
  refine Subscript_ (thn (he.run pins s σ H _ I h) fun v s1 ⟨x0, H1, I1, r1, q1⟩ => ?_)
  refine wpAny_Slice (thn (po_none.run pins s1 σ H1 (fun o H' => o = none ∧ H' = H1) I1 ⟨rfl, rfl⟩) fun vl s2 ⟨l, H2, I2, pl, e2, e3⟩ => thn (po_none.run pins s2 σ H2 (fun o H' => o = none ∧ H' = H2) I2 ⟨rfl, rfl⟩) fun vu s3 ⟨u, H3, I3, pu, e4, e5⟩ => ?_)
  subst e2 e3 e4 e5
  cases pl
  cases pu
  refine thn (hk.run pins s3 σ H3 _ I3 q1) fun vk s4 ⟨o, H4, I4, pk, e6, a, xs, e7, hx, q⟩ => ?_
  subst e6 e7
  cases pk with
  | int _ tk =>
  cases r1
  have I5 : L2.Inv X pins σ H4 { s4 with heap := s4.heap.push { cls := .type "slice", data := .fields #[.none, .none, .int (-1) tk] } } := I4.kept (t' := s4.toks) fun b ob q => Heap.get?_push_of_some _ q
  obtain ⟨its, r, ht, hz⟩ := I5.tuple hx
  refine tail_any (ops := [.ref a, .ref s4.heap.objs.size]) ht.typeIs PyProof.Rows.slot_tuple_getitem.lookup ?_ (by with_unfolding_all rfl)
  have hlen : its.toArray.size = xs.length := by rw [List.size_toArray]; exact r.length.symm
  refine getItem_tuple_rev ht (Heap.IsSliceOf.new ..) ?_ (by rw [hlen]; exact hz)
  refine ⟨.ref _, _, I5.laid (t' := s4.toks) (o := .tup xs.reverse) (fun b ob q => Heap.get?_push_of_some _ q) (Nat.le_refl _) ?_, rfl, q _ (I5.hok.fresh (Nat.le_refl _))⟩
  exact ⟨by rw [List.length_reverse]; exact hz, _, vals_rev r, IsTup.new _ _⟩
end
section
variable {W : Wo} {cs : Cs} {sl : Sl} {st : List Sd} {Q : Sd → Cs → Prop}
def TupK (k : List D → Prop) : Sd → Prop
  | .d (.tup ds) => k ds
  | _ => False
theorem tupk {k : List D → Prop} {ds : List D} (h : k ds) : TupK k (.d (.tup ds)) := h
def M1K (P : Prop) : Option Int → Prop
  | some i => i = -1 ∧ P
  | none => False
theorem m1k {P : Prop} (h : P) : M1K P (some (-1)) := ⟨rfl, h⟩
theorem w_revT {te : TE} {th : TO} (q : wE W te cs sl st fun x cs1 => TupK (fun ds => wP W th cs1 sl (.d (.tup ds) :: st) fun o cs2 => M1K (Q (.d (.tup ds.reverse)) cs2) o) x) : wE W (tRevT W.K te th) cs sl st Q := fun H σ ws R Q' k => q H σ ws R _ fun x cs1 v H1 h1 R1 => by
  cases x with
  | d x => cases x with
    | tup ds =>
      have h1 : wP W th cs1 sl _ _ := h1
      refine h1 H1 σ (v :: ws) R1 _ fun o cs2 H2 h2 R2 => ?_
      cases o with
      | none => exact h2.elim
      | some i =>
        obtain ⟨rfl, h2⟩ := h2
        obtain ⟨as, R2⟩ := R2
        obtain ⟨a, xs, rfl, h3, h4, h5, h6⟩ := R2.seqT
        exact ⟨rfl, a, xs, rfl, h3, fun p n => k _ _ _ _ h2 (new_tup ⟨as, R2.drop1.all h6.rev⟩ (by rw [List.length_reverse, List.length_reverse, h4]) (by rw [List.length_reverse]; exact h5) n)⟩
    | _ => exact h1.elim
  | _ => exact h1.elim
end
/-- less known about the slots -/
def SlLe : Sl → Sl → Prop
  | [], [] => True
  | none :: xs, _ :: ys => SlLe xs ys
  | some x :: xs, y :: ys => y = some x ∧ SlLe xs ys
  | _, _ => False
theorem SlOk.le {P : V → Sd → Prop} : ∀ {vs : List (Option V)} {xs ys : Sl}, SlLe xs ys → SlOk P vs ys → SlOk P vs xs
  | [], [], [], _, _ => trivial
  | [], [], _ :: _, h, _ => h.elim
  | [], none :: _, [], h, _ => h.elim
  | [], some _ :: _, [], h, _ => h.elim
  | [], _ :: _, _ :: _, _, k => (show False by rename_i y ys h; cases y <;> exact k).elim
  | _ :: _, [], [], _, k => k
  | _ :: _, [], _ :: _, h, _ => h.elim
  | _ :: _, none :: _, [], h, _ => h.elim
  | _ :: _, some _ :: _, [], h, _ => h.elim
  | _ :: vs, none :: xs, none :: ys, h, k => SlOk.le (vs := vs) (xs := xs) (ys := ys) h k
  | _ :: vs, none :: xs, some _ :: ys, h, k => SlOk.le (vs := vs) (xs := xs) (ys := ys) h k.2
  | _ :: vs, some x :: xs, none :: ys, h, _ => nomatch h.1
  | _ :: vs, some x :: xs, some y :: ys, h, k => ⟨(Option.some.inj h.1) ▸ k.1, SlOk.le (vs := vs) (xs := xs) (ys := ys) h.2 k.2⟩
section
variable {W : Wo} {cs : Cs} {sl : Sl} {st : List Sd} {F : DE}
theorem Rep.le {H : Hp} {σ : L2.St} {ws : List V} {sl' : Sl} (h : SlLe sl' sl) (R : Rep W H σ ws cs sl st) : Rep W H σ ws cs sl' st := by
  obtain ⟨as, R⟩ := R
  exact ⟨as, { R with sl := R.sl.le h }⟩
/-- a cut behind which less is known -/
theorem w_cutF {t u : TS} (cs' : Cs) (sl' : Sl) (q : wS W t cs sl st { F with nx := fun cs1 sl1 => cs1 = cs' ∧ SlLe sl' sl1 }) (q2 : wS W u cs' sl' st F) : wS W (C8.tCut t u) cs sl st F := fun H σ ws R De k =>
  ⟨fun σ1 H1 => Rep W H1 σ1 ws cs' sl' st, q H σ ws R _ ⟨fun cs1 sl1 σ1 H1 h1 R1 => h1.1 ▸ R1.le h1.2, k.rt, k.bk, k.ct⟩, fun σ1 H1 R1 => q2 H1 σ1 ws R1 De k⟩
/-- the same, the cut being behind two statements -/
theorem w_cutF2 {a t u : TS} (cs' : Cs) (sl' : Sl) (q : wS W a cs sl st { F with nx := fun cs0 sl0 => wS W t cs0 sl0 st { F with nx := fun cs1 sl1 => cs1 = cs' ∧ SlLe sl' sl1 } }) (q2 : wS W u cs' sl' st F) : wS W (C8.tCut a (C8.tCut t u)) cs sl st F :=
  w_cut (fun cs0 sl0 => wS W t cs0 sl0 st { F with nx := fun cs1 sl1 => cs1 = cs' ∧ SlLe sl' sl1 }) q fun _ _ h => w_cutF cs' sl' h q2
/-- a cut behind which it is known what Iv says, of some slots perhaps nothing -/
theorem w_cutI {t u : TS} (Iv : Cs → Sl → Prop) (q : wS W t cs sl st { F with nx := fun cs1 sl1 => ∃ sl', Iv cs1 sl' ∧ SlLe sl' sl1 }) (q2 : ∀ cs' sl', Iv cs' sl' → wS W u cs' sl' st F) : wS W (C8.tCut t u) cs sl st F := fun H σ ws R De k =>
  ⟨fun σ1 H1 => ∃ cs' sl', Iv cs' sl' ∧ Rep W H1 σ1 ws cs' sl' st, q H σ ws R _ ⟨fun cs1 sl1 σ1 H1 ⟨sl', hI, hle⟩ R1 => ⟨cs1, sl', hI, R1.le hle⟩, k.rt, k.bk, k.ct⟩, fun σ1 H1 ⟨cs', sl', hI, R1⟩ => q2 cs' sl' hI H1 σ1 ws R1 De k⟩
end
end R

/-! # CA: own lists lent to a def that gives back plain values -/
namespace R
open PySem PySem.Spec PyProof.Rows L2 L2H LamX
theorem y_neR {α : Type} {a : α} {i : Decidable (a = a)} {A B : Prop} (q : B) : if (!@decide (a = a) i) = true then A else B := by
  rw [if_neg (by simp)]
  exact q
theorem y_eqR {α : Type} {a : α} {i : Decidable (a = a)} {A B : Prop} (q : A) : if (@decide (a = a) i) = true then A else B := by
  rw [if_pos (by simp)]
  exact q
/-- a statement before which own lists are given away -/
def tGive (t : TS) : TS := t
theorem psgive {X : Cx} {s : Stmt} {t : TS} (h : PS X s t) : PS X s (tGive t) := h
theorem w_give {W : Wo} {cs : Cs} {sl : Sl} {st : List Sd} {F : DE} {t : TS} (q : wS W t cs sl st F) : wS W (tGive t) cs sl st F := q
def tLend (t : TE) : TE := t
theorem plend {X : Cx} {e : Expr} {t : TE} (h : PE X e t) : PE X e (tLend t) := h
mutual
/-- what no cell can hold: plain values, tuples of them -/
def D.sc : D → Bool
  | .lst _ => false
  | .mac _ => false
  | .tup ds => D.scs ds
  | _ => true
def D.scs : List D → Bool
  | [] => true
  | d :: ds => d.sc && D.scs ds
end
theorem D.scs_all : ∀ {ds : List D}, D.scs ds = true ↔ ∀ d ∈ ds, d.sc = true
  | [] => ⟨fun _ d h => (by cases h), fun _ => rfl⟩
  | d :: ds => by
    rw [D.scs, Bool.and_eq_true, D.scs_all]
    simp
theorem D.scs_map {α : Type} {f : α → D} (h : ∀ x, (f x).sc = true) (xs : List α) : D.scs (xs.map f) = true := D.scs_all.mpr fun d hd => by
  obtain ⟨x, _, rfl⟩ := List.mem_map.mp hd
  exact h x
mutual
theorem Dv.ofSc {K : PySem.W.Frag} {C : Addr} {av av' : Addr → Prop} {H : Hp} (na : ∀ b, av' b → ∃ o, H b = some o ∧ Na o) : ∀ {v : V} {x : D}, Dv K C av H v x → x.sc = true → Dv K C av' H v x
  | _, _, .non, _ => .non
  | _, _, .bl b, _ => .bl b
  | _, _, .int b, _ => .int b
  | _, _, .str b, _ => .str b
  | _, _, .lst _ _ _ _, s => by cases s
  | _, _, .mac _ _ _ _, s => by cases s
  | _, _, .htp h1 h2 h3, _ => .htp h1 (fun q => by
      obtain ⟨o, h, n⟩ := na _ q
      rw [h1] at h
      exact n.2.1 _ (Option.some.inj h).symm) h3
  | _, _, .tup h1 _ h3 h4, s => .tup h1 (fun q => by
      obtain ⟨o, h, n⟩ := na _ q
      rw [h1] at h
      exact n.2.1 _ (Option.some.inj h).symm) h3 (DvAll.ofSc na h4 (by rw [D.sc] at s; exact s))
  | _, _, .ktup h1 h3 h4, s => .ktup h1 h3 (DvAll.ofSc na h4 (by rw [D.sc] at s; exact s))
  | _, _, .ktp h1 h2 _ h4, _ => .ktp h1 h2 (fun q => by
      obtain ⟨o, h, n⟩ := na _ q
      rw [h1] at h
      exact n.2.2 _ _ (Option.some.inj h).symm) h4
theorem DvAll.ofSc {K : PySem.W.Frag} {C : Addr} {av av' : Addr → Prop} {H : Hp} (na : ∀ b, av' b → ∃ o, H b = some o ∧ Na o) : ∀ {vs : List V} {ds : List D}, DvAll K C av H vs ds → D.scs ds = true → DvAll K C av' H vs ds
  | _, _, .nil, _ => .nil
  | _, _, .cons a b, s => by
    rw [D.scs, Bool.and_eq_true] at s
    exact .cons (Dv.ofSc na a s.1) (DvAll.ofSc na b s.2)
end
def RtS (Q : Sd → Cs → Prop) (cs : Cs) : Rt → Prop
  | .d x => x.sc = true ∧ Q (.d x) cs
  | .n ds => D.scs ds = true ∧ Q (.d (.lst ds)) cs
theorem rts_d {Q : Sd → Cs → Prop} {cs : Cs} {x : D} (s : x.sc = true) (h : Q (.d x) cs) : RtS Q cs (.d x) := ⟨s, h⟩
theorem rts_n {Q : Sd → Cs → Prop} {cs : Cs} {ds : List D} (s : D.scs ds = true) (h : Q (.d (.lst ds)) cs) : RtS Q cs (.n ds) := ⟨s, h⟩
def ArgC (cs : Cs) : List Sd → (List D → Prop) → Prop
  | [], k => k []
  | x :: xs, k => ∃ d, rdD cs x = some d ∧ ArgC cs xs fun ds => k (d :: ds)
theorem argc_nil {cs : Cs} {k : List D → Prop} (q : k []) : ArgC cs [] k := q
theorem argc_cons {cs : Cs} {x : Sd} {xs : List Sd} {k : List D → Prop} {d : D} (h : rdD cs x = some d) (q : ArgC cs xs fun ds => k (d :: ds)) : ArgC cs (x :: xs) k := ⟨d, h, q⟩
section
variable {W : Wo} {cs : Cs} {sl : Sl} {st : List Sd} {Q : Sd → Cs → Prop} {H H' : Hp} {σ : L2.St} {ws : List V}
theorem argc_rd {as : List Addr} : ∀ {vs : List V} {xs : List Sd} {k : List D → Prop}, RepA W as H σ (vs ++ ws) cs sl (xs ++ st) → vs.length = xs.length → ArgC cs xs k → ∃ ds, k ds ∧ DvAll W.K W.C (fun _ => False) H vs ds
  | [], [], _, _, _, h => ⟨[], h, .nil⟩
  | v :: vs, x :: xs, _, R, l, ⟨d, hd, h⟩ => by
    have h1 : Dv W.K W.C (fun _ => False) H v d := RepA.rd (ws := vs ++ ws) (st := xs ++ st) R hd
    obtain ⟨ds, h2, h3⟩ := argc_rd (vs := vs) (xs := xs) (RepA.drop1 (ws := vs ++ ws) (st := xs ++ st) R) (by simpa using l) h
    exact ⟨d :: ds, h2, .cons h1 h3⟩
  | [], _ :: _, _, _, l, _ => by cases l
  | _ :: _, [], _, _, l, _ => by cases l
theorem call_coreS {dsp : DSp} {E : XK} {Ed : ErP} (he : EOk W E Ed) {vs : List V} {ds : List D} (R : Rep W H σ ws cs sl st) (hv : DvAll W.K W.C (fun _ => False) H vs ds) (h : dsp ds (RtS Q cs) Ed) {Q' : VK} (k : ∀ sd cs' v H', Q sd cs' → Rep W H' σ (v :: ws) cs' sl (sd :: st) → Q' v H') : liftP W.K W.C dsp vs H Q' E := by
  obtain ⟨as, R⟩ := R
  refine ⟨fun _ => False, ds, RtS Q cs, Ed, fun _ h => h.elim, hv, h, fun rt v H' hq e ok => ?_, fun Cx fs H' hE e => he Cx fs H' σ ws cs sl st hE ⟨as, R.ex e⟩⟩
  cases rt with
  | d x =>
    obtain ⟨s, hq⟩ := hq
    have ok : Dv W.K W.C (fun _ => False) H' v x := ok
    exact k _ _ v H' hq ⟨as, (R.ex e).one (ok.ofSc (fun b hb => (R.ex e).alloc hb) s)⟩
  | n es =>
    obtain ⟨s, hq⟩ := hq
    obtain ⟨p, us, rfl, h1, h2, h3, h4⟩ := ok
    exact k _ _ _ H' hq ⟨as, (R.ex e).one (.lst h2 (R.fresh h1).1 h3 (h4.ofSc (fun b hb => (R.ex e).alloc hb) s))⟩
theorem w_callS {dsp : DSp} {E : XK} {Ed : ErP} {t : TA} (he : EOk W E Ed) (q : wA W t cs sl st fun xs cs1 => ArgC cs1 xs fun ds => dsp ds (RtS Q cs1) Ed) : wE W (tLend (tCall (liftP W.K W.C dsp) [] E t)) cs sl st Q := fun H σ ws R Q' k => q H σ ws R _ fun xs cs1 vs H1 h1 l R1 => by
  rw [List.append_nil]
  obtain ⟨as, R1⟩ := R1
  obtain ⟨ds, h2, h3⟩ := argc_rd R1 l h1
  exact call_coreS he ⟨as, R1.st' (StOk.split l R1.st).2⟩ h3 h2 k
end
end R

/-! # ST: sorted -/
namespace R
open PySem PySem.Spec PyProof.Rows L2 L2H LamX
/-- a list of at most one item -/
def rSort1 (K : PySem.W.Frag) : List V → Hp → VK → Prop := fun vs H Q => ∃ (a : Addr) (xs : List V), vs = [V.ref a] ∧ SqL K H a xs ∧ xs.length ≤ 1 ∧ (∀ x ∈ xs, ∃ t, x = V.ref t) ∧ ∀ p, H p = none → Q (.ref p) (upd H p (.lst xs))
theorem perm_le1 {α : Type} {l m : List α} (h : l.Perm m) (h1 : m.length ≤ 1) : l = m := by
  cases m with
  | nil => exact h.eq_nil
  | cons x m => cases m with
    | nil => exact List.perm_singleton.mp h
    | cons y m => exact absurd h1 (by simp)
theorem cr_sort1 {X : Cx} : CallR X (.builtin "sorted") (rSort1 X.K) := by
  intro pins s σ H vs us Q I r h
  obtain ⟨a, xs, rfl, hs, h1, hx, q⟩ := h
  obtain ⟨its, rv, hl, hz⟩ := I.list hs
  rw [Vals.ref1 r]
  obtain ⟨e1, e2⟩ := bkV_refs rv hx
  refine Srt.sorted_any hl.isList (by rw [← rv.length]; exact hz) (fun h2 => absurd (rv.length ▸ h2) (by omega)) fun out hp => ?_
  obtain ⟨ep, he'⟩ := PyProof.Rows.sortedAll_at s.heap its out.toArray
  have h3 : ∀ u ∈ out, ∃ a, u = Value.ref a := fun u hu => e2 u (hp.mem_iff.mp hu)
  have hp2 : (out.map bkV).Perm xs := by
    rw [e1]
    exact hp.map bkV
  have he : out.map bkV = xs := by
    exact perm_le1 hp2 h1
  refine ⟨.ref _, upd H (s.heap.objs.size + 1) (.lst (out.map bkV)), I.laid (t' := s.toks) (fun _ _ => PyProof.Rows.sortedAll_old) (Nat.le_succ _) ⟨by rw [hp2.length_eq]; exact hz, out, ep, bkV_vals h3, he'⟩, rfl, ?_⟩
  rw [he]
  exact q _ (I.hok.fresh (Nat.le_succ _))
def sSort (K : PySem.W.Frag) : List V → Hp → VK → Prop := fun vs H Q => rSortedI K vs H Q ∨ rSort1 K vs H Q ∨ ∃ (d : Nat) (B : Int), 1 ≤ d ∧ rSortU K d B vs H Q
theorem call_sSort {X : Cx} : CallR X (.builtin "sorted") (sSort X.K) := by
  intro pins s σ H vs us Q I r h
  rcases h with h | h | ⟨d, B, hd, h⟩
  · exact cr_sortedI pins s σ H vs us Q I r h
  · exact cr_sort1 pins s σ H vs us Q I r h
  · exact cr_sortT hd pins s σ H vs us Q I r h
def sMin2 : List V → Hp → VK → Prop := fun xs H Q => ∃ i j, xs = [.int i, .int j] ∧ Q (.int (if j < i then j else i)) H
def sMax2 : List V → Hp → VK → Prop := fun xs H Q => ∃ i j, xs = [.int i, .int j] ∧ Q (.int (if j > i then j else i)) H
theorem call_sMin2 {X : Cx} (hc : X.calm = true) : CallR X (.builtin "min") sMin2 := call_min2 hc
theorem call_sMax2 {X : Cx} (hc : X.calm = true) : CallR X (.builtin "max") sMax2 := call_max2 hc
theorem DvAll.perm {K : PySem.W.Frag} {C : Addr} {av : Addr → Prop} {H : Hp} {α : Type} {f : α → D} {xs ys : List V} (h : xs.Perm ys) : ∀ {ns : List α}, DvAll K C av H xs (ns.map f) → ∃ ms : List α, ms.Perm ns ∧ DvAll K C av H ys (ms.map f) := by
  induction h with
  | nil => exact fun {ns} h => ⟨ns, .refl _, h⟩
  | cons x _ ih =>
    intro ns h
    match ns, h with
    | n :: ns, .cons a b =>
      obtain ⟨ms, h1, h2⟩ := ih b
      exact ⟨n :: ms, h1.cons n, .cons a h2⟩
  | swap x y l =>
    intro ns h
    match ns, h with
    | n :: m :: ns, .cons a (.cons b c) => exact ⟨m :: n :: ns, .swap n m ns, .cons b (.cons a c)⟩
  | trans _ _ ih1 ih2 =>
    intro ns h
    obtain ⟨ms, h1, h2⟩ := ih1 h
    obtain ⟨ks, h3, h4⟩ := ih2 h2
    exact ⟨ks, h3.trans h1, h4⟩
theorem sorted_eq {α : Type} (k : α → Int) : ∀ {l m : List α}, l.Perm m → l.Pairwise (fun a b => k a ≤ k b) → m.Pairwise (fun a b => k a < k b) → l = m
  | l, [], h, _, _ => h.eq_nil
  | [], _ :: _, h, _, _ => by
    have := h.length_eq
    cases this
  | a :: l, b :: m, h, h1, h2 => by
    rw [List.pairwise_cons] at h1 h2
    have ha : a ∈ b :: m := h.mem_iff.mp (.head _)
    have hb : b ∈ a :: l := h.mem_iff.mpr (.head _)
    have hab : a = b := by
      rcases List.mem_cons.mp ha with e | ha
      · exact e
      · have l1 := h2.1 a ha
        rcases List.mem_cons.mp hb with e | hb
        · exact e.symm
        · have l2 := h1.1 b hb
          omega
    subst hab
    rw [sorted_eq k h.cons_inv h1.2 h2.2]
section
variable {W : Wo} {cs : Cs} {sl : Sl} {st : List Sd} {Q : List D → Cs → Prop}
abbrev dti (ns : List Int) : D := .tup (ns.map .int)
theorem dti_tup {K : PySem.W.Frag} {C : Addr} {av : Addr → Prop} {H : Hp} {v : V} {ns : List Int} (h : Dv K C av H v (dti ns)) : TupI K H v ns := by
  have h : Dv K C av H v (D.tup (ns.map D.int)) := h
  generalize hd : D.tup (ns.map D.int) = d at h
  cases h with
  | tup h1 h2 h3 h4 =>
    cases hd
    rw [DvAll.ints h4] at h1
    exact ⟨_, rfl, .inl (.inl h1)⟩
  | ktup h1 h3 h4 =>
    have e := D.tup.inj hd
    rw [← e] at h4
    rw [DvAll.ints h4] at h1
    exact ⟨_, rfl, h1 H⟩
  | _ => cases hd
theorem o_sortI {x : Sd} {ns ms : List Int} (hp : ms.Perm ns) (hs : ms.Pairwise (· < ·)) (q : Q (ms.map .int) cs) (h : rdD cs x = some (.lst (ns.map .int)) := by rfl) : wCN W (sSort W.K) [x] cs sl st Q := fun H σ vs ws l R Q' k => by
  match vs, l, R with
  | [v], _, R =>
    have R : Rep W H σ (v :: ws) cs sl (x :: st) := R
    obtain ⟨as, R⟩ := R
    obtain ⟨a, xs, rfl, h1, h2, h3, h4⟩ := R.rlA h
    have hx := DvAll.ints h4
    subst hx
    refine .inl ⟨a, ns, rfl, .inl (.inl h1), fun ns' p hp2 hs2 n => ?_⟩
    obtain rfl : ns' = ms := sorted_eq id (hp2.trans hp.symm) hs2 hs
    have R2 : Rep W H σ (ns'.map V.int ++ ws) cs sl ((ns'.map D.int).map .d ++ st) := ⟨as, R.drop1.all (DvAll.ofInts ns')⟩
    have hl : (ns'.map V.int).length ≤ 900000 := by
      rw [List.length_map, hp.length_eq]
      rw [List.length_map] at h3
      exact h3
    have r := new_list (p := p) R2 (by rw [List.length_map, List.length_map]) (by rw [List.length_map] at hl ⊢; exact hl) n
    exact k _ _ _ _ q r.1 r.2
theorem o_sortT {x : Sd} {d : Nat} {B : Int} {nss rs : List (List Int)} (h64 : nss.length < 64) (hd : ∀ ns ∈ nss, ns.length = d ∧ TS.Bd B ns) (hp : rs.Perm nss) (hs : rs.Pairwise fun a b => TS.code B a < TS.code B b) (q : Q (rs.map dti) cs) (h : rdD cs x = some (.lst (nss.map dti)) := by rfl) : wCN W (sSort W.K) [x] cs sl st Q := fun H σ vs ws l R Q' k => by
  match vs, l, R with
  | [v], _, R =>
    have R : Rep W H σ (v :: ws) cs sl (x :: st) := R
    obtain ⟨as, R⟩ := R
    obtain ⟨a, xs, rfl, h1, h2, h3, h4⟩ := R.rlA h
    have hxl : xs.length = nss.length := by rw [h2, List.length_map]
    have fin : ∀ (ys : List V) (p : Addr), ys.Perm xs → ys.Pairwise (fun x y => ∀ n m, TupI W.K H x n → TupI W.K H y m → TS.code B n ≤ TS.code B m) → H p = none → Q' (.ref p) (upd H p (.lst ys)) := fun ys p hp2 hs2 n => by
      obtain ⟨ms, e1, e2⟩ := DvAll.perm hp2.symm h4
      have hms : ms.Pairwise fun a b => TS.code B a ≤ TS.code B b := by
        clear e1 n hp2
        induction ms generalizing ys with
        | nil => exact .nil
        | cons m ms ih =>
          cases e2 with
          | cons a b =>
            rw [List.pairwise_cons] at hs2 ⊢
            refine ⟨fun m' hm' => ?_, ih _ hs2.2 b⟩
            obtain ⟨i, hi⟩ := List.mem_iff_getElem?.mp hm'
            obtain ⟨y, hy1, hy2⟩ := DvAll.get b (i := i) (by rw [List.getElem?_map, hi]; rfl)
            exact hs2.1 y (List.mem_of_getElem? hy1) m m' (dti_tup a) (dti_tup hy2)
      obtain rfl : ms = rs := sorted_eq (TS.code B) (e1.trans hp.symm) hms hs
      have R2 : Rep W H σ (ys ++ ws) cs sl ((ms.map dti).map .d ++ st) := ⟨as, R.drop1.all e2⟩
      have hl : (ms.map dti).length ≤ 900000 := by
        rw [List.length_map, hp.length_eq]
        omega
      have r := new_list (p := p) R2 e2.len hl n
      exact k _ _ _ _ q r.1 r.2
    by_cases d0 : 1 ≤ d
    · refine .inr (.inr ⟨d, B, d0, a, xs, rfl, .inl (.inl h1), by omega, fun x hx => ?_, fin⟩)
      obtain ⟨i, hi⟩ := List.mem_iff_getElem?.mp hx
      obtain ⟨dd, g1, g2⟩ := DvAll.getV h4 hi
      rw [List.getElem?_map] at g1
      obtain ⟨ns, g3, rfl⟩ := Option.map_eq_some_iff.mp g1
      have := hd ns (List.mem_of_getElem? g3)
      exact ⟨ns, dti_tup g2, this.1, this.2⟩
    · have hx1 : xs.length ≤ 1 := by
        rw [hxl, ← hp.length_eq]
        match rs, hs, hp with
        | [], _, _ => exact Nat.zero_le _
        | [_], _, _ => exact Nat.le_refl _
        | a :: b :: rs, hs, hp =>
          rw [List.pairwise_cons] at hs
          have h1 := hs.1 b (.head _)
          have h2 := (hd a (hp.mem_iff.mp (.head _))).1
          have h3 := (hd b (hp.mem_iff.mp (.tail _ (.head _)))).1
          have ha : a = [] := List.eq_nil_of_length_eq_zero (by omega)
          have hb : b = [] := List.eq_nil_of_length_eq_zero (by omega)
          rw [ha, hb] at h1
          exact absurd h1 (Int.lt_irrefl _)
      refine .inr (.inl ⟨a, xs, rfl, .inl (.inl h1), hx1, fun x hx => ?_, fun p n => fin xs p (.refl _) ?_ n⟩)
      · obtain ⟨i, hi⟩ := List.mem_iff_getElem?.mp hx
        obtain ⟨dd, g1, g2⟩ := DvAll.getV h4 hi
        rw [List.getElem?_map] at g1
        obtain ⟨ns, g3, rfl⟩ := Option.map_eq_some_iff.mp g1
        obtain ⟨t, e, _⟩ := dti_tup g2
        exact ⟨t, e⟩
      · match xs, hx1 with
        | [], _ => exact .nil
        | [x], _ => exact List.pairwise_singleton _ _
variable {Q' : Sd → Cs → Prop}
theorem o_min2 {i j : Int} (q : Q' (.d (.int (if j < i then j else i))) cs) : wC W sMin2 [.d (.int i), .d (.int j)] cs sl st Q' := fun H σ vs ws l R Q2 k => by
  match vs, l, R with
  | [u, v], _, R =>
    have R : Rep W H σ (u :: v :: ws) cs sl (.d (.int i) :: .d (.int j) :: st) := R
    obtain rfl := R.int
    obtain rfl := R.drop1.int
    exact ⟨i, j, rfl, k _ _ _ _ q (R.drop1.drop1.push (scd_int _))⟩
theorem o_max2 {i j : Int} (q : Q' (.d (.int (if j > i then j else i))) cs) : wC W sMax2 [.d (.int i), .d (.int j)] cs sl st Q' := fun H σ vs ws l R Q2 k => by
  match vs, l, R with
  | [u, v], _, R =>
    have R : Rep W H σ (u :: v :: ws) cs sl (.d (.int i) :: .d (.int j) :: st) := R
    obtain rfl := R.int
    obtain rfl := R.drop1.int
    exact ⟨i, j, rfl, k _ _ _ _ q (R.drop1.drop1.push (scd_int _))⟩
end
end R

/-! # DC: own dicts -/
namespace R
open PySem PySem.Spec PyProof.Rows L2 L2H LamX
section
variable {κ : Type} [DecidableEq κ]
def lkD (kvs : List (κ × D)) (k : κ) : Option D := (kvs.find? fun kv => decide (kv.1 = k)).map (·.2)
def putD (kvs : List (κ × D)) (k : κ) (v : D) : List (κ × D) :=
  if (kvs.any fun kv => decide (kv.1 = k)) = true then kvs.map (fun kv => if kv.1 = k then (kv.1, v) else kv) else kvs ++ [(k, v)]
theorem lkD_cons (p : κ × D) (r : List (κ × D)) (k : κ) : lkD (p :: r) k = if p.1 = k then some p.2 else lkD r k := by
  unfold lkD
  rw [List.find?_cons]
  by_cases e : p.1 = k
  · rw [if_pos e, decide_eq_true e]
    rfl
  · rw [if_neg e, decide_eq_false e]
theorem putD_len (c : List (κ × D)) (k : κ) (x : D) : (putD c k x).length ≤ c.length + 1 := by
  unfold putD
  split
  · rw [List.length_map]
    omega
  · rw [List.length_append]
    exact Nat.le_refl _
variable {K : PySem.W.Frag} {C : Addr} {av : Addr → Prop} {H : Hp}
theorem DvK.len : ∀ {vs : List (κ × V)} {ds : List (κ × D)}, DvK K C av H vs ds → vs.length = ds.length
  | [], [], _ => rfl
  | (_, _) :: _, (_, _) :: _, h => congrArg Nat.succ (DvK.len h.2.2)
  | [], _ :: _, h => h.elim
  | _ :: _, [], h => h.elim
theorem DvK.lk (k : κ) : ∀ {vs : List (κ × V)} {ds : List (κ × D)}, DvK K C av H vs ds → (valV vs k = none ∧ lkD ds k = none) ∨ ∃ v d, valV vs k = some v ∧ lkD ds k = some d ∧ Dv K C av H v d
  | [], [], _ => .inl ⟨rfl, rfl⟩
  | (i, v) :: vs, (j, d) :: ds, h => by
    obtain ⟨rfl, h1, h2⟩ := h
    rw [lkD_cons]
    by_cases e : i = k
    · exact .inr ⟨v, d, valV_pos e, by rw [if_pos e], h1⟩
    · rw [valV_neg (p := (i, v)) e, if_neg e]
      exact DvK.lk k h2
  | [], _ :: _, h => h.elim
  | _ :: _, [], h => h.elim
theorem DvK.anyk (k : κ) : ∀ {vs : List (κ × V)} {ds : List (κ × D)}, DvK K C av H vs ds → (vs.any fun kv => decide (kv.1 = k)) = (ds.any fun kv => decide (kv.1 = k))
  | [], [], _ => rfl
  | (i, v) :: vs, (j, d) :: ds, h => by
    obtain ⟨rfl, h1, h2⟩ := h
    rw [List.any_cons, List.any_cons, DvK.anyk k h2]
  | [], _ :: _, h => h.elim
  | _ :: _, [], h => h.elim
theorem DvK.put {v : V} {d : D} (k : κ) (hv : Dv K C av H v d) {vs : List (κ × V)} {ds : List (κ × D)} (h : DvK K C av H vs ds) : DvK K C av H (putK vs k v) (putD ds k d) := by
  unfold putK putD
  rw [h.anyk k]
  have mp : ∀ {vs : List (κ × V)} {ds : List (κ × D)}, DvK K C av H vs ds → DvK K C av H (vs.map fun kv => if kv.1 = k then (kv.1, v) else kv) (ds.map fun kv => if kv.1 = k then (kv.1, d) else kv) := fun {vs ds} h => by
    induction vs generalizing ds with
    | nil => cases ds with
      | nil => trivial
      | cons _ _ => exact h.elim
    | cons p vs ih => cases ds with
      | nil => exact h.elim
      | cons q ds =>
        obtain ⟨i, u⟩ := p
        obtain ⟨j, e⟩ := q
        obtain ⟨rfl, h1, h2⟩ := h
        rw [List.map_cons, List.map_cons]
        by_cases c : i = k
        · rw [if_pos c, if_pos c]
          exact ⟨rfl, hv, ih h2⟩
        · rw [if_neg c, if_neg c]
          exact ⟨rfl, h1, ih h2⟩
  have ap : ∀ {vs : List (κ × V)} {ds : List (κ × D)}, DvK K C av H vs ds → DvK K C av H (vs ++ [(k, v)]) (ds ++ [(k, d)]) := fun {vs ds} h => by
    induction vs generalizing ds with
    | nil => cases ds with
      | nil => exact ⟨rfl, hv, trivial⟩
      | cons _ _ => exact h.elim
    | cons p vs ih => cases ds with
      | nil => exact h.elim
      | cons q ds =>
        obtain ⟨i, u⟩ := p
        obtain ⟨j, e⟩ := q
        exact ⟨h.1, h.2.1, ih h.2.2⟩
  split
  · exact mp h
  · exact ap h
end
section
variable {W : Wo} {cs : Cs} {sl : Sl} {st : List Sd} {Q : Sd → Cs → Prop} {F : DE}
theorem new_dk {H : Hp} {σ : L2.St} {ws : List V} {p : Addr} (R : Rep W H σ ws cs sl st) (n : H p = none) : Rep W (upd H p (.dK [])) σ (.ref p :: ws) (cs ++ [some (.dk [])]) sl (.c cs.length :: st) := by
  obtain ⟨as, R⟩ := R
  have Rg := R.grow n (o := .dK []) (c := .dk []) trivial
  exact ⟨as ++ [p], Rg.st' ⟨⟨p, by rw [← R.len]; simp, rfl⟩, Rg.st⟩⟩
/-- {} -/
theorem w_dnew (q : Q (.c cs.length) (cs ++ [some (.dk [])])) : wE W tDNewK cs sl st Q := fun H σ ws R Q' k => fun p hp => k _ _ _ _ q (new_dk R hp)
/-- what stands at a dict's place -/
theorem RepA.dk {as : List Addr} {H : Hp} {σ : L2.St} {v : V} {ws : List V} {i : Nat} {kvs : List (Key × D)} (R : RepA W as H σ (v :: ws) cs sl (.c i :: st)) (h : cs[i]? = some (some (.dk kvs))) : ∃ a vs, v = .ref a ∧ as[i]? = some a ∧ H a = some (.dK vs) ∧ DvK W.K W.C (Av W as cs) H vs kvs := by
  obtain ⟨a, ha, e⟩ := R.st.1
  obtain ⟨o, ho, hc⟩ := R.cells i a _ ha h
  cases o with
  | dK vs => exact ⟨a, vs, e, ha, ho, hc⟩
  | _ => exact hc.elim
/-- d[k] -/
def DgK (cs : Cs) (P : D → Prop) (x y : Sd) : Prop := ∃ (i : Nat) (n : Int) (kvs : List (Key × D)) (d : D), x = .c i ∧ y = .d (.int n) ∧ cs[i]? = some (some (.dk kvs)) ∧ lkD kvs (.inl n) = some d ∧ P d
theorem w_dgetC {td ty : TE} (q : wE W td cs sl st fun x cs1 => wE W ty cs1 sl (x :: st) fun y cs2 => DgK cs2 (fun d => Q (.d d) cs2) x y) : wE W (tDGet td ty) cs sl st Q := fun H σ ws R Q' k => q H σ ws R _ fun x cs1 v H1 h1 R1 => h1 H1 σ (v :: ws) R1 _ fun y cs2 u H2 h2 R2 => by
  obtain ⟨i, n, kvs, d, rfl, rfl, hi, hk, hq⟩ := h2
  obtain rfl := R2.int
  obtain ⟨as, R2⟩ := R2
  obtain ⟨a, vs, rfl, ha, ho, hv⟩ := R2.drop1.dk hi
  rcases hv.lk (.inl n) with ⟨_, e⟩ | ⟨w, d', e1, e2, e3⟩
  · rw [hk] at e
    cases e
  · rw [hk] at e2
    cases e2
    refine ⟨a, w, rfl, ?_, k _ _ _ _ hq ⟨as, R2.drop1.drop1.one e3⟩⟩
    rw [← e1]
    exact DGet.k (k := Sum.inl n) ho
/-- d.get(k, x) -/
def DcK (cs : Cs) (P : Prop) (x : Sd) : Prop := (∃ i kvs, x = .c i ∧ cs[i]? = some (some (.dk kvs))) ∧ P
def Dg2K (cs : Cs) (P : D → Prop) (x y z : Sd) : Prop := ∃ (i : Nat) (n : Int) (kvs : List (Key × D)) (dz : D), x = .c i ∧ y = .d (.int n) ∧ z = .d dz ∧ cs[i]? = some (some (.dk kvs)) ∧ P ((lkD kvs (.inl n)).getD dz)
theorem w_dget2C {td ty tx : TE} (q : wE W td cs sl st fun x cs1 => DcK cs1 (wE W ty cs1 sl (x :: st) fun y cs2 => wE W tx cs2 sl (y :: x :: st) fun z cs3 => Dg2K cs3 (fun d => Q (.d d) cs3) x y z) x) : wE W (tDGet2 td ty tx) cs sl st Q := fun H σ ws R Q' k => q H σ ws R _ fun x cs1 v H1 h1 R1 => by
  obtain ⟨⟨i0, kvs0, rfl, hi0⟩, h1⟩ := h1
  obtain ⟨as0, R1'⟩ := id R1
  obtain ⟨a0, vs0, rfl, ha0, ho0, _⟩ := R1'.dk hi0
  refine ⟨a0, rfl, .inl ⟨vs0, .inl ho0⟩, h1 H1 σ (.ref a0 :: ws) R1 _ fun y cs2 u H2 h2 R2 => h2 H2 σ (u :: .ref a0 :: ws) R2 _ fun z cs3 t H3 h3 R3 => ?_⟩
  obtain ⟨i, n, kvs, dz, e, rfl, rfl, hi, hq⟩ := h3
  cases e
  obtain ⟨as, R3⟩ := R3
  have R4 := R3.drop1
  obtain rfl := Rep.int ⟨as, R4⟩
  obtain ⟨a, vs, ea, ha, ho, hv⟩ := R4.drop1.dk hi
  cases ea
  refine ⟨valV vs (.inl n), DGet.k (k := Sum.inl n) ho, ?_⟩
  rcases hv.lk (.inl n) with ⟨e1, e2⟩ | ⟨w, d', e1, e2, e3⟩
  · rw [e2] at hq
    rw [e1]
    exact k _ _ _ _ hq ⟨as, R4.drop1.drop1.one R3.st.1⟩
  · rw [e2] at hq
    rw [e1]
    exact k _ _ _ _ hq ⟨as, R4.drop1.drop1.one e3⟩
/-- d[k] = v -/
def DpK (cs : Cs) (P : Cs → Prop) (v x y : Sd) : Prop := ∃ (i : Nat) (n : Int) (kvs : List (Key × D)) (d : D), v = .d d ∧ x = .c i ∧ y = .d (.int n) ∧ cs[i]? = some (some (.dk kvs)) ∧ kvs.length < 900000 ∧ P (cs.set i (some (.dk (putD kvs (.inl n) d))))
theorem w_dput {td ty tv : TE} (q : wE W tv cs sl st fun v cs1 => wE W td cs1 sl (v :: st) fun x cs2 => wE W ty cs2 sl (x :: v :: st) fun y cs3 => DpK cs3 (fun cs4 => F.nx cs4 sl) v x y) : wS W (sDPut td ty tv) cs sl st F := fun H σ ws R De k => q H σ ws R _ fun v cs1 vv H1 h1 R1 => h1 H1 σ (vv :: ws) R1 _ fun x cs2 vx H2 h2 R2 => h2 H2 σ (vx :: vv :: ws) R2 _ fun y cs3 vy H3 h3 R3 => by
  obtain ⟨i, n, kvs, d, rfl, rfl, rfl, hi, hl, hq⟩ := h3
  obtain rfl := R3.int
  obtain ⟨as, R3⟩ := R3
  obtain ⟨a, vs, rfl, ha, ho, hv⟩ := R3.drop1.dk hi
  have hd := R3.drop1.drop1.st.1
  have hlen := hv.len
  refine ⟨a, _, rfl, DPut.k (k := Sum.inl n) ho (sz_lt (by omega)), k.nx _ _ _ _ hq ⟨as, ?_⟩⟩
  exact (R3.drop1.drop1.drop1).setc (c := .dk (putD kvs (.inl n) d)) (o := .dK (putK vs (.inl n) vv)) ha hi (DvK.put (κ := Key) (.inl n) hd hv)
/-- list(d) -/
def kD : Key → D
  | .inl n => .int n
  | .inr s => .str s
theorem dv_keys {K : PySem.W.Frag} {C : Addr} {av : Addr → Prop} {H : Hp} : ∀ {vs : List (Key × V)} {kvs : List (Key × D)}, DvK K C av H vs kvs → DvAll K C av H (vs.map fun kv => kV kv.1) (kvs.map fun kv => kD kv.1)
  | [], [], _ => .nil
  | (i, v) :: vs, (j, d) :: ds, h => by
    obtain ⟨rfl, _, h2⟩ := h
    refine .cons ?_ (dv_keys h2)
    cases i with
    | inl n => exact .int n
    | inr s => exact .str s
  | [], _ :: _, h => h.elim
  | _ :: _, [], h => h.elim
theorem o_listDk {i : Nat} {kvs : List (Key × D)} {Q : List D → Cs → Prop} (h : cs[i]? = some (some (.dk kvs))) (hl : kvs.length ≤ 900000) (q : Q (kvs.map fun kv => kD kv.1) cs) : wCN W rListD [.c i] cs sl st Q := fun H σ vs ws l R Q' k => by
  match vs, l, R with
  | [v], _, R =>
    have R : Rep W H σ (v :: ws) cs sl (.c i :: st) := R
    obtain ⟨as, R⟩ := R
    obtain ⟨a, us, rfl, ha, ho, hv⟩ := R.dk h
    unfold rListD
    refine ⟨a, us, rfl, ho, fun p n => ?_⟩
    have hk := dv_keys hv
    have R2 : Rep W H σ ((us.map fun kv => kV kv.1) ++ ws) cs sl ((kvs.map fun kv => kD kv.1).map .d ++ st) := ⟨as, R.drop1.all hk⟩
    have r := new_list (p := p) R2 hk.len (by rw [List.length_map]; exact hl) n
    exact k _ _ _ _ q r.1 r.2
end
theorem pe_dispK {X : Cx} {pos : Pos} {keys : List (Option Expr)} {values : List Expr} {trs : List (TE × TE)} (h : PPs X pos keys values trs) (hall : keys.all (·.isSome) = true := by rfl) (hl : keys.length = values.length := by rfl) (h0 : keys ≠ [] := by exact List.cons_ne_nil _ _)
    (h15 : keys.length ≤ 15 := by decide) : PE X (.Dict keys values pos) (tDisp trs) := pe_disp h hall hl h0 h15
theorem pe_dgetm {X : Cx} {o e f : Expr} {apos cpos : Pos} {td ty tx : TE} (hu : X.A.units + 1 < cLine) (ho : PE X o td) (he : PE X e ty) (hf : PE X f tx) (h1 : attributeBase o "get" X.env (eval o X.env) = eval o X.env := by rfl)
    (h2 : ((backTo cpos (starEach [e, f] X.env)).all (fun x => !x.1) && (backToKw cpos (keywordEach [] X.env)).all (fun x => x.1.isSome) && decide (([e, f] : List Expr).length + ([] : List Keyword).length + (if ([] : List Keyword).isEmpty then 0 else 1) < 30)) = true := by rfl)
    (h3 : (apos.endLine == cpos.line) = true := by rfl) (h4 : backTo cpos (starEach [e, f] X.env) = [(false, eval e X.env), (false, eval f X.env)] := by rfl) : PE X (.Call (.Attribute o "get" apos) [e, f] [] cpos) (tDGet2 td ty tx) := pe_dget2 hu ho he hf ⟨h1, h2, h3, h4⟩
section
variable {W : Wo} {cs : Cs} {sl : Sl} {st : List Sd} {Q : Sd → Cs → Prop}
/-- {k: v} -/
def D1K (cs : Cs) (Q : Sd → Cs → Prop) (cs3 : Cs) (x y : Sd) : Prop := ∃ (n : Int) (d : D), x = .d (.int n) ∧ y = .d d ∧ cs3 = cs ++ [some (.dk [])] ∧ Q (.c cs.length) (cs ++ [some (.dk [(.inl n, d)])])
theorem w_disp1 {tk tv : TE} (q : wE W tk (cs ++ [some (.dk [])]) sl (.c cs.length :: st) fun x cs2 => wE W tv cs2 sl (x :: .c cs.length :: st) fun y cs3 => D1K cs Q cs3 x y) : wE W (tDisp [(tk, tv)]) cs sl st Q := fun H σ ws R Q' k => by
  intro p hp
  have hlen : cs.length < (cs ++ [some (Cell.dk [])]).length := by simp
  refine q _ σ (.ref p :: ws) (new_dk R hp) _ fun x cs2 v H2 h2 R2 => h2 H2 σ (v :: .ref p :: ws) R2 _ fun y cs3 u H3 h3 R3 => ?_
  obtain ⟨n, d, rfl, rfl, rfl, hq⟩ := h3
  obtain ⟨as, R3⟩ := R3
  have R4 := R3.drop1
  obtain rfl := Rep.int ⟨as, R4⟩
  have hx : (cs ++ [some (Cell.dk [])])[cs.length]? = some (some (.dk [])) := by simp
  obtain ⟨a, vs, ea, ha, ho, hv⟩ := R4.drop1.dk hx
  cases ea
  have hvs : vs = [] := by
    cases vs with
    | nil => rfl
    | cons _ _ => exact hv.elim
  subst hvs
  refine ⟨ho, [(.inl n, u)], rfl, Nat.le_of_ble_eq_true rfl, k _ _ _ _ hq ⟨as, ?_⟩⟩
  have R5 := (R4.drop1).setc (c := .dk [(.inl n, d)]) (o := .dK [(.inl n, u)]) ha hx ⟨rfl, R3.st.1, trivial⟩
  have e : (cs ++ [some (Cell.dk [])]).set cs.length (some (.dk [(.inl n, d)])) = cs ++ [some (.dk [(.inl n, d)])] := by simp
  rw [e] at R5
  exact R5
end
end R

/-! # TC: tuple.count, tuples that are known -/
namespace R
open PySem PySem.Spec PyProof.Rows L2 L2H LamX
/-- x is a tuple whose one object is known -/
def Kn (H : Hp) (x : V) : Prop := ∃ a o xs, x = .ref a ∧ H a = some (.frz o (.tup xs)) ∧ o.dict = none
def tBMT (r : V → List V → Hp → VK → Prop) (to : TE) (t : TA) : TE := fun σ H Q => to σ H fun x H1 => Kn H1 x ∧ t σ H1 fun xs H2 => r x xs H2 Q
section
variable {X : Cx} {o e : Expr} {es : List Expr} {to : TE} {t : TA} {name : Str} {apos cpos : Pos} {id : String} {r : V → List V → Hp → VK → Prop}
theorem pe_bmT (slot : Slot "tuple" name id) (hty : typeOf (.builtin id) = pure (.type "method_descriptor")) (hm : MtR X id r) (ho : PE X o to) (ha : PA X (e :: es) t)
    (hbase : attributeBase o name X.env (eval o X.env) = eval o X.env := by rfl)
    (hfew : ((backTo cpos (starEach (e :: es) X.env)).all (fun x => !x.1) && (backToKw cpos (keywordEach [] X.env)).all (fun x => x.1.isSome)
      && decide ((e :: es).length + ([] : List Keyword).length + (if ([] : List Keyword).isEmpty then 0 else 1) < 30)) = true := by rfl)
    (hline : (apos.endLine == cpos.line) = true := by rfl) (hs : starEach (e :: es) X.env = (false, eval e X.env) :: starEach es X.env := by rfl) (hplain : (backTo cpos (starEach es X.env)).any (·.1) = false := by rfl) :
    PE X (.Call (.Attribute o name apos) (e :: es) [] cpos) (tBMT r to t) := by
  refine ⟨fun pins s σ H Q I h => ?_⟩
  refine wpAny_Call_method_late hbase hfew hline rfl (thn (ho.run pins s σ H _ I h) fun v s1 ⟨x, H1, I1, r1, ty, q1⟩ => ?_)
  obtain ⟨a, ob, xs, rfl, hk, hd⟩ := ty
  cases r1
  obtain ⟨hg, _, _, _, o', hg', hc, _⟩ := I1.hok a _ hk
  rw [hg] at hg'
  cases hg'
  refine ⟨"tuple", id, PySem.F.plainAttrs_tuple, slot, hty, ⟨ob, hg, hc⟩, fun b e => (by cases e; exact ⟨ob, hg, hd⟩), ?_⟩
  have hA := ha.run cpos pins s1 σ H1 _ I1 q1
  rw [hs] at hA ⊢
  refine Calls.callWith_builtin (by show (false || (backTo cpos (starEach es X.env)).any (·.1)) = false; rw [hplain] <;> rfl) (Calls.evalArgs_plain ?_)
  exact thn hA fun us s2 ⟨vs, H2, I2, r2, q2⟩ => hm pins s2 σ H2 (.ref a) vs (.ref a) us Q I2 rfl r2 q2
end
def rCntT (K : PySem.W.Frag) : V → List V → Hp → VK → Prop := fun x xs H Q => ∃ (p : Addr) (ns : List Int) (k : Int), x = .ref p ∧ xs = [.int k] ∧ SqT K H p (ns.map V.int) ∧ Q (.int (ns.count k : Nat)) H
theorem mt_tcount {X : Cx} : MtR X "tuple.count" (rCntT X.K) := by
  intro pins s σ H x xs v us Q I rx rxs h
  obtain ⟨p, ns, k, rfl, rfl, hs, q⟩ := h
  cases rx
  obtain ⟨u, rfl, ru⟩ := rxs.one
  obtain ⟨t, rfl⟩ := ru
  obtain ⟨its, rv, ⟨⟨cls, dd, data, sl⟩, ho, hc, n, hd⟩, hlen⟩ := I.tuple hs
  simp only at hc hd
  subst hc hd
  have hi := ints_of_vals rv
  refine call_meets PySem.F.slot_tuple_count ⟨_, ho, rfl⟩ PySem.F.entry_tuple_count (PySem.F.args_tuple_count_2 _ _)
    (SeqAt.tuple_countAt p its.toArray n dd sl (.int k t) (L2.eqk k)) ⟨ho, fun y hy => (L2.eqk_gives hi y (by simpa using hy)).at _ _, ?_⟩
  have ec : its.toArray.toList.countP (L2.eqk k) = ns.count k := L2.eqk_count hi
  refine ⟨.int (ns.count k : Nat), H, I.tok _, ⟨s.toks, ?_⟩, q⟩
  show Value.int ((its.toArray.toList.countP (L2.eqk k) : Nat) : Int) s.toks = Value.int ((ns.count k : Nat) : Int) s.toks
  rw [ec]
/-! known tuples made -/
def sTupleN (K : PySem.W.Frag) : List V → Hp → VK → Prop := fun vs H Q => ∃ p xs, vs = [.ref p] ∧ ((SqL K H p xs ∧ ∀ l o, H l = none → o.dict = none → Q (.ref l) (upd H l (.frz o (.tup xs)))) ∨ (SqT K H p xs ∧ Q (.ref p) H))
theorem call_sTupleN {X : Cx} : CallR X (.type "tuple") (sTupleN X.K) := by
  intro pins s σ H xs us Q I r h
  obtain ⟨p, ys, rfl, h⟩ := h
  obtain ⟨u, rfl, rx⟩ := vals1 r
  cases rx
  rcases h with ⟨hq, q⟩ | ⟨hq, q⟩
  · obtain ⟨its, r', pl, hz⟩ := I.list hq
    have hlen := r'.length
    refine call_tuple_list pl.isList (fun h' kp => ?_) (by simp only [List.size_toArray] <;> omega)
    have I1 : Inv X pins σ H { s with heap := h' } := I.kept (t' := s.toks) kp
    have I2 : Inv X pins σ (upd H h'.objs.size (.frz { cls := .type "tuple", data := .seq its.toArray } (.tup ys))) { s with heap := h'.push { cls := .type "tuple", data := .seq its.toArray } } :=
      I1.laid (t' := s.toks) (fun b o e => Heap.get?_push_of_some _ e) (Nat.le_refl _) (show ObjOk X.prog X.w _ _ _ (.frz { cls := .type "tuple", data := .seq its.toArray } (.tup ys)) from ⟨Heap.get?_push_size _ rfl, hz, its, r', IsTup.new _ _⟩)
    exact ⟨.ref h'.objs.size, _, I2, rfl, q _ _ (I1.hok.fresh (Nat.le_refl _)) rfl⟩
  · obtain ⟨its, r', pl, hz⟩ := I.tuple hq
    exact call_tuple_same pl ⟨.ref p, H, I, rfl, q⟩
def sMulN (K : PySem.W.Frag) : R2 := fun x y H Q => ∃ l k xs, x = .ref l ∧ y = .int k ∧ SqT K H l xs ∧ xs ≠ [] ∧ 2 ≤ k ∧ k ≤ 1000 ∧ xs.length ≤ 1000 ∧ ∀ p o, H p = none → o.dict = none → Q (.ref p) (upd H p (.frz o (.tup (List.replicate k.toNat xs).flatten)))
theorem op_sMulN {X : Cx} : OpR X (binaryOp .Mult) (sMulN X.K) := by
  intro pins s σ H x y v u Q I rx ry h
  obtain ⟨l, k, xs, rfl, rfl, hT, hne, h1, h2, hz, q⟩ := h
  cases rx
  obtain ⟨t, rfl⟩ := ry
  obtain ⟨its, r, ⟨⟨cls, dd, data, sl⟩, ho, hc, n, hd⟩, hs⟩ := I.tuple hT
  simp only at hc hd
  subst hc hd
  have hle : its.length = xs.length := r.length.symm
  have hn : its ≠ [] := fun e => hne (by
    rw [e] at hle
    exact List.eq_nil_of_length_eq_zero hle.symm)
  have hi : its.toArray.isEmpty = false := by
    cases its with
    | nil => exact absurd rfl hn
    | cons a b => rfl
  have hsz0 : its.toArray.size = xs.length := by rw [List.size_toArray, hle]
  have hm : ((its.toArray.size : Nat) : Int) * k ≤ 1000000 := by
    rw [hsz0]
    have a1 : ((xs.length : Nat) : Int) * k ≤ 1000 * k := Int.mul_le_mul_of_nonneg_right (by omega) (by omega)
    omega
  have flen : (List.replicate k.toNat its).flatten.length ≤ sizeLine := by
    rw [PyProof.Rows.lm_len_rep_flat, hle, sizeLine_eq]
    have a1 : k.toNat * xs.length ≤ 1000 * 1000 := Nat.mul_le_mul (by omega) hz
    omega
  have c0 : (decide (k < -(2 ^ 63)) || decide (k ≥ 2 ^ 63)) = false := by
    rw [decide_eq_false (by omega), decide_eq_false (by omega)] <;> rfl
  have c1 : (its.toArray.isEmpty || k == 1) = false := by
    rw [hi, Bool.false_or]
    exact beq_eq_false_iff_ne.mpr (by omega)
  have c2 : (decide (k ≤ 0) || its.toArray.isEmpty) = false := by
    rw [hi, Bool.or_false]
    exact decide_eq_false (by omega)
  have c4 : Builtin.Tuple.tupleTooMany (((its.toArray.size : Nat) : Int) * k) = false := by
    unfold Builtin.Tuple.tupleTooMany
    rw [sizeLine_eq]
    exact decide_eq_false (by omega)
  refine wpAny_binaryOp_repeat_ref (T := "tuple") (U := "int") (by decide) ⟨_, ho, rfl⟩ (fun s' => typeIs_int s' k t) noFill_tuple_mul F.fills_int_mul F.slot_int_rmul repeat_tuple F.slot_int_index.lookup
    (call_meets F.slot_int_rmul (typeIs_int s k t) F.entry_int_rmul (F.args_int_rmul_2 _ _) (int_rmul_tuple k t l its.toArray n dd sl)
      ⟨ho, rfl, ⟨_, ho, rfl⟩, call_meets F.slot_tuple_mul ⟨_, ho, rfl⟩ F.entry_tuple_mul (F.args_tuple_mul_2 _ _) (tuple_mulW l its.toArray n dd sl k t c0 c1 c2 (by omega) c4 (by rw [size_rep, List.size_toArray]; exact flen)) ⟨ho, ?_⟩⟩)
  rw [size_rep]
  refine ⟨.ref s.heap.objs.size, _, I.laid (t' := s.toks) (o := .frz { cls := .type "tuple", data := .seq (List.replicate k.toNat its).flatten.toArray } (.tup (List.replicate k.toNat xs).flatten)) (fun b ob q => Heap.get?_push_of_some _ q) (Nat.le_refl _) ?_, rfl, q _ _ (I.hok.fresh (Nat.le_refl _)) rfl⟩
  exact ⟨Heap.get?_push_size _ rfl, by rw [PyProof.Rows.lm_len_rep_flat, sizeLine_eq]; have a1 : k.toNat * xs.length ≤ 1000 * 1000 := Nat.mul_le_mul (by omega) hz; omega, _, r.rep k.toNat, IsTup.new _ _⟩
def sAddN (K : PySem.W.Frag) : R2 := fun x y H Q => ∃ a b xs ys, x = .ref a ∧ y = .ref b ∧ SqT K H a xs ∧ SqT K H b ys ∧ xs ≠ [] ∧ ys ≠ [] ∧ xs.length + ys.length ≤ sizeLine ∧ ∀ p o, H p = none → o.dict = none → Q (.ref p) (upd H p (.frz o (.tup (xs ++ ys))))
theorem op_sAddN {X : Cx} : OpR X (binaryOp .Add) (sAddN X.K) := by
  intro pins s σ H x y v u Q I rx ry h
  obtain ⟨a, b, xs, ys, rfl, rfl, ha, hb, hx, hy, hz, q⟩ := h
  cases rx
  cases ry
  obtain ⟨its, r1, p1, _⟩ := I.tuple ha
  obtain ⟨its2, r2, p2, _⟩ := I.tuple hb
  refine HT.cat_tup p1 p2 (fun z => hx (r1.nil_iff.mp z)) (fun z => absurd (r2.nil_iff.mp z) hy) (fun z => ?_) (by rw [← r1.length, ← r2.length]; exact hz)
  refine ⟨.ref s.heap.objs.size, _, I.laid (t' := s.toks) (o := .frz { cls := .type "tuple", data := .seq (its ++ its2).toArray } (.tup (xs ++ ys))) (fun b ob q => Heap.get?_push_of_some _ q) (Nat.le_refl _) ?_, rfl, q _ _ (I.hok.fresh (Nat.le_refl _)) rfl⟩
  exact ⟨Heap.get?_push_size _ rfl, by rw [List.length_append]; exact hz, _, r1.append r2, IsTup.new _ _⟩
section
variable {W : Wo} {cs : Cs} {sl : Sl} {st : List Sd} {Q : Sd → Cs → Prop} {H : Hp} {σ : L2.St} {ws : List V}
theorem new_ktp {vs : List V} {ts : List Nat} {p : Addr} {o : Obj} (R : Rep W H σ ws cs sl st) (e : vs = ts.map vN) (hl : ts.length ≤ 900000) (n : H p = none) (hd : o.dict = none) : Rep W (upd H p (.frz o (.tup vs))) σ (.ref p :: ws) cs sl (.d (.ktp ts) :: st) := by
  subst e
  obtain ⟨as, R⟩ := R
  have R2 := R.ex (Ex.new (o := .frz o (.tup (ts.map vN))) n)
  exact ⟨as, R2.one (.ktp upd_same hd (R.fresh n).1 hl)⟩
def KtK (P : List Nat → Prop) : Sd → Prop
  | .d (.ktp ts) => P ts
  | _ => False
theorem ktk {P : List Nat → Prop} {ts : List Nat} (h : P ts) : KtK P (.d (.ktp ts)) := h
theorem w_bmT {r : V → List V → Hp → VK → Prop} {to : TE} {t : TA} (q : wE W to cs sl st fun x cs1 => KtK (fun ts => wA W t cs1 sl (.d (.ktp ts) :: st) fun xs cs2 => wM W r (.d (.ktp ts)) xs cs2 sl st Q) x) : wE W (tBMT r to t) cs sl st Q := fun H σ ws R Q' k =>
  q H σ ws R _ fun x cs1 vx H1 h1 R1 => by
    cases x with
    | d x => cases x with
      | ktp ts =>
        obtain ⟨as, R1'⟩ := id R1
        obtain ⟨a, o, rfl, e1, e2, _⟩ := R1'.seqN
        refine ⟨⟨a, o, _, rfl, e1, e2⟩, ?_⟩
        exact (show wA W t cs1 sl _ _ from h1) H1 σ (.ref a :: ws) R1 _ fun xs cs2 vs H2 h2 l R2 => h2 H2 σ (.ref a) vs ws l R2 Q' k
      | _ => exact h1.elim
    | _ => exact h1.elim
theorem count_vn (ts : List Nat) (k : Nat) : (ts.map fun n : Nat => (n : Int)).count (k : Int) = ts.count k := by
  induction ts with
  | nil => rfl
  | cons t ts ih =>
    rw [List.map_cons, List.count_cons, List.count_cons, ih]
    congr 1
    by_cases h : t = k
    · subst h
      simp
    · have h2 : ¬ ((t : Int) = (k : Int)) := fun e => h (Int.ofNat.inj e)
      simp [h, h2]
theorem m_countN {ts : List Nat} {k : Nat} (q : Q (.d (dn (ts.count k))) cs) : wM W (rCntT W.K) (.d (.ktp ts)) [.d (dn k)] cs sl st Q := fun H σ vx vs ws l R Q' kk => by
  match vs, l, R with
  | [u], _, R =>
    have R : Rep W H σ (u :: vx :: ws) cs sl (.d (dn k) :: .d (.ktp ts) :: st) := R
    obtain rfl := R.int
    obtain ⟨as, R1⟩ := R.drop1
    obtain ⟨a, rfl, h1, _⟩ := R1.seqK
    refine ⟨a, ts.map fun n : Nat => (n : Int), k, rfl, rfl, by rw [List.map_map]; exact h1, ?_⟩
    rw [count_vn]
    exact kk _ _ _ _ q (Rep.push ⟨as, R1.drop1⟩ (scd_int _))
theorem o_tupleN {x : Sd} {ts : List Nat} (q : Q (.d (.ktp ts)) cs) (h : rdD cs x = some (.lst (ts.map dn))) : wC W (sTupleN W.K) [x] cs sl st Q := fun H σ vs ws l R Q' k => by
  match vs, l, R with
  | [v], _, R =>
    have R : Rep W H σ (v :: ws) cs sl (x :: st) := R
    obtain ⟨as, R⟩ := R
    obtain ⟨a, xs, rfl, h1, h2, h3, h4⟩ := R.rlA h
    rw [List.length_map] at h3
    exact ⟨a, xs, rfl, .inl ⟨.inl (.inl h1), fun p o n hd => k _ _ _ _ q (new_ktp ⟨as, R.drop1⟩ h4.nats h3 n hd)⟩⟩
theorem o_tupleK {ts : List Nat} (q : Q (.d (.ktp ts)) cs) : wC W (sTupleN W.K) [.d (.ktp ts)] cs sl st Q := fun H σ vs ws l R Q' k => by
  match vs, l, R with
  | [v], _, R =>
    have R : Rep W H σ (v :: ws) cs sl (.d (.ktp ts) :: st) := R
    obtain ⟨as, R1⟩ := id R
    obtain ⟨a, rfl, h1, _⟩ := R1.seqK
    exact ⟨a, _, rfl, .inr ⟨h1, k _ _ _ _ q R⟩⟩
/-- a tuple of numbers, known or not -/
def rdT : Sd → Option (List D)
  | .d (.tup ds) => some ds
  | .d (.ktp ts) => some (ts.map dn)
  | _ => none
theorem RepA.rt {as : List Addr} {v : V} {x : Sd} {ts : List Nat} (R : RepA W as H σ (v :: ws) cs sl (x :: st)) (h : rdT x = some (ts.map dn)) : ∃ a, v = .ref a ∧ SqT W.K H a (ts.map vN) ∧ ts.length ≤ 900000 := by
  cases x with
  | d x => cases x with
    | tup es =>
      cases h
      obtain ⟨a, xs, h1, h2, h3, h4, h5⟩ := R.seqT
      rw [h5.nats] at h2
      rw [List.length_map] at h4
      exact ⟨a, h1, h2, h4⟩
    | ktp us =>
      obtain ⟨a, h1, h2, h3, h4, h5⟩ := R.seqK
      have h : us.map dn = ts.map dn := Option.some.inj h
      rw [h] at h4 h5
      rw [h5.nats] at h2
      rw [List.length_map] at h4
      exact ⟨a, h1, h2, h4⟩
    | _ => cases h
  | _ => cases h
theorem o_mulN {x : Sd} {ts : List Nat} {i : Int} (h0 : ts ≠ []) (h2 : 2 ≤ i ∧ i ≤ 1000) (h3 : ts.length ≤ 800) (q : Q (.d (.ktp (List.replicate i.toNat ts).flatten)) cs) (h : rdT x = some (ts.map dn) := by rfl) : wO W (sMulN W.K) x (.d (.int i)) cs sl st Q := fun H σ vx vy ws R Q' k => by
  obtain rfl := R.int
  obtain ⟨as, R⟩ := R.drop1
  obtain ⟨a, rfl, h1, h4⟩ := R.rt h
  refine ⟨a, i, _, rfl, rfl, h1, fun e => h0 (List.map_eq_nil_iff.mp e), h2.1, h2.2, by rw [List.length_map]; omega, fun p o n hd => k _ _ _ _ q (new_ktp ⟨as, R.drop1⟩ ?_ ?_ n hd)⟩
  · rw [List.map_flatten, List.map_replicate]
  · rw [flat_len]
    have : i.toNat * ts.length ≤ 1000 * 800 := Nat.mul_le_mul (by omega) h3
    omega
theorem o_addN {x y : Sd} {ts us : List Nat} (h1 : ts ≠ []) (h2 : us ≠ []) (h3 : ts.length + us.length ≤ 900000) (q : Q (.d (.ktp (ts ++ us))) cs) (hx : rdT x = some (ts.map dn) := by rfl) (hy : rdT y = some (us.map dn) := by rfl) : wO W (sAddN W.K) x y cs sl st Q := fun H σ vx vy ws R Q' k => by
  obtain ⟨as, R⟩ := R
  obtain ⟨b, rfl, g1, _⟩ := R.rt hy
  obtain ⟨a, rfl, g2, _⟩ := R.drop1.rt hx
  refine ⟨a, b, _, _, rfl, rfl, g2, g1, fun e => h1 (List.map_eq_nil_iff.mp e), fun e => h2 (List.map_eq_nil_iff.mp e), sz_of (by rw [List.length_map, List.length_map]; omega), fun p o n hd => k _ _ _ _ q (new_ktp ⟨as, R.drop1.drop1⟩ ?_ ?_ n hd)⟩
  · rw [List.map_append]
  · rw [List.length_append]
    exact h3
end
/-- name = [..], the name read by an inner scope -/
theorem sw_false {elt : Expr} {gs : List Comprehension} {scope : Scope} {pos py : Pos} {y : Str} {l : Nat} {env : Env} (hy : env.scope.names.lookup y = some .cell) : swapsWith (.ListComp elt gs scope pos) (some (.Name y py)) l env = pure false := by
  have ky : env.kindOf y = some .cell := hy
  have e : (some NameKind.cell == some NameKind.local) = false := by decide
  unfold swapsWith
  simp only [ky, e, Bool.and_false, Bool.false_and]
end R

/-! # DL: a display of ints by ints, looked up at once -/
namespace R
open PySem PySem.Spec PyProof.Rows L2 L2H LamX
def dkV (kvs : List (Int × Int)) : List (Key × V) := kvs.map fun kv => (.inl kv.1, .int kv.2)
def dkD (kvs : List (Int × Int)) : List (Key × D) := kvs.map fun kv => (.inl kv.1, .int kv.2)
def dkT (kvs : List (Int × Int)) : List (TE × TE) := kvs.map fun kv => (tC (.int kv.1), tC (.int kv.2))
def tDLit (kvs : List (Int × Int)) : TE := tDisp (dkT kvs)
theorem pe_dlit {X : Cx} {pos : Pos} {keys : List (Option Expr)} {values : List Expr} (kvs : List (Int × Int)) (h : PPs X pos keys values (dkT kvs)) (hall : keys.all (·.isSome) = true := by rfl) (hl : keys.length = values.length := by rfl) (h0 : keys ≠ [] := by exact List.cons_ne_nil _ _)
    (h15 : keys.length ≤ 15 := by decide) : PE X (.Dict keys values pos) (tDLit kvs) := pe_disp h hall hl h0 h15
theorem dkt_run {σ : L2.St} : ∀ {kvs : List (Int × Int)} {H : Hp} {Q : List (V × V) → Hp → Prop}, Q ((dkV kvs).map fun kv => (kV kv.1, kv.2)) H → tPairs (dkT kvs) σ H Q
  | [], _, _, q => q
  | (k, v) :: kvs, H, Q, q => dkt_run (kvs := kvs) (H := H) (Q := fun ps H3 => Q ((.int k, .int v) :: ps) H3) q
theorem dkv_ok {K : PySem.W.Frag} {C : Addr} {av : Addr → Prop} {H : Hp} : ∀ kvs : List (Int × Int), DvK K C av H (dkV kvs) (dkD kvs)
  | [] => trivial
  | (_, v) :: kvs => ⟨rfl, .int v, dkv_ok kvs⟩
theorem dkv_eq {K : PySem.W.Frag} {C : Addr} {av : Addr → Prop} {H : Hp} : ∀ {kvs : List (Int × Int)} {vs : List (Key × V)}, DvK K C av H vs (dkD kvs) → vs = dkV kvs
  | [], [], _ => rfl
  | [], _ :: _, h => h.elim
  | _ :: _, [], h => h.elim
  | (k, v) :: kvs, (j, u) :: vs, h => by
    obtain ⟨h1, h2, h3⟩ := h
    have h1 : j = .inl k := h1
    have h2 : Dv K C av H u (.int v) := h2
    subst h1
    cases h2
    rw [dkv_eq (kvs := kvs) (vs := vs) h3]
    rfl
theorem dkv_at {n m : Int} : ∀ {kvs : List (Int × Int)}, kvs.lookup n = some m → valV (dkV kvs) (.inl n) = some (.int m)
  | [], h => by cases h
  | (k, v) :: kvs, h => by
    rw [List.lookup_cons] at h
    by_cases e : n = k
    · subst e
      simp only [beq_self_eq_true] at h
      cases h
      exact valV_pos rfl
    · have e2 : (n == k) = false := by simpa using e
      rw [e2] at h
      have ih := dkv_at (kvs := kvs) h
      unfold valV at ih ⊢
      have e3 : dkV ((k, v) :: kvs) = (Sum.inl k, V.int v) :: dkV kvs := rfl
      rw [e3, List.find?_cons]
      have e4 : decide ((Sum.inl k : Key) = Sum.inl n) = false := decide_eq_false fun z => e (Sum.inl.inj z).symm
      simp only [e4]
      exact ih
section
variable {W : Wo} {cs : Cs} {sl : Sl} {st : List Sd} {Q : Sd → Cs → Prop}
def DixK (kvs : List (Int × Int)) (cs : Cs) (Q : Sd → Cs → Prop) (x : Sd) (cs3 : Cs) : Prop := ∃ n m : Int, x = .d (.int n) ∧ cs3 = cs ++ [some (.dk (dkD kvs))] ∧ kvs.lookup n = some m ∧ Q (.d (.int m)) cs
theorem w_dix {kvs : List (Int × Int)} {te : TE} (hm : mergeK [] (dkV kvs) = dkV kvs) (hl : (dkV kvs).length ≤ 15) (q : wE W te (cs ++ [some (.dk (dkD kvs))]) sl (.c cs.length :: st) fun x cs3 => DixK kvs cs Q x cs3) : wE W (tDGet (tDLit kvs) te) cs sl st Q := fun H σ ws R Q' k => by
  intro p hp
  refine dkt_run ⟨upd_same, dkV kvs, rfl, hl, ?_⟩
  have eu : upd (upd H p (.dK [])) p (.dK (mergeK [] (dkV kvs))) = upd H p (.dK (dkV kvs)) := by
    rw [hm]
    funext b
    by_cases hb : b = p
    · subst hb
      rw [upd_same, upd_same]
    · rw [upd_ne hb, upd_ne hb, upd_ne hb]
  rw [eu]
  have bl := R.below
  obtain ⟨as, R⟩ := R
  have Rg := R.grow hp (o := .dK (dkV kvs)) (c := .dk (dkD kvs)) (dkv_ok kvs)
  have hlast : (as ++ [p])[cs.length]? = some p := by rw [← R.len]; simp
  refine q _ σ (.ref p :: ws) ⟨_, Rg.st' ⟨⟨p, hlast, rfl⟩, Rg.st⟩⟩ _ fun x cs3 y H2 h R2 => ?_
  obtain ⟨n, m, rfl, rfl, hlk, hq⟩ := h
  obtain rfl := R2.int
  obtain ⟨as2, R2⟩ := R2
  obtain ⟨a, ha, e⟩ := R2.st.2.1
  cases e
  obtain ⟨o, ho, hc⟩ := R2.cells cs.length p (.dk (dkD kvs)) ha (by simp)
  cases o with
  | dK vs =>
    obtain rfl := dkv_eq hc
    refine ⟨p, .int m, rfl, ?_, k _ _ _ _ hq ?_⟩
    · rw [← dkv_at hlk]
      exact DGet.k (k := Sum.inl n) ho
    · have hlen : as2.length = cs.length + 1 := by rw [R2.len]; simp
      obtain ⟨as', p', rfl⟩ : ∃ as' p', as2 = as' ++ [p'] := by
        refine ⟨as2.dropLast, as2.getLast (by intro e; rw [e] at hlen; cases hlen), (List.dropLast_concat_getLast _).symm⟩
      have h3 : as'.length = cs.length := by simpa using hlen
      have R3 := (R2.st' R2.st.2.2).dropLast h3 bl.1 bl.2
      exact Rep.push ⟨as', R3⟩ (scd_int m)
  | _ => exact hc.elim
end
end R

/-! # LC2: a comprehension with two fors -/
namespace R
open PySem PySem.Spec PyProof.Rows L2 L2H LamX
def WpK (sl : Sl) (vs : List Nat) (P : Sl → Prop) : Prop := P (wipeS sl vs)
theorem wpk {sl : Sl} {vs : List Nat} {P : Sl → Prop} {slw : Sl} (e : wipeS sl vs = slw) (q : P slw) : WpK sl vs P := by
  unfold WpK
  rw [e]
  exact q
def In2 (W : Wo) (g1 : TG) (tt1 : TT) (te : TE) (vs1 : List Nat) (cs : Cs) (sl2 : Sl) (ds : List D) (items1 : List D) (okc1 : Cs → Prop) (Z : List D → Prop) : Prop := WpK sl2 vs1 fun slw1 =>
  ∃ Jv : Nat → List D → Prop, Jv 0 ds ∧ (∀ ds', okc1 (cs ++ [some (.lst ds')])) ∧
    (∀ j y ds' st3, items1[j]? = some y → Jv j ds' → ds'.length < 900000 ∧ LcT W g1 tt1 te y (cs ++ [some (.lst ds')]) slw1 st3 (fun d => Jv (j + 1) (ds' ++ [d])) (Jv (j + 1) ds')) ∧ ∀ ds', Jv items1.length ds' → Z ds'
def LcT2 (W : Wo) (g : TG) (tt : TT) (wi1 : TI) (g1 : TG) (tt1 : TT) (te : TE) (vs1 : List Nat) (x : D) (cs : Cs) (ds : List D) (sl : Sl) (st : List Sd) (Z : List D → Prop) : Prop :=
  wG W g (.d x) (cs ++ [some (.lst ds)]) sl st fun cs2 sl2 => EqK (cs ++ [some (.lst ds)]) cs2 (wT W tt (cs ++ [some (.lst ds)]) sl2 st fun b cs3 => EqK (cs ++ [some (.lst ds)]) cs3
    (if b = true then wI W wi1 (cs ++ [some (.lst ds)]) sl2 st fun items1 okc1 cs4 => EqK (cs ++ [some (.lst ds)]) cs4 (In2 W g1 tt1 te vs1 cs sl2 ds items1 okc1 Z) else Z ds))
def Lc2K (W : Wo) (g : TG) (tt : TT) (wi1 : TI) (g1 : TG) (tt1 : TT) (te : TE) (vs1 : List Nat) (items : List D) (okc : Cs → Prop) (cs : Cs) (sl : Sl) (Q : List D → Prop) : Prop := ∃ Iv : Nat → List D → Prop, Iv 0 [] ∧ (∀ ds, okc (cs ++ [some (.lst ds)])) ∧
  (∀ i x ds st2, items[i]? = some x → Iv i ds → LcT2 W g tt wi1 g1 tt1 te vs1 x cs ds sl st2 (Iv (i + 1))) ∧ ∀ ds, Iv items.length ds → Q ds
section
variable {W : Wo} {cs : Cs} {sl : Sl} {st : List Sd}
theorem w_lc2 {wi : TI} {g : TG} {tt : TT} {wi1 : TI} {g1 : TG} {tt1 : TT} {te : TE} {vs vs1 : List Nat} {Q : List D → Cs → Prop} {slw : Sl} (e : wipeS sl vs = slw) (q : wI W wi cs sl st fun items okc cs1 => Lc2K W g tt wi1 g1 tt1 te vs1 items okc cs1 slw fun ds => Q ds cs1) (gt : GT g vs) (gt1 : GT g1 vs1) : wN W (tLc2 wi g tt wi1 g1 tt1 te vs vs1) cs sl st Q := fun H σ ws R Q' k => q H σ ws R _ fun items okc cs1 J H1 us sds ⟨Iv, h0, ho, hs, he⟩ hok hl hvs R1 dit => by
  subst e
  intro D hD
  have bl := R1.below
  have shape : ∃ P, SlOk P σ sl := by
    obtain ⟨as, R1⟩ := R1
    exact ⟨_, R1.sl⟩
  obtain ⟨P0, shape⟩ := shape
  have start : Rep W (upd H1 D (.lst [])) (wipe σ vs) (us ++ (.ref D :: (slW σ sl ++ ws))) (cs1 ++ [some (.lst [])]) (wipeS sl vs) (sds ++ (.c cs1.length :: (slS sl ++ st))) := by
    have R2 : Rep W H1 σ (us ++ (slW σ sl ++ ws)) cs1 sl (sds ++ (slS sl ++ st)) := by
      obtain ⟨as, R1⟩ := R1
      have hsp := StOk.split hvs R1.st
      exact ⟨as, R1.st' (StOk.app hsp.1 (StOk.app R1.sl.out hsp.2))⟩
    obtain ⟨as, R3⟩ := (new_list (vs := []) (ds := []) R2 rfl (Nat.zero_le _) hD).1
    have R4 := R3.sl' (R3.sl.wipe vs)
    refine ⟨as, R4.st' ?_⟩
    have := StOk.split hvs R4.st.2
    exact StOk.app this.1 ⟨R4.st.1, this.2⟩
  have slots : ∀ {H : Hp} {σ2 : L2.St} {sl2 : Sl} {x : List _root_.R.D} {as : List Addr}, RepA W as H σ2 (us ++ (.ref D :: (slW σ sl ++ ws))) (cs1 ++ [some (.lst x)]) sl2 (sds ++ (.c cs1.length :: (slS sl ++ st))) → SlOk (Rv W as (Av W as (cs1 ++ [some (.lst x)])) H) σ sl := fun {H σ2 sl2 x as} R => by
    have h1 := (StOk.split hvs R.st).2.2
    have l : (slW σ sl).length = (slS sl).length := shape.out.len
    exact shape.back (StOk.split l h1).1
  refine ⟨fun i m H => m = items.length - i ∧ i ≤ items.length ∧ ∃ ds, Iv i ds ∧ Rep W H (wipe σ vs) (us ++ (.ref D :: (slW σ sl ++ ws))) (cs1 ++ [some (.lst ds)]) (wipeS sl vs) (sds ++ (.c cs1.length :: (slS sl ++ st))), ⟨_, rfl, Nat.zero_le _, [], h0, start⟩, ?_⟩
  rintro i m H2 ⟨rfl, hi, ds, hI, R2⟩
  by_cases hlt : i < items.length
  case neg =>
    obtain rfl : i = items.length := by omega
    refine .inl ⟨dit.stops H2 _ _ _ _ _ R2 (ho ds), ?_⟩
    have R3 : Rep W H2 σ (.ref D :: ws) (cs1 ++ [some (.lst ds)]) sl (.c cs1.length :: st) := by
      obtain ⟨as, R2⟩ := R2
      have h1 := (StOk.split hvs R2.st).2
      have l : (slW σ sl).length = (slS sl).length := shape.out.len
      exact ⟨as, (R2.sl' (slots R2)).st' ⟨h1.1, (StOk.split l h1.2).2⟩⟩
    exact k ds cs1 (.ref D) H2 (he ds hI) R3 (R3.fin_list bl.1 (StOk.split hvs bl.2).2)
  refine .inr ⟨dit.goes i H2 _ _ _ _ _ R2 (ho ds) hlt, fun H => ∃ ds, Iv (i + 1) ds ∧ Rep W H (wipe σ vs) (us ++ (.ref D :: (slW σ sl ++ ws))) (cs1 ++ [some (.lst ds)]) (wipeS sl vs) (sds ++ (.c cs1.length :: (slS sl ++ st))), fun H' p' => ⟨_, by omega, rfl, by omega, p'⟩, fun x H3 hy => ?_⟩
  obtain ⟨d, hd, R3⟩ := dit.yld i H2 x H3 _ _ _ _ _ R2 (ho ds) hlt hy
  have hg := hs i d ds (sds ++ (.c cs1.length :: (slS sl ++ st))) hd hI H3 (wipe σ vs) x _ R3
  refine gt x (wipe σ vs) H3 _ _ (fun σ2 H4 q4 w4 => ⟨w4.trans (wipe_idem σ vs), q4⟩) (hg _ fun cs4 sl4 σ4 H4 h4 R4 => ?_)
  obtain ⟨rfl, h4⟩ := h4
  refine h4 H4 σ4 _ R4 _ fun b cs5 H5 h5 R5 => ?_
  obtain ⟨rfl, h5⟩ := h5
  cases b with
  | false =>
    have h5 : Iv (i + 1) ds := h5
    refine iteF ⟨ds, h5, ?_⟩
    obtain ⟨as, R5⟩ := R5
    exact ⟨as, R5.sl' ((slots R5).wipe vs)⟩
  | true =>
    have h5 : wI W wi1 (cs1 ++ [some (.lst ds)]) sl4 _ _ := h5
    refine iteT (h5 H5 σ4 _ R5 _ fun items1 okc1 cs6 J1 H6 us1 sds1 h6 ok1 hl1 hvs1 R6 dit1 => ?_)
    obtain ⟨rfl, Jv, j0, jo, js, je⟩ := h6
    have shape4 : ∃ P, SlOk P σ4 sl4 := by
      obtain ⟨as, R6⟩ := R6
      exact ⟨_, R6.sl⟩
    obtain ⟨P4, shape4⟩ := shape4
    have l4 : (slW σ4 sl4).length = (slS sl4).length := shape4.out.len
    have start1 : Rep W H6 (wipe σ4 vs1) (us1 ++ (slW σ4 sl4 ++ (us ++ (.ref D :: (slW σ sl ++ ws))))) (cs1 ++ [some (.lst ds)]) (wipeS sl4 vs1) (sds1 ++ (slS sl4 ++ (sds ++ (.c cs1.length :: (slS sl ++ st))))) := by
      obtain ⟨as, R6⟩ := R6
      have hsp := StOk.split hvs1 R6.st
      have R7 := R6.st' (StOk.app hsp.1 (StOk.app R6.sl.out hsp.2))
      exact ⟨as, R7.sl' (R6.sl.wipe vs1)⟩
    have slots4 : ∀ {H : Hp} {σ2 : L2.St} {sl2 : Sl} {x : List _root_.R.D} {as : List Addr}, RepA W as H σ2 (us1 ++ (slW σ4 sl4 ++ (us ++ (.ref D :: (slW σ sl ++ ws))))) (cs1 ++ [some (.lst x)]) sl2 (sds1 ++ (slS sl4 ++ (sds ++ (.c cs1.length :: (slS sl ++ st))))) → SlOk (Rv W as (Av W as (cs1 ++ [some (.lst x)])) H) σ4 sl4 := fun {H σ2 sl2 x as} R => by
      have h1 := (StOk.split hvs1 R.st).2
      exact shape4.back (StOk.split l4 h1).1
    refine ⟨fun j k H => k = items1.length - j ∧ j ≤ items1.length ∧ ∃ ds', Jv j ds' ∧ Rep W H (wipe σ4 vs1) (us1 ++ (slW σ4 sl4 ++ (us ++ (.ref D :: (slW σ sl ++ ws))))) (cs1 ++ [some (.lst ds')]) (wipeS sl4 vs1) (sds1 ++ (slS sl4 ++ (sds ++ (.c cs1.length :: (slS sl ++ st))))), ⟨_, rfl, Nat.zero_le _, ds, j0, start1⟩, ?_⟩
    rintro j k2 H7 ⟨rfl, hj, ds', hJ, R7⟩
    by_cases hlt1 : j < items1.length
    case neg =>
      obtain rfl : j = items1.length := by omega
      refine .inl ⟨dit1.stops H7 _ _ _ _ _ R7 (jo ds'), ds', je ds' hJ, ?_⟩
      obtain ⟨as, R7⟩ := R7
      have R8 := R7.st' (StOk.split l4 (StOk.split hvs1 R7.st).2).2
      exact ⟨as, R8.sl' ((slots R8).wipe vs)⟩
    refine .inr ⟨dit1.goes j H7 _ _ _ _ _ R7 (jo ds') hlt1, fun H => ∃ ds', Jv (j + 1) ds' ∧ Rep W H (wipe σ4 vs1) (us1 ++ (slW σ4 sl4 ++ (us ++ (.ref D :: (slW σ sl ++ ws))))) (cs1 ++ [some (.lst ds')]) (wipeS sl4 vs1) (sds1 ++ (slS sl4 ++ (sds ++ (.c cs1.length :: (slS sl ++ st))))), fun H' p' => ⟨_, by omega, rfl, by omega, p'⟩, fun x1 H8 hy1 => ?_⟩
    obtain ⟨d1, hd1, R8⟩ := dit1.yld j H7 x1 H8 _ _ _ _ _ R7 (jo ds') hlt1 hy1
    obtain ⟨hlen, hg1⟩ := js j d1 ds' (sds1 ++ (slS sl4 ++ (sds ++ (.c cs1.length :: (slS sl ++ st))))) hd1 hJ
    have hg1 := hg1 H8 (wipe σ4 vs1) x1 _ R8
    refine gt1 x1 (wipe σ4 vs1) H8 _ _ (fun σ5 H9 q9 w9 => ⟨w9.trans (wipe_idem σ4 vs1), q9⟩) (hg1 _ fun cs9 sl9 σ9 H9 h9 R9 => ?_)
    obtain ⟨rfl, h9⟩ := h9
    refine h9 H9 σ9 _ R9 _ fun b cs10 H10 h10 R10 => ?_
    obtain ⟨rfl, h10⟩ := h10
    cases b with
    | false =>
      have h10 : Jv (j + 1) ds' := h10
      refine iteF ⟨ds', h10, ?_⟩
      obtain ⟨as, R10⟩ := R10
      exact ⟨as, R10.sl' ((slots4 R10).wipe vs1)⟩
    | true =>
      have h10 : wE W te (cs1 ++ [some (.lst ds')]) sl9 _ _ := h10
      refine iteT (h10 H10 σ9 _ R10 _ fun sd cs11 y H11 h11 R11 => ?_)
      obtain ⟨rfl, h11⟩ := h11
      obtain ⟨dy, rfl, h11⟩ := datk_of h11
      obtain ⟨as, R11⟩ := R11
      obtain ⟨a, ha, e⟩ := (StOk.split hvs (StOk.split l4 (StOk.split hvs1 R11.st.2).2).2).2.1
      cases e
      have hx : (cs1 ++ [some (Cell.lst ds')])[cs1.length]? = some (some (.lst ds')) := by simp
      obtain ⟨o, hD6, hc⟩ := R11.cells _ _ _ ha hx
      cases o with
      | lst acc =>
        have hal := hc.2.len
        refine ⟨acc, hD6, sz_lt (by omega), ds' ++ [dy], h11, ?_⟩
        have R12 := R11.setc (c := .lst (ds' ++ [dy])) (o := .lst (acc ++ [y])) ha hx ⟨by rw [List.length_append, List.length_singleton]; omega, hc.2.app (.cons R11.st.1 .nil)⟩
        have e1 : (cs1 ++ [some (Cell.lst ds')]).set cs1.length (some (.lst (ds' ++ [dy]))) = cs1 ++ [some (.lst (ds' ++ [dy]))] := by simp
        rw [e1] at R12
        have R13 := R12.drop1
        exact ⟨as, R13.sl' ((slots4 R13).wipe vs1)⟩
      | _ => exact hc.elim
theorem w_newLc2 {Q : Sd → Cs → Prop} {wi : TI} {g : TG} {tt : TT} {wi1 : TI} {g1 : TG} {tt1 : TT} {te : TE} {vs vs1 : List Nat} (q : wN W (tLc2 wi g tt wi1 g1 tt1 te vs vs1) cs sl st fun ds cs1 => Q (.d (.lst ds)) cs1) : wE W (tLc2 wi g tt wi1 g1 tt1 te vs vs1) cs sl st Q := w_new q
variable {α : Type} {β : Type} {F : α → D} {G : β → D}
/-- each item gives a list of data -/
theorem lck2_map {g : TG} {tt : TT} {wi1 : TI} {g1 : TG} {tt1 : TT} {te : TE} {vs1 : List Nat} {xs : List α} {okc : Cs → Prop} {Q : List D → Prop} (f : α → List D) (hs : ∀ x ds st2 (j : Nat), xs[j]? = some x → ds = (xs.take j).flatMap f → LcT2 W g tt wi1 g1 tt1 te vs1 (F x) cs ds sl st2 (fun d => d = ds ++ f x)) (q : Q (xs.flatMap f))
    (ho : ∀ ds, okc (cs ++ [some (.lst ds)]) := by exact fun _ => trivial) : Lc2K W g tt wi1 g1 tt1 te vs1 (xs.map F) okc cs sl Q := by
  refine ⟨fun i ds => ds = (xs.take i).flatMap f, rfl, ho, fun i x ds st2 hx hI => ?_, fun ds hI => ?_⟩
  · rw [List.getElem?_map] at hx
    obtain ⟨y, hy, rfl⟩ := Option.map_eq_some_iff.mp hx
    have h := hs y ds st2 i hy hI
    have e : (fun d => d = (xs.take (i + 1)).flatMap f) = fun d => d = ds ++ f y := by
      funext d
      rw [List.take_add_one, hy, List.flatMap_append, ← hI]
      simp
    refine (?_ : LcT2 W g tt wi1 g1 tt1 te vs1 (F y) cs ds sl st2 (fun d => d = (xs.take (i + 1)).flatMap f))
    rw [e]
    exact h
  · have hI : ds = (xs.take (xs.map F).length).flatMap f := hI
    rw [hI, List.length_map, List.take_length]
    exact q
theorem in2_map {g1 : TG} {tt1 : TT} {te : TE} {vs1 : List Nat} {sl2 slw : Sl} {ds : List D} {xs : List β} {okc1 : Cs → Prop} {Z : List D → Prop} (f : β → D) (e : wipeS sl2 vs1 = slw) (hl : ds.length + xs.length ≤ 900000) (hs : ∀ y ds' st3, y ∈ xs → LcT W g1 tt1 te (G y) (cs ++ [some (.lst ds')]) slw st3 (fun d => d = f y) False) (q : Z (ds ++ xs.map f))
    (ho : ∀ ds, okc1 (cs ++ [some (.lst ds)]) := by exact fun _ => trivial) : In2 W g1 tt1 te vs1 cs sl2 ds (xs.map G) okc1 Z := by
  refine wpk e ⟨fun j ds' => ds' = ds ++ (xs.take j).map f, by simp, ho, fun j x ds' st3 hx hI => ?_, fun ds' hI => ?_⟩
  · rw [List.getElem?_map] at hx
    obtain ⟨y, hy, rfl⟩ := Option.map_eq_some_iff.mp hx
    have hj := (List.getElem?_eq_some_iff.mp hy).1
    refine ⟨?_, (hs y ds' st3 (List.mem_of_getElem? hy)).imp (fun d e => ?_) False.elim⟩
    · rw [hI, List.length_append, List.length_map, List.length_take]
      omega
    · show ds' ++ [d] = ds ++ (xs.take (j + 1)).map f
      rw [e, hI, List.take_add_one, hy, List.map_append, List.append_assoc]
      rfl
  · have hI : ds' = ds ++ (xs.take (xs.map G).length).map f := hI
    rw [hI, List.length_map, List.take_length]
    exact q
end
theorem cutD_take (ds : List D) (k : Nat) : cutD ds none (some (k : Int)) = ds.take k := by
  unfold cutD
  rw [HT.sIx_none, HT.sIx_nat, List.drop_zero, Nat.sub_zero]
  rcases Nat.le_total k ds.length with h | h
  · rw [Nat.min_eq_left h]
  · rw [Nat.min_eq_right h, List.take_length, List.take_of_length_le h]
theorem cutD_drop (ds : List D) (k : Nat) : cutD ds (some (k : Int)) none = ds.drop k := by
  unfold cutD
  rw [HT.sIx_none, HT.sIx_nat]
  rcases Nat.le_total k ds.length with h | h
  · rw [Nat.min_eq_left h, List.take_of_length_le (by rw [List.length_drop]; omega)]
  · rw [Nat.min_eq_right h, List.drop_of_length_le (Nat.le_refl _), List.drop_of_length_le h, List.take_nil]
end R

/-! # SC: sets of keys: how many -/
namespace R
open PySem PySem.Spec PyProof.Rows L2 L2H LamX PpSet
/-- {elt for target in iter if ..}, elt a number or a text: D the new set -/
def tScK (P : Program) (w : World) (wi : TI) (g : TG) (tt : TT) (te : TE) (vs : List Nat) : TE := fun σ H Q => wi σ H fun J H1 => ∀ D, H1 D = none → ∃ W : Nat → Nat → Hp → Prop, (∃ m, W 0 m (upd H1 D (L2.SetK P w D (fun _ => false) 0))) ∧ ∀ i m H, W i m H →
  (J.stop i H ∧ Q (.ref D) H) ∨ (J.go i H ∧ ∃ Nx : Hp → Prop, (∀ H', Nx H' → ∃ m', m' < m ∧ W (i + 1) m' H') ∧ ∀ x H', J.yld i H x H' → g x (wipe σ vs) H' fun σ2 H2 => wipe σ2 vs = wipe σ vs ∧ tt σ2 H2 fun b H3 =>
    if b = true then te σ2 H3 fun y H4 => ∃ (k : Key) (S : Key → Bool) (n : Nat), y = kV k ∧ H4 D = some (L2.SetK P w D S n) ∧ n + 1 < scanBound ∧ Nx (upd H4 D (L2.SetK P w D (fun j => S j || decide (j = k)) (if S k = true then n else n + 1))) else Nx H3)
section
variable {X : Cx}
theorem addK_ok {pins : List (Addr × Obj)} {σ : L2.St} {H : Hp} {s : Shared} {E : Value → Shared → Prop} {D : Addr} {S : Key → Bool} {n : Nat} {k : Key} {u : Value} {Q : Value → Shared → Prop} (I : Inv X pins σ H s) (ru : RelV (kV k) u) (hD : H D = some (L2.SetK X.prog X.w D S n)) (room : n + 1 < scanBound)
    (h : ∀ s', Inv X pins σ (upd H D (L2.SetK X.prog X.w D (fun j => S j || decide (j = k)) (if S k = true then n else n + 1))) s' → Q .none s') : wpAny (model X.prog X.w) X.A (call (.builtin "set.add") [.ref D, u]) Q E s := by
  refine call_set_add (kV_is ru) (key_scan ru) (setK_get I hD) room fun h' sb new => ?_
  have he : ∃ v, h'.get? D = some v := by
    have ⟨o, _, _, _, ho, _⟩ := new
    exact ⟨o, ho⟩
  exact h _ (I.write (e := D) (t' := s.toks + 1) (by rw [hD]; trivial) (.inl rfl) (fun b v hb hu => (sb.2 b hb).trans hu) he (setK_new new))
theorem pe_scK {elt tg iter : Expr} {ifs : List Expr} {scope : Scope} {own : List (PySem.Str × Nat)} {pos : Pos} {wi : TI} {g : TG} {tt : TT} {te : TE} (hc : X.calm = true) (hN : X.N.Nodup) (hi : PI X tg iter wi) (ok : BlkOk X.N X.env.scope scope own)
    (hg : ∀ (s : Shared) (H : Hp) (C : Addr) (cl : List (PySem.Str × Addr)) (fp : List Addr), PG (X.blk s H scope (compEnvC scope cl C X.env) fp) tg g) (ht : ∀ (s : Shared) (H : Hp) (C : Addr) (cl : List (PySem.Str × Addr)) (fp : List Addr), PTs (X.blk s H scope (compEnvC scope cl C X.env) fp) ifs tt)
    (he : ∀ (s : Shared) (H : Hp) (C : Addr) (cl : List (PySem.Str × Addr)) (fp : List Addr), PE (X.blk s H scope (compEnvC scope cl C X.env) fp) elt te) (hs : ∀ x, foldedSetIterable iter X.env x = pure x := by intro _; rfl) :
    PE X (.SetComp elt [⟨tg, iter, ifs, 0⟩] scope pos) (tScK X.prog X.w wi g tt te (own.map (·.2))) := by
  refine ⟨fun pins s σ H Q I h => ?_⟩
  rw [eval_SetComp]
  have fr : ∀ y ∈ scope.names, y.2 = .free → ∃ c, X.env.cells.lookup y.1 = some c := fun y hy e => (ok.free y hy e).elim (fun k => I.ok.has _ (.inl k)) fun k => I.ok.has _ (.inr k)
  refine wpAny_comprehension_free (use := none) rfl hs (closure_ok fr) ok.kind (fun y hy e => by rw [ok.uniq y hy, e]) (thn (hi.run pins s σ H _ I h) fun xv s1 hx => thn hx fun itv s2 h2 => ?_)
  obtain ⟨it, fp, tn, J, H2, rfl, I2, T, st2, f2, q⟩ := h2
  refine newSet_ok (newEnv_comp ?_)
  obtain ⟨D, hD⟩ : ∃ D, s2.heap.objs.size = D := ⟨_, rfl⟩
  rw [hD]
  have hDn : H2 D = none := I2.hok.fresh (Nat.le_of_eq hD)
  obtain ⟨W, ⟨m0, w0⟩, turn⟩ := q D hDn
  obtain ⟨so, hso⟩ : ∃ so : Obj, so = { cls := .type "set", dict := none, data := .set #[] 0 (.fresh 0 0 (!X.w.params.followText "set-order")) } := ⟨_, rfl⟩
  rw [← hso]
  obtain ⟨s3, hs3⟩ : ∃ s3 : Shared, ({ s2 with heap := s2.heap.push so } : Shared) = s3 := ⟨_, rfl⟩
  have new : (s2.heap.push so).SetOf (mixKind X.prog X.w) D (fun _ => false) 0 := by
    rw [hso, ← hD]
    exact ⟨_, #[], 0, _, Heap.get?_push_size _ rfl, ⟨rfl, rfl, rfl⟩, rfl, (fun e he => by simp at he), (fun k => by simp), (by decide), (by rfl), rfl⟩
  have I3 : Inv X pins σ (upd H2 D (L2.SetK X.prog X.w D (fun _ => false) 0)) s3 := by
    rw [← hs3]
    exact I2.laid (t' := s2.toks) (fun b o e => Heap.get?_push_of_some _ e) (Nat.le_of_eq hD) (setK_new new)
  have h3 : s3.heap = s2.heap.push so := by rw [← hs3]
  have f3 : ∀ b ∈ fp, FpOk X pins (upd H2 D (L2.SetK X.prog X.w D (fun _ => false) 0)) b ∧ b < s3.heap.objs.size := fun b hb => by
    obtain ⟨o, e, _⟩ := T.obj _ _ st2 b hb
    have hlt := Heap.lt_size e
    refine ⟨⟨?_, (f2 b hb).2⟩, by rw [h3, Heap.size_push]; exact Nat.lt_succ_of_lt hlt⟩
    rw [upd_ne (by rw [← hD]; exact Nat.ne_of_lt hlt)]
    exact (f2 b hb).1
  have st3 : tn 0 s3.heap := T.keep _ _ _ st2 fun b _ o e => by rw [h3]; exact Heap.get?_push_of_some _ e
  have I4 := block_start I3 ok hN f3
  have pg := hg s3 (upd H2 D (L2.SetK X.prog X.w D (fun _ => false) 0)) s3.heap.objs.size (cellsFrom (s3.heap.objs.size + 1) scope.names (cloFrom X.env.cells scope.names [])) fp
  have pt := ht s3 (upd H2 D (L2.SetK X.prog X.w D (fun _ => false) 0)) s3.heap.objs.size (cellsFrom (s3.heap.objs.size + 1) scope.names (cloFrom X.env.cells scope.names [])) fp
  have pe := he s3 (upd H2 D (L2.SetK X.prog X.w D (fun _ => false) 0)) s3.heap.objs.size (cellsFrom (s3.heap.objs.size + 1) scope.names (cloFrom X.env.cells scope.names [])) fp
  rw [hs3]
  show codeAny _ _ (.compStart (.SetComp elt [⟨tg, iter, ifs, 0⟩] scope pos) 0 (.ref it) (.ref D) (compEnvC scope (cellsFrom (s3.heap.objs.size + 1) scope.names (cloFrom X.env.cells scope.names [])) s3.heap.objs.size X.env)) (compPost (model X.prog X.w) X.A X.xe none (EP X pins σ Q) (.ref D) s3.heap.objs.size) { s3 with heap := pushCells (s3.heap.push { cls := .type "dict", data := .dict #[] }) scope.names }
  have nfp : ∀ b ∈ fp, (upd H2 D (L2.SetK X.prog X.w D (fun _ => false) 0)) b = none := fun b hb => (f3 b hb).1.1
  generalize hce : compEnvC scope (cellsFrom (s3.heap.objs.size + 1) scope.names (cloFrom X.env.cells scope.names [])) s3.heap.objs.size X.env = ce at I4 pg pt pe ⊢
  have cL : ce.locals = s3.heap.objs.size := by subst hce; rfl
  generalize upd H2 D (L2.SetK X.prog X.w D (fun _ => false) 0) = H3 at I3 I4 pg pt pe w0 nfp f3
  generalize hs4 : ({ s3 with heap := pushCells (s3.heap.push { cls := .type "dict", data := .dict #[] }) scope.names } : Shared) = s4 at I4 ⊢
  have st4 : tn 0 s4.heap := T.keep _ _ _ st3 fun b _ o e => by rw [← hs4]; exact pushCells_keeps _ _ _ _ (Heap.get?_push_of_some _ e)
  have stat : ∀ {σ' : L2.St} {H' : Hp} {s' : Shared}, Inv (X.blk s3 H3 scope ce fp) [] σ' H' s' → (∀ b ∈ fp, H' b = none) → ∀ b ∈ fp, FpOk (X.blk s3 H3 scope ce fp) [] H' b := fun {σ' H' s'} I' hn b hb =>
    ⟨hn b hb, (I'.ok.exf b hb).1, I'.ok.exfs b hb, .inl hb, fun x c e => (I'.ok.exf b hb).2 x c e, fun p hp => absurd (show p ∈ ([] : List (Addr × Obj)) ++ [] from hp) (by simp)⟩
  have loop : codeAny (model X.prog X.w) X.A (.compLoop (.SetComp elt [⟨tg, iter, ifs, 0⟩] scope pos) 0 (.ref it) (.ref D) ce) (compPost (model X.prog X.w) X.A X.xe none (EP X pins σ Q) (.ref D) s3.heap.objs.size) s4 := by
    refine compLoopS_any (fun n s' => ∃ i H', Inv (X.blk s3 H3 scope ce fp) [] (wipe σ (own.map (·.2))) H' s' ∧ tn i s'.heap ∧ (∀ b ∈ fp, H' b = none) ∧ W i n H') ?_ m0 ⟨0, H3, I4, st4, nfp, w0⟩
    rintro n s5 ⟨i, H5, I5, st5, n5, w5⟩
    rcases turn i n H5 w5 with ⟨stop, qq⟩ | ⟨go, Nx, hNx, step⟩
    · refine thnF (T.done (X.blk s3 H3 scope ce fp) rfl rfl rfl hc i [] s5 _ H5 (fun _ _ => False) I5 (stat I5 n5) st5 stop) fun r s6 ⟨hr, I6⟩ => ?_
      subst hr
      have I7 : Inv X pins σ H5 s6 := I3.call' (ch := fp) I6.os I6.base I6.hok I6.bare fun b hb => ⟨(f3 b hb).1.2.2.2.1, (f3 b hb).1.2.1, (f3 b hb).1.2.2.2.2.1, (f3 b hb).1.2.2.2.2.2⟩
      have nC : H5 s3.heap.objs.size = none := by
        have z : H5 ce.locals = none := I6.free
        rw [cL] at z
        exact z
      obtain ⟨m, hn, _⟩ := I6.loc
      have hn : s6.heap.Ns ce.locals m := hn
      rw [cL] at hn
      refine ⟨m, hn, fun h'' sb => ?_⟩
      obtain ⟨f0, f1, f2, f3, f4, f5⟩ := I3.fpOk (Nat.le_refl _) nC
      exact ⟨.ref D, H5, I7.turned (t' := s6.toks) (fun b o hb e => (sb.2 b hb).trans e) f0 f1 f3 f4 f5, rfl, qq⟩
    · refine thnF (T.item (X.blk s3 H3 scope ce fp) rfl rfl rfl hc i [] s5 _ H5 (fun _ _ => False) I5 (stat I5 n5) st5 go) fun r s6 ⟨u, hr, h6⟩ => ?_
      subst hr
      refine thnF h6 fun _ s7 ⟨x, H7, I7, r7, y7, st7, n7⟩ => ?_
      have I7' := I7.pinned (stat I7 n7) (T.obj _ _ st7)
      refine thnF (pg.run _ s7 _ H7 x u _ I7' r7 (step x H7 y7)) fun _ s8 ⟨σ8, H8, I8, hw8, q8⟩ => ?_
      refine thnF (pt.run _ s8 σ8 H8 _ I8 q8) fun b s9 ⟨H9, I9, q9⟩ => ?_
      have fin : ∀ {s' : Shared} {H' : Hp}, Inv (X.blk s3 H3 scope ce fp) ([] ++ pinsAt fp s7.heap) σ8 H' s' → Nx H' → ∃ m, m < n ∧ ∃ i H', Inv (X.blk s3 H3 scope ce fp) [] (wipe σ (own.map (·.2))) H' s' ∧ tn i s'.heap ∧ (∀ b ∈ fp, H' b = none) ∧ W i m H' := fun {s' H'} I' nx => by
        obtain ⟨m', hm, w'⟩ := hNx H' nx
        have pin' : ∀ b ∈ fp, ∀ o, s7.heap.get? b = some o → s'.heap.get? b = some o ∧ H' b = none := fun b hb o e =>
          let z := I'.pin (b, o) (List.mem_append_right _ (List.mem_append_right _ (mem_pinsAt hb e)))
          ⟨z.1, z.2.1⟩
        have hl : (wipe σ (own.map (·.2))).length = σ8.length := by rw [← hw8, wipe_length]
        refine ⟨m', hm, i + 1, H', (I'.unpinned (pins := [])).weak hl (fun j v e => ?_), T.keep _ _ _ st7 fun b hb o e => (pin' b hb o e).1, fun b hb => ?_, w'⟩
        · rw [← hw8] at e
          exact (wipe_some e).1
        · obtain ⟨o, e, _⟩ := T.obj _ _ st7 b hb
          exact (pin' b hb o e).2
      cases b with
      | false =>
        simp only [Bool.false_eq_true, if_false] at q9 ⊢
        exact fin I9 q9
      | true =>
        simp only [if_true] at q9 ⊢
        refine thnF (pe.run _ s9 σ8 H9 _ I9 q9) fun z s10 ⟨yv, H10, I10, r10, kb, S0, n0, ey, hD10, hz10, nx⟩ => ?_
        subst ey
        exact addK_ok (X := X.blk s3 H3 scope ce fp) I10 r10 hD10 hz10 fun s11 I11 => fin I11 nx
  exact codeAny_compStart_set loop (T.self X.A 0 _ _ _ st4 loop)
/-- len of a set -/
def rLenSK (P : Program) (w : World) : List V → Hp → VK → Prop := fun xs H Q => ∃ a S n, xs = [.ref a] ∧ H a = some (L2.SetK P w a S n) ∧ n < 1000000 ∧ Q (.int (n : Nat)) H
theorem call_lenSK : CallR X (.builtin "len") (rLenSK X.prog X.w) := by
  intro pins s σ H xs us Q I r h
  obtain ⟨a, S, n, rfl, ha, hb, q⟩ := h
  obtain ⟨u, rfl, rx⟩ := vals1 r
  cases rx
  obtain ⟨o, es, ep, t, ho, hex, hd, _, _, _, hf, hn⟩ := setK_get I ha
  refine call_len_set ho hex hd hf (by rw [hn] <;> (have := line63; omega)) ⟨.int (n : Nat), H, I.tok _, ⟨_, by rw [hn]⟩, q⟩
end
theorem nc_setK {P : Program} {w : World} {a : Addr} {S : Key → Bool} {n : Nat} : NC (L2.SetK P w a S n) := fun c q e => by
  unfold L2.SetK CodeO at e
  injection e with e
  obtain ⟨h, hh⟩ : ∃ h : Heap, h.objs = Array.replicate (c + 1) { cls := .none, data := .fields #[.none, .str q 0] } := ⟨{ (default : Heap) with objs := Array.replicate (c + 1) { cls := .none, data := .fields #[.none, .str q 0] } }, rfl⟩
  have hget : ∀ b o, h.get? b = some o → o.data = .fields #[.none, .str q 0] := fun b o hb => by
    unfold Heap.get? at hb
    rw [hh, Array.getElem?_replicate] at hb
    by_cases hlt : b < c + 1
    · rw [if_pos hlt] at hb
      cases hb
      rfl
    · rw [if_neg hlt] at hb
      cases hb
  have h1 : (fun h : Heap => ∃ (oc : Obj) (vs : Array Value) (t : Tok), h.get? c = some oc ∧ oc.data = .fields vs ∧ vs[1]? = some (.str q t)) h := by
    refine ⟨{ cls := .none, data := .fields #[.none, .str q 0] }, #[.none, .str q 0], 0, ?_, rfl, rfl⟩
    unfold Heap.get?
    rw [hh, Array.getElem?_replicate, if_pos (Nat.lt_succ_self c)]
  rw [← e] at h1
  obtain ⟨o, es, ep, t, ho, hex, hd, _⟩ := h1
  have := hget a o ho
  rw [hd] at this
  cases this
theorem na_setK {P : Program} {w : World} {a : Addr} {S : Key → Bool} {n : Nat} : Na (L2.SetK P w a S n) := ⟨fun _ z => (by cases z), fun _ z => (by cases z), fun _ _ z => by cases z⟩
noncomputable instance memK (k : Key) (ks : List Key) : Decidable (k ∈ ks) := Classical.propDecidable _
/-- the keys, each once, in the order of coming -/
noncomputable def addK (ks : List Key) (k : Key) : List Key := if k ∈ ks then ks else ks ++ [k]
def kOf : D → Option Key
  | .int i => some (.inl i)
  | .str z => some (.inr z)
  | _ => none
theorem kof_is {K : PySem.W.Frag} {C : Addr} {av : Addr → Prop} {H : Hp} {v : V} {d : D} {k : Key} (h : Dv K C av H v d) (e : kOf d = some k) : v = kV k := by
  cases h <;> cases e <;> rfl
section
variable {W : Wo} {cs : Cs} {sl : Sl} {st : List Sd} {Q : Sd → Cs → Prop} {P : Program} {w : World}
abbrev tLenSc (P : Program) (w : World) (t : TE) : TE := tCB (rLenSK P w) (tCons t tNil)
def ScK (W : Wo) (g : TG) (tt : TT) (te : TE) (items : List D) (okc : Cs → Prop) (cs : Cs) (sl : Sl) (Q : List Key → Prop) : Prop := ∃ Iv : Nat → List Key → Prop, Iv 0 [] ∧ (∀ c, okc (cs ++ [c])) ∧
  (∀ i x ks st2 c, items[i]? = some x → Iv i ks → LcT W g tt te x (cs ++ [c]) sl st2 (fun d => ∃ k, kOf d = some k ∧ Iv (i + 1) (addK ks k)) (Iv (i + 1) ks)) ∧ ∀ ks, Iv items.length ks → Q ks
theorem w_lenSc {wi : TI} {g : TG} {tt : TT} {te : TE} {vs : List Nat} {slw : Sl} (e : wipeS sl vs = slw) (q : wI W wi cs sl st fun items okc cs1 => items.length < 4000 ∧ ScK W g tt te items okc cs1 slw fun ks => Q (.d (dn ks.length)) cs1) (gt : GT g vs) : wE W (tLenSc P w (tScK P w wi g tt te vs)) cs sl st Q := fun H σ ws R Q' k => by
  show wi σ H _
  refine q H σ ws R _ fun items okc cs1 J H1 us sds ⟨hil, Iv, h0, ho, hs, he⟩ hok hl hvs R1 dit => ?_
  subst e
  intro D hD
  have bl := R1.below
  obtain ⟨P0, shape⟩ : ∃ P, SlOk P σ sl := by
    obtain ⟨as, R1⟩ := R1
    exact ⟨_, R1.sl⟩
  obtain ⟨ob, hob⟩ : ∃ ob : List Key → HO, ob = fun ks => L2.SetK P w D (fun j => decide (j ∈ ks)) ks.length := ⟨_, rfl⟩
  have hob1 : ∀ ks, Na (ob ks) ∧ NC (ob ks) := fun ks => by rw [hob]; exact ⟨na_setK, nc_setK⟩
  have start : Rep W (upd H1 D (ob [])) (wipe σ vs) (us ++ (.ref D :: (slW σ sl ++ ws))) (cs1 ++ [some (.ob (ob []))]) (wipeS sl vs) (sds ++ (.c cs1.length :: (slS sl ++ st))) := by
    have R2 : Rep W H1 σ (us ++ (slW σ sl ++ ws)) cs1 sl (sds ++ (slS sl ++ st)) := by
      obtain ⟨as, R1⟩ := R1
      have hsp := StOk.split hvs R1.st
      exact ⟨as, R1.st' (StOk.app hsp.1 (StOk.app R1.sl.out hsp.2))⟩
    obtain ⟨as, R2⟩ := R2
    have R3 := R2.grow hD (o := ob []) (c := .ob (ob [])) ⟨rfl, hob1 []⟩
    have R4 := R3.sl' (R3.sl.wipe vs)
    refine ⟨as ++ [D], R4.st' ?_⟩
    have := StOk.split hvs R4.st
    exact StOk.app this.1 ⟨⟨D, by rw [← R2.len]; simp, rfl⟩, this.2⟩
  have slots : ∀ {H : Hp} {σ2 : L2.St} {sl2 : Sl} {x : Option Cell} {as : List Addr}, RepA W as H σ2 (us ++ (.ref D :: (slW σ sl ++ ws))) (cs1 ++ [x]) sl2 (sds ++ (.c cs1.length :: (slS sl ++ st))) → SlOk (Rv W as (Av W as (cs1 ++ [x])) H) σ sl := fun {H σ2 sl2 x as} R => by
    have h1 := (StOk.split hvs R.st).2.2
    have l : (slW σ sl).length = (slS sl).length := shape.out.len
    exact shape.back (StOk.split l h1).1
  have cell : ∀ {H : Hp} {σ2 : L2.St} {sl2 : Sl} {ks : List Key} {as : List Addr} {ws2 : List V} {st2 : List Sd}, RepA W as H σ2 (.ref D :: ws2) (cs1 ++ [some (.ob (ob ks))]) sl2 (.c cs1.length :: st2) → as[cs1.length]? = some D ∧ H D = some (ob ks) := fun {H σ2 sl2 ks as ws2 st2} R => by
    obtain ⟨a, ha, e⟩ := R.st.1
    cases e
    have hx : (cs1 ++ [some (Cell.ob (ob ks))])[cs1.length]? = some (some (.ob (ob ks))) := by simp
    obtain ⟨o, h1, h2⟩ := R.cells _ _ _ ha hx
    exact ⟨ha, by rw [h1, h2.1]⟩
  have endk : ∀ (H : Hp), (∃ ks, Iv items.length ks ∧ ks.length ≤ items.length ∧ Rep W H (wipe σ vs) (us ++ (.ref D :: (slW σ sl ++ ws))) (cs1 ++ [some (.ob (ob ks))]) (wipeS sl vs) (sds ++ (.c cs1.length :: (slS sl ++ st)))) → rLenSK P w [.ref D] H Q' := by
    rintro H2 ⟨ks, hI, hkl, R2⟩
    have R3 : Rep W H2 σ (.ref D :: ws) (cs1 ++ [some (.ob (ob ks))]) sl (.c cs1.length :: st) := by
      obtain ⟨as, R2⟩ := R2
      have h1 := (StOk.split hvs R2.st).2
      have l : (slW σ sl).length = (slS sl).length := shape.out.len
      exact ⟨as, (R2.sl' (slots R2)).st' ⟨h1.1, (StOk.split l h1.2).2⟩⟩
    obtain ⟨as, R3⟩ := R3
    obtain ⟨ha, hD2⟩ := cell R3
    refine ⟨D, _, ks.length, rfl, by rw [hD2, hob], by omega, k _ _ _ _ (he ks hI) ?_⟩
    have hlen := R3.len
    rw [List.length_append, List.length_singleton] at hlen
    obtain ⟨as0, l0, rfl⟩ : ∃ as0 : List Addr, as0.length = cs1.length ∧ as = as0 ++ [D] := by
      refine ⟨as.take cs1.length, by rw [List.length_take]; omega, ?_⟩
      have h1 : as.drop cs1.length = [D] := by
        rw [List.drop_eq_getElem_cons (by omega), List.drop_eq_nil_of_le (by omega)]
        rw [List.getElem?_eq_getElem (by omega)] at ha
        rw [Option.some.inj ha]
      rw [← h1, List.take_append_drop]
    exact Rep.push ⟨as0, R3.drop1.dropLast l0 bl.1 (StOk.split hvs bl.2).2⟩ (scd_int _)
  refine ⟨fun i m H => m = items.length - i ∧ i ≤ items.length ∧ ∃ ks, Iv i ks ∧ ks.length ≤ i ∧ Rep W H (wipe σ vs) (us ++ (.ref D :: (slW σ sl ++ ws))) (cs1 ++ [some (.ob (ob ks))]) (wipeS sl vs) (sds ++ (.c cs1.length :: (slS sl ++ st))), ⟨items.length, by simp, Nat.zero_le _, [], h0, Nat.le_refl _, ?_⟩, ?_⟩
  · have e0 : ob [] = L2.SetK P w D (fun _ => false) 0 := by
      rw [hob]
      show L2.SetK P w D (fun j => decide (j ∈ [])) 0 = _
      congr 1
      funext j
      exact decide_eq_false List.not_mem_nil
    rw [← e0]
    exact start
  rintro i m H2 ⟨rfl, hi, ks, hI, hkl, R2⟩
  by_cases hlt : i < items.length
  · refine .inr ⟨dit.goes i H2 _ _ _ _ _ R2 (ho _) hlt, fun H' => ∃ ks, Iv (i + 1) ks ∧ ks.length ≤ i + 1 ∧ Rep W H' (wipe σ vs) (us ++ (.ref D :: (slW σ sl ++ ws))) (cs1 ++ [some (.ob (ob ks))]) (wipeS sl vs) (sds ++ (.c cs1.length :: (slS sl ++ st))), fun H' p' => ⟨items.length - (i + 1), by omega, rfl, hlt, p'⟩, fun x H3 hy => ?_⟩
    obtain ⟨d, hd, R3⟩ := dit.yld i H2 x H3 _ _ _ _ _ R2 (ho _) hlt hy
    have hg := hs i d ks (sds ++ (.c cs1.length :: (slS sl ++ st))) (some (.ob (ob ks))) hd hI H3 (wipe σ vs) x _ R3
    refine gt x (wipe σ vs) H3 _ _ (fun σ2 H4 q4 w4 => ⟨w4.trans (wipe_idem σ vs), q4⟩) (hg _ fun cs4 sl4 σ4 H4 h4 R4 => ?_)
    obtain ⟨rfl, h4⟩ := h4
    refine h4 H4 σ4 _ R4 _ fun b cs5 H5 h5 R5 => ?_
    obtain ⟨rfl, h5⟩ := h5
    cases b with
    | false =>
      have h5 : Iv (i + 1) ks := h5
      refine iteF ⟨ks, h5, by omega, ?_⟩
      obtain ⟨as, R5⟩ := R5
      exact ⟨as, R5.sl' ((slots R5).wipe vs)⟩
    | true =>
      have h5 : wE W te (cs1 ++ [some (.ob (ob ks))]) sl4 _ _ := h5
      refine iteT (h5 H5 σ4 _ R5 _ fun sd cs6 y H6 h6 R6 => ?_)
      obtain ⟨rfl, h6⟩ := h6
      obtain ⟨dy, rfl, kk, hk, h6⟩ := datk_of h6
      obtain ⟨as, R6⟩ := R6
      have ey : y = kV kk := kof_is R6.st.1 hk
      have R7 : RepA W as H6 σ4 (us ++ (.ref D :: (slW σ sl ++ ws))) (cs1 ++ [some (.ob (ob ks))]) sl4 (sds ++ (.c cs1.length :: (slS sl ++ st))) := R6.drop1
      have R8 : RepA W as H6 σ4 (.ref D :: (slW σ sl ++ ws)) (cs1 ++ [some (.ob (ob ks))]) sl4 (.c cs1.length :: (slS sl ++ st)) := R7.st' (StOk.split hvs R7.st).2
      obtain ⟨ha, hD6⟩ := cell R8
      refine ⟨kk, fun j => decide (j ∈ ks), ks.length, ey, by rw [hD6, hob], by unfold scanBound; omega, addK ks kk, h6, ?_, ?_⟩
      · unfold addK
        split
        · omega
        · rw [List.length_append, List.length_singleton]
          omega
      · have e1 : L2.SetK P w D (fun j => decide (j ∈ ks) || decide (j = kk)) (if decide (kk ∈ ks) = true then ks.length else ks.length + 1) = ob (addK ks kk) := by
          rw [hob]
          unfold addK
          by_cases hm : kk ∈ ks
          · rw [if_pos hm, decide_eq_true hm, if_pos rfl]
            congr 1
            funext j
            by_cases hj : j = kk
            · rw [hj, decide_eq_true hm, Bool.true_or]
            · rw [decide_eq_false hj, Bool.or_false]
          · rw [if_neg hm, decide_eq_false hm, if_neg Bool.false_ne_true]
            show L2.SetK P w D (fun j => decide (j ∈ ks) || decide (j = kk)) (ks.length + 1) = L2.SetK P w D (fun j => decide (j ∈ ks ++ [kk])) (ks ++ [kk]).length
            have e3 : (ks ++ [kk]).length = ks.length + 1 := by rw [List.length_append, List.length_singleton]
            rw [e3]
            congr 1
            funext j
            rw [Bool.eq_iff_iff]
            simp
        rw [e1]
        have hx : (cs1 ++ [some (Cell.ob (ob ks))])[cs1.length]? = some (some (.ob (ob ks))) := by simp
        have R9 := R7.setc (c := .ob (ob (addK ks kk))) (o := ob (addK ks kk)) ha hx ⟨rfl, hob1 _⟩
        have e2 : (cs1 ++ [some (Cell.ob (ob ks))]).set cs1.length (some (.ob (ob (addK ks kk)))) = cs1 ++ [some (.ob (ob (addK ks kk)))] := by simp
        rw [e2] at R9
        exact ⟨as, R9.sl' ((slots R9).wipe vs)⟩
  · have ei : i = items.length := by omega
    subst ei
    exact .inl ⟨dit.stops H2 _ _ _ _ _ R2 (ho _), endk H2 ⟨ks, hI, hkl, R2⟩⟩
noncomputable def keysOf (zs : List Key) : List Key := zs.foldl addK []
theorem keysOf_snoc (zs : List Key) (z : Key) : keysOf (zs ++ [z]) = addK (keysOf zs) z := by
  unfold keysOf
  rw [List.foldl_append]
  rfl
theorem sck_map {α : Type} {F : α → D} {g : TG} {tt : TT} {te : TE} {okc : Cs → Prop} {QK : List Key → Prop} {xs : List α} (f : α → Key) (hs : ∀ x st2 c, x ∈ xs → LcT W g tt te (F x) (cs ++ [c]) sl st2 (fun d => kOf d = some (f x)) False) (q : QK (keysOf (xs.map f)))
    (ho : ∀ c, okc (cs ++ [c]) := by exact fun _ => trivial) : ScK W g tt te (xs.map F) okc cs sl QK := by
  refine ⟨fun i ks => ks = keysOf ((xs.take i).map f), rfl, ho, fun i x ks st2 c hx hI => ?_, fun ks hI => ?_⟩
  · rw [List.getElem?_map] at hx
    obtain ⟨y, hy, rfl⟩ := Option.map_eq_some_iff.mp hx
    refine (hs y st2 c (List.mem_of_getElem? hy)).imp (fun d e => ⟨f y, e, ?_⟩) False.elim
    have hI : ks = keysOf ((xs.take i).map f) := hI
    show addK ks (f y) = keysOf ((xs.take (i + 1)).map f)
    rw [List.take_add_one, hy, List.map_append, hI]
    exact (keysOf_snoc _ _).symm
  · have hI : ks = keysOf ((xs.take (xs.map F).length).map f) := hI
    rw [hI, List.length_map, List.take_length]
    exact q
theorem keysOf_mem {k : Key} : ∀ {zs : List Key} {acc : List Key}, k ∈ zs.foldl addK acc ↔ k ∈ acc ∨ k ∈ zs
  | [], acc => by simp
  | z :: zs, acc => by
    rw [List.foldl_cons, keysOf_mem (zs := zs), List.mem_cons]
    have : k ∈ addK acc z ↔ k ∈ acc ∨ k = z := by
      unfold addK
      split
      · rename_i h
        exact ⟨.inl, fun h' => h'.elim id fun e => e ▸ h⟩
      · simp
    rw [this, or_assoc]
theorem keysOf_nodup : ∀ {zs : List Key} {acc : List Key}, acc.Nodup → (zs.foldl addK acc).Nodup
  | [], _, h => h
  | z :: zs, acc, h => by
    rw [List.foldl_cons]
    refine keysOf_nodup (zs := zs) ?_
    unfold addK
    split
    · exact h
    · rename_i hz
      exact List.nodup_append.mpr ⟨h, by simp, fun a ha b hb => by rw [List.mem_singleton.mp hb]; exact fun e => hz (e ▸ ha)⟩
theorem keysOf_one {zs : List Key} (h : ∀ a ∈ zs, ∀ b ∈ zs, a = b) : (keysOf zs).length ≤ 1 := by
  cases zs with
  | nil => exact Nat.zero_le _
  | cons a l =>
    have := List.Nodup.length_le_of_subset (keysOf_nodup (zs := a :: l) (acc := []) (by simp)) (l₂ := [a]) fun k hk => by
      have := (keysOf_mem.mp hk).resolve_left List.not_mem_nil
      rw [h k this a (.head _)]
      exact .head _
    exact this
theorem keysOf_two {zs : List Key} {a b : Key} (ha : a ∈ zs) (hb : b ∈ zs) (n : a ≠ b) : 1 < (keysOf zs).length := by
  have := List.Nodup.length_le_of_subset (l₁ := [a, b]) (by simp [n]) (l₂ := keysOf zs) fun k hk => by
    rcases List.mem_cons.mp hk with rfl | hk
    · exact keysOf_mem.mpr (.inr ha)
    · rw [List.mem_singleton.mp hk]
      exact keysOf_mem.mpr (.inr hb)
  exact this
end
end R

/-! # KG: dicts of the top: numbers by numbers -/
namespace R
open PySem PySem.Spec PyProof.Rows L2 L2H LamX
/-- the object at a is the dict of these numbers -/
def KDi (K : PySem.W.Frag) (a : Addr) (kvs : List (Int × Int)) : Prop := ∀ (P : Program) (w : World) (h : Heap), K.In h → ∃ vs : List (Key × Value), h.DictOf (mixKind P w) a vs ∧ ∀ k v, kvs.lookup k = some v → ∃ u, valueAt vs (.inl k) = some u ∧ RelV (V.int v) u
def EntsOk : List DictEntry → List (Int × Int) → Prop
  | [], [] => True
  | e :: es, p :: ps => (∃ t, e.key = .int p.1 t) ∧ e.hash = hashInt p.1 ∧ (∃ t, e.val = .int p.2 t) ∧ EntsOk es ps
  | _, _ => False
theorem ents_vs {P : Program} {w : World} : ∀ {es : List DictEntry} {kvs : List (Int × Int)}, EntsOk es kvs → ∃ vs : List (Key × Value), (∀ e ∈ es, ∃ k, (mixKind P w).is k e.key = true ∧ e.hash = (mixKind P w).hash k) ∧ Pairs (mixKind P w) es vs ∧ vs.map (·.1) = kvs.map (fun p => (Sum.inl p.1 : Key)) ∧ ∀ k v, kvs.lookup k = some v → ∃ u, valueAt vs (.inl k) = some u ∧ RelV (V.int v) u
  | [], [], _ => ⟨[], fun _ h => absurd h List.not_mem_nil, .nil, rfl, fun _ _ h => by cases h⟩
  | [], _ :: _, h => h.elim
  | _ :: _, [], h => h.elim
  | e :: es, (a, b) :: kvs, h => by
    obtain ⟨⟨t, h1⟩, h2, ⟨t2, h3⟩, h4⟩ := h
    obtain ⟨vs, g1, g2, g3, g4⟩ := ents_vs (P := P) (w := w) h4
    have hk : (mixKind P w).is (Sum.inl a) e.key = true := by
      rw [h1]
      exact kV_is (k := .inl a) ⟨t, rfl⟩
    refine ⟨(.inl a, .int b t2) :: vs, fun e' he => ?_, .cons hk h3 g2, by rw [List.map_cons, List.map_cons, g3], fun k v hl => ?_⟩
    · rcases List.mem_cons.mp he with rfl | he
      · exact ⟨.inl a, hk, h2⟩
      · exact g1 e' he
    · unfold valueAt
      rw [List.find?_cons]
      rw [List.lookup_cons] at hl
      by_cases e2 : k = a
      · subst e2
        rw [beq_self_eq_true] at hl
        cases hl
        rw [decide_eq_true rfl]
        exact ⟨_, rfl, ⟨t2, rfl⟩⟩
      · have e3 : (k == a) = false := beq_eq_false_iff_ne.mpr e2
        rw [e3] at hl
        have e4 : ¬ ((Sum.inl a : Key) = Sum.inl k) := fun z => e2 (Sum.inl.inj z).symm
        rw [decide_eq_false e4]
        exact g4 k v hl
theorem kdi_mk {K : PySem.W.Frag} {a : Addr} {es : Array DictEntry} {ep : Nat} {kvs : List (Int × Int)} (l : K.lookup a = some { cls := .type "dict", data := .dict es ep }) (h : EntsOk es.toList kvs) (n : (kvs.map (·.1)).Nodup) : KDi K a kvs := fun P w hp X => by
  obtain ⟨vs, g1, g2, g3, g4⟩ := ents_vs (P := P) (w := w) h
  refine ⟨vs, ⟨_, es, ep, X a _ l, ⟨rfl, rfl, rfl⟩, rfl, fun e he => g1 e (Array.mem_toList_iff.mpr he), g2, ?_⟩, g4⟩
  rw [g3]
  have e : kvs.map (fun p => (Sum.inl p.1 : Key)) = (kvs.map (·.1)).map Sum.inl := by rw [List.map_map]; rfl
  rw [e]
  exact List.Pairwise.map _ (fun a b hab z => hab (Sum.inl.inj z)) n
theorem kd_ex {K : PySem.W.Frag} {h : Heap} {mg : Str → Option Value} (X : K.In h) (G : h.Ns mainGlobals mg) {x : Str} {a : Addr} {es : Array DictEntry} {ep : Nat} {kvs : List (Int × Int)} (e : PySem.W.nsIn K mainGlobals x = some (some (.ref a))) (l : K.lookup a = some { cls := .type "dict", data := .dict es ep })
    (he : EntsOk es.toList kvs) (n : (kvs.map (·.1)).Nodup) : ∃ a, GV mg x (.ref a) ∧ KDi K a kvs := ⟨a, ⟨.ref a, PySem.W.mg_of X G e, rfl⟩, kdi_mk l he n⟩
def tCGet (K : PySem.W.Frag) (td ty : TE) : TE := fun σ H Q => td σ H fun x H1 => ty σ H1 fun y H2 => ∃ a kvs k v, x = .ref a ∧ KDi K a kvs ∧ y = .int k ∧ kvs.lookup k = some v ∧ Q (.int v) H2
section
variable {X : Cx} {o i : Expr} {pos : Pos} {td ty : TE}
theorem pe_cget (ho : PE X o td) (hi : PE X i ty) (hs : NoSl i) : PE X (.Subscript o i pos) (tCGet X.K td ty) := by
  refine ⟨fun pins s σ H Q I h => ?_⟩
  refine subD_of PySem.F.slot_dict_getitem.lookup hs (thn (ho.run pins s σ H _ I h) fun u s1 ⟨x, H1, I1, rx, q1⟩ => thn (hi.run pins s1 σ H1 _ I1 q1) fun iv s2 ⟨y, H2, I2, ry, a, kvs, k, v, ex, g, ey, gv, q2⟩ => ?_)
  subst ex ey
  obtain rfl : u = Value.ref a := rx
  obtain ⟨vs, dd, hv⟩ := g X.prog X.w s2.heap I2.kIn
  obtain ⟨u, h1, h2⟩ := hv k v gv
  exact ⟨dd.typeIs, wpAny_getItem_of (kV_is (k := .inl k) ry) dd.mapOf h1 ⟨.int v, H2, I2.tok _, h2, q2⟩⟩
end
section
variable {W : Wo} {cs : Cs} {sl : Sl} {st : List Sd} {Q : Sd → Cs → Prop}
def CgK (kvs : List (Int × Int)) (P : Int → Prop) (y : Sd) : Prop := ∃ k v, y = .d (.int k) ∧ kvs.lookup k = some v ∧ P v
theorem w_cget {a : Addr} {ty : TE} {kvs : List (Int × Int)} (h : KDi W.K a kvs) (q : wE W ty cs sl st fun y cs2 => CgK kvs (fun v => Q (.d (.int v)) cs2) y) : wE W (tCGet W.K (tC (.ref a)) ty) cs sl st Q := fun H σ ws R Q' k => by
  refine q H σ ws R _ fun y cs2 u H2 h2 R2 => ?_
  obtain ⟨k0, v, rfl, hl, hq⟩ := h2
  obtain rfl := R2.int
  exact ⟨a, kvs, k0, v, rfl, h, rfl, hl, k _ _ _ _ hq (R2.drop1.push (scd_int v))⟩
end
end R

/-! # LX: list.index, list.pop(i) -/
namespace R
open PySem PySem.Spec PyProof.Rows L2 L2H LamX
theorem hu_65 {k : Nat} {A : Around} (r : Room k A) : A.units + 65 < cLine := by have := r.un; omega
section
variable {W : Wo} {cs : Cs} {sl : Sl} {st : List Sd} {Q : Sd → Cs → Prop}
theorem pys_at {i : Nat} {d : D} : ∀ {ds : List D}, ds[i]? = some d → (D.pys ds)[i]? = some d.py
  | [], h => by simp at h
  | e :: ds, h => by
    cases i with
    | zero => simp at h; subst h; rfl
    | succ i =>
      rw [D.pys, List.getElem?_cons_succ]
      exact pys_at (by simpa using h)
theorem pys_back {i : Nat} {p : PyData} : ∀ {ds : List D}, (D.pys ds)[i]? = some p → ∃ d, ds[i]? = some d ∧ p = d.py
  | [], h => by simp [D.pys] at h
  | e :: ds, h => by
    cases i with
    | zero => simp [D.pys] at h; exact ⟨e, rfl, h.symm⟩
    | succ i =>
      obtain ⟨d, h1, h2⟩ := pys_back (i := i) (ds := ds) (by simpa [D.pys] using h)
      exact ⟨d, by simpa using h1, h2⟩
theorem m_index {n : Nat} {x : Sd} {y : D} {ds : List D} {j : Nat} {z : D} (ok : D.Ok n (.lst ds)) (oy : D.Ok n y) (hj : ds[j]? = some z) (e : D.eqv z y = true) (no : ∀ (m : Nat) (u : D), m < j → ds[m]? = some u → D.eqv u y = false) (q : Q (.d (dn j)) cs) (hx : rdD cs x = some (.lst ds) := by rfl) (hn : n ≤ 64 := by decide) :
    wM W (rIndexD W.K) x [.d y] cs sl st Q := fun H σ vx vs ws l R Q' kk => by
  match vs, l, R with
  | [u], _, R =>
    have R : Rep W H σ (u :: vx :: ws) cs sl (.d y :: x :: st) := R
    obtain ⟨as, R0⟩ := id R
    obtain ⟨as1, R1⟩ := R.drop1
    have d1 := R1.rd hx
    have d2 := Dv.noav R0.st.1
    have dp1 := d1.dp ok.pl
    have dp2 := d2.dp oy.pl
    cases d1 with
    | lst a1 _ _ b1 =>
      refine ⟨_, u, y.py, D.pys ds, j, z.py, rfl, rfl, ?_, dp2, ?_, oy.shaped hn, pys_at hj, e, fun m z' hm hz' => ?_, kk _ _ _ _ q (Rep.push ⟨as1, R1.drop1⟩ (scd_int _))⟩
      · rw [D.py] at dp1
        exact dp1
      · have := ok.shaped hn
        rw [D.py] at this
        exact this
      · obtain ⟨d', h1, rfl⟩ := pys_back hz'
        exact no m d' hm h1
theorem pys_any {y : D} : ∀ ds : List D, ((D.pys ds).any fun z => PyData.eqv z y.py) = ds.any fun z => D.eqv z y
  | [] => rfl
  | d :: ds => by
    rw [D.pys, List.any_cons, List.any_cons, pys_any ds]
    rfl
/-- x in xs, x not in xs: any data -/
theorem o_inD {n m : Nat} {x y : Sd} {dx : D} {ds : List D} {b : Bool} {Q : Sd → Cs → Prop} (ok : D.Ok n (.lst ds)) (oy : D.Ok m dx) (e : (ds.any fun z => D.eqv z dx) = b) (q : Q (.d (.bl b)) cs) (hx : rdD cs x = some dx := by rfl) (hy : rdD cs y = some (.lst ds) := by rfl) (hn : n ≤ 64 := by decide) (hm : m ≤ 64 := by decide) : wO W (rInD W.K) x y cs sl st Q := fun H σ vx vy ws R Q' k => by
  obtain ⟨h1, h2⟩ := rd2 R hx hy
  refine ⟨dx.py, D.pys ds, h1.dp oy.pl, ?_, oy.shaped hm, ?_, ?_⟩
  · have := h2.dp ok.pl
    rw [D.py] at this
    exact this
  · have := ok.shaped hn
    rw [D.py] at this
    exact this
  · rw [pys_any, e]
    exact k _ _ _ _ q (R.drop1.drop1.push (scd_bl _))
theorem o_ninD {n m : Nat} {x y : Sd} {dx : D} {ds : List D} {b : Bool} {Q : Sd → Cs → Prop} (ok : D.Ok n (.lst ds)) (oy : D.Ok m dx) (e : (ds.any fun z => D.eqv z dx) = b) (q : Q (.d (.bl (!b))) cs) (hx : rdD cs x = some dx := by rfl) (hy : rdD cs y = some (.lst ds) := by rfl) (hn : n ≤ 64 := by decide) (hm : m ≤ 64 := by decide) : wO W (rNotInD W.K) x y cs sl st Q := fun H σ vx vy ws R Q' k => by
  obtain ⟨h1, h2⟩ := rd2 R hx hy
  refine ⟨dx.py, D.pys ds, h1.dp oy.pl, ?_, oy.shaped hm, ?_, ?_⟩
  · have := h2.dp ok.pl
    rw [D.py] at this
    exact this
  · have := ok.shaped hn
    rw [D.py] at this
    exact this
  · rw [pys_any, e]
    exact k _ _ _ _ q (R.drop1.drop1.push (scd_bl _))
theorem any_dl (xs : List (List Nat)) (c : List Nat) : ((xs.map dl).any fun z => D.eqv z (dl c)) = decide (c ∈ xs) := by
  rw [List.any_map, Bool.eq_iff_iff, List.any_eq_true, decide_eq_true_iff]
  constructor
  · rintro ⟨a, ha, e⟩
    have e : D.eqv (dl a) (dl c) = true := e
    rw [D.eqv_iff (D.nb_dl a) (D.nb_dl c)] at e
    have : a.map dn = c.map dn := D.lst.inj e
    have h2 : a = c := List.map_inj_right (fun x y e => Int.ofNat.inj (D.int.inj e)) |>.mp this
    rw [← h2]
    exact ha
  · intro h
    exact ⟨c, h, (D.eqv_iff (D.nb_dl c) (D.nb_dl c)).mpr rfl⟩
theorem any_dr (xs : List (List Nat)) (c : List Nat) : ((xs.map dr).any fun z => D.eqv z (dr c)) = decide (c ∈ xs) := by
  rw [List.any_map, Bool.eq_iff_iff, List.any_eq_true, decide_eq_true_iff]
  constructor
  · rintro ⟨a, ha, e⟩
    have e : D.eqv (dr a) (dr c) = true := e
    rw [D.eqv_iff (D.nb_dr a) (D.nb_dr c)] at e
    have : a.map dn = c.map dn := D.tup.inj e
    have h2 : a = c := List.map_inj_right (fun x y e => Int.ofNat.inj (D.int.inj e)) |>.mp this
    rw [← h2]
    exact ha
  · intro h
    exact ⟨c, h, (D.eqv_iff (D.nb_dr c) (D.nb_dr c)).mpr rfl⟩
theorem idx_first {i : Int} : ∀ {ns : List Int}, i ∈ ns → ns[ns.idxOf i]? = some i ∧ ∀ m u, m < ns.idxOf i → ns[m]? = some u → u ≠ i
  | [], h => absurd h List.not_mem_nil
  | a :: ns, h => by
    by_cases e : a = i
    · subst e
      rw [List.idxOf_cons_self]
      exact ⟨rfl, fun m u hm => absurd hm (Nat.not_lt_zero m)⟩
    · have ih := idx_first ((List.mem_cons.mp h).resolve_left fun z => e z.symm)
      have q : (a :: ns).idxOf i = ns.idxOf i + 1 := by rw [List.idxOf_cons, beq_false_of_ne e]; rfl
      rw [q]
      refine ⟨ih.1, fun m u hm hu => ?_⟩
      cases m with
      | zero => simp at hu; subst hu; exact e
      | succ m => exact ih.2 m u (by omega) (by simpa using hu)
theorem m_indexI {x : Sd} {ns : List Int} {i : Int} (h : i ∈ ns) (q : Q (.d (dn (ns.idxOf i))) cs) (hx : rdD cs x = some (.lst (ns.map .int)) := by rfl) : wM W (rIndexD W.K) x [.d (.int i)] cs sl st Q := by
  obtain ⟨h1, h2⟩ := idx_first h
  refine m_index (n := 1) (z := .int i) (.lst (.ints ns)) (.int i) (by rw [List.getElem?_map, h1]; rfl) (by rw [D.eqv_dec rfl rfl]; exact decide_eq_true rfl) (fun m u hm hu => ?_) q hx
  rw [List.getElem?_map] at hu
  obtain ⟨v, hv, rfl⟩ := Option.map_eq_some_iff.mp hu
  rw [D.eqv_dec rfl rfl]
  exact decide_eq_false fun e => h2 m v hm hv (D.int.inj e)
theorem DvAll.erase {K : PySem.W.Frag} {C : Addr} {av : Addr → Prop} {H : Hp} : ∀ {vs : List V} {ds : List D} (i : Nat), DvAll K C av H vs ds → DvAll K C av H (vs.eraseIdx i) (ds.eraseIdx i)
  | _, _, _, .nil => .nil
  | _, _, 0, .cons _ h => h
  | _, _, i + 1, .cons h t => .cons h (DvAll.erase i t)
theorem m_popAt {k : Nat} {ds : List D} {j : Nat} {d : D} {cs' : Cs} (hd : ds[j]? = some d) (q : Q (.d d) cs') (hk : cs[k]? = some (some (.lst ds)) := by rfl) (e : cs.set k (some (.lst (ds.eraseIdx j))) = cs' := by rfl) : wM W rPopAt (.c k) [.d (dn j)] cs sl st Q := fun H σ vx vs ws l R Q' kk => by
  subst e
  match vs, l, R with
  | [u], _, R =>
    have R : Rep W H σ (u :: vx :: ws) cs sl (.d (dn j) :: .c k :: st) := R
    obtain rfl := R.int
    obtain ⟨as, R⟩ := R.drop1
    obtain ⟨a, xs, rfl, ha, h1, h2, h3, h4⟩ := R.seqC hk
    obtain ⟨v, h5, h6⟩ := h4.get hd
    have hj := (List.getElem?_eq_some_iff.mp h5).1
    have hjl : j < 900000 := by omega
    refine ⟨a, xs, j, j, v, rfl, rfl, h1, by omega, by omega, ?_, h5, ?_⟩
    · exact (ixN_seq (ixn_nat rfl hj)).1
    · have R2 := cell_set (R.drop1.one h6) ha hk (ys := xs.eraseIdx j) (es := ds.eraseIdx j) (Nat.le_trans (len_erase xs j) (by omega)) (h4.erase j)
      exact kk _ _ _ _ q ⟨as, R2⟩
theorem idx_firstA {α : Type} [BEq α] [LawfulBEq α] {i : α} : ∀ {ns : List α}, i ∈ ns → ns[ns.idxOf i]? = some i ∧ ∀ m u, m < ns.idxOf i → ns[m]? = some u → u ≠ i
  | [], h => absurd h List.not_mem_nil
  | a :: ns, h => by
    by_cases e : a = i
    · subst e
      rw [List.idxOf_cons_self]
      exact ⟨rfl, fun m u hm => absurd hm (Nat.not_lt_zero m)⟩
    · have ih := idx_firstA ((List.mem_cons.mp h).resolve_left fun z => e z.symm)
      have q : (a :: ns).idxOf i = ns.idxOf i + 1 := by rw [List.idxOf_cons, beq_false_of_ne e]; rfl
      rw [q]
      refine ⟨ih.1, fun m u hm hu => ?_⟩
      cases m with
      | zero => simp at hu; subst hu; exact e
      | succ m => exact ih.2 m u (by omega) (by simpa using hu)
/-- the first place of a list of numbers in a list of such -/
theorem m_indexL {x : Sd} {xs : List (List Nat)} {c : List Nat} (h : c ∈ xs) (q : Q (.d (dn (xs.idxOf c))) cs) (hx : rdD cs x = some (.lst (xs.map dl)) := by rfl) : wM W (rIndexD W.K) x [.d (dl c)] cs sl st Q := by
  obtain ⟨h1, h2⟩ := idx_firstA h
  refine m_index (n := 3) (z := dl c) (.lst (.map (fun _ => .dl _) _)) (.dl c) (by rw [List.getElem?_map, h1]; rfl) ((D.eqv_iff (D.nb_dl c) (D.nb_dl c)).mpr rfl) (fun m u hm hu => ?_) q hx
  rw [List.getElem?_map] at hu
  obtain ⟨a, ha, rfl⟩ := Option.map_eq_some_iff.mp hu
  have hne := h2 m a hm ha
  rw [D.eqv_dec (D.nb_dl a) (D.nb_dl c)]
  refine decide_eq_false fun e => hne ?_
  exact List.map_inj_right (fun x y e => Int.ofNat.inj (D.int.inj e)) |>.mp (D.lst.inj e)
end
end R

/-! # LR: list(range(n)) -/
namespace R
open PySem PySem.Spec PyProof.Rows L2 L2H LamX
section
variable {W : Wo} {cs : Cs} {sl : Sl} {st : List Sd}
theorem w_lrg1 {ta : TE} {Q : List D → Cs → Prop} (q : wE W ta cs sl st fun x cs1 => R1K (fun n => (0 ≤ n ∧ n ≤ 800000) ∧ Q ((List.range n.toNat).map fun m : Nat => .int m) cs1) [x]) : wN W (tLstRg (tRg1 ta)) cs sl st Q := fun H σ ws R Q' k => q H σ ws R _ fun x cs1 v H1 h1 R1 => by
  match x, h1, R1 with
  | .d (.int i), ⟨⟨h0, hi⟩, h1⟩, R1 =>
    obtain rfl := R1.int
    refine ⟨i, rfl, RgOk.of_le (Int.le_refl 0) (by omega) (by omega) h0, fun p n => ?_⟩
    have e : rgV 0 i = ((List.range i.toNat).map fun m : Nat => (m : Int)).map V.int := by
      unfold rgV
      rw [List.map_map, Int.sub_zero]
      refine List.map_congr_left fun m _ => ?_
      show V.int (0 + (m : Int)) = V.int (m : Int)
      rw [Int.zero_add]
    have e2 : ((List.range i.toNat).map fun m : Nat => D.int m) = ((List.range i.toNat).map fun m : Nat => (m : Int)).map D.int := by
      rw [List.map_map]
      rfl
    have hl : ((List.range i.toNat).map fun m : Nat => D.int m).length ≤ 900000 := by
      rw [List.length_map, List.length_range]
      omega
    obtain ⟨as, R2⟩ := R1.drop1
    have R3 : Rep W H1 σ (rgV 0 i ++ ws) cs1 sl (((List.range i.toNat).map fun m : Nat => D.int m).map .d ++ st) := ⟨as, R2.all (by rw [e, e2]; exact DvAll.ofInts _)⟩
    have l : (rgV 0 i).length = ((List.range i.toNat).map fun m : Nat => D.int m).length := by rw [e, e2]; simp
    exact k _ _ _ _ h1 (new_list R3 l hl n).1 (new_list R3 l hl n).2
theorem w_newLrg {t : L2.St → Hp → (Int → Int → Hp → Prop) → Prop} {Q : Sd → Cs → Prop} (q : wN W (tLstRg t) cs sl st fun ds cs1 => Q (.d (.lst ds)) cs1) : wE W (tLstRg t) cs sl st Q := w_new q
def ThrK (P : Sd → Sd → Sd → Prop) : List Sd → Prop
  | [x, y, z] => P x y z
  | _ => False
theorem w_thr {x y z : Sd} {P : Sd → Sd → Sd → Prop} (h : P x y z) : ThrK P [x, y, z] := h
theorem w_par3 {i j l : Nat} {ta : TA} {F : DE} (q : wA W ta cs sl st fun xs cs1 => ThrK (fun x y z => SetK (((sl.set i (some x)).set j (some y)).set l (some z)) (F.nx cs1)) xs) : wS W (tPar3 i j l ta) cs sl st F := fun H σ ws R De k => q H σ ws R _ fun xs cs1 vs H1 h1 n R1 => by
  match xs, vs, n, h1, R1 with
  | [x, y, z], [u, v, w], _, h1, R1 =>
    refine ⟨u, v, w, rfl, k.nx _ _ _ _ h1 ?_⟩
    exact (((R1.set (v := u) (x := x) i).set (v := v) (x := y) j).set (v := w) (x := z) l)
end
end R

/-! # ZW: zip of a list and a tuple, over data -/
namespace R
open PySem PySem.Spec PyProof.Rows L2 L2H LamX
section
variable {W : Wo} {cs : Cs} {sl : Sl} {st : List Sd}
def Z3K (k : List D → List D → Prop) : List Sd → Prop
  | [.d (.lst xs), .d (.lst ys)] => k xs ys
  | [.d (.lst xs), .d (.tup ys)] => k xs ys
  | _ => False
theorem z3k {k : List D → List D → Prop} {xs ys : List D} (h : k xs ys) : Z3K k [.d (.lst xs), .d (.lst ys)] := h
theorem z3kt {k : List D → List D → Prop} {xs ys : List D} (h : k xs ys) : Z3K k [.d (.lst xs), .d (.tup ys)] := h
theorem w_zipM {t : TA} {QI : List D → (Cs → Prop) → Cs → Prop} (q : wA W t cs sl st fun xs cs1 => Z3K (fun xs ys => QI (zipD xs ys) anyc cs1) xs) : wI W (ZM.iZipM W.K t) cs sl st QI := fun H σ ws R R' k => q H σ ws R _ fun xs cs1 vs H1 h1 l R1 => by
  show ZM.rZipM W.K vs H1 R'
  match xs, vs, l, h1, R1 with
  | [.d (.lst xs), .d (.lst ys)], [u, v], _, h1, R1 =>
    obtain ⟨as, R1⟩ := R1
    obtain ⟨a, us, rfl, h2, h3, h4, h5⟩ := RepA.seqL (ws := v :: ws) (st := .d (.lst ys) :: st) R1
    obtain ⟨b, vs, rfl, g2, g3, g4, g5⟩ := RepA.seqL (ws := ws) (st := st) (RepA.drop1 (ws := v :: ws) (st := .d (.lst ys) :: st) R1)
    refine ⟨_, _, _, _, rfl, .inl ⟨h2, g2, ?_⟩⟩
    refine (k _ anyc cs1 _ H1 [.ref a, .ref b] [.d (.lst xs), .d (.lst ys)] h1 trivial (by rw [zipD_len]; omega) rfl ⟨as, R1⟩ ⟨fun i H σ ws cs sl st R ok hi => ?_, fun H σ ws cs sl st R ok => ?_, fun i H x H' σ ws cs sl st R ok hi hy => ?_⟩)
    · obtain ⟨as, R⟩ := R
      obtain ⟨a', us, e, h2, h3, h4, h5⟩ := RepA.seqL (ws := .ref b :: ws) (st := .d (.lst ys) :: st) R
      cases e
      obtain ⟨b', vs, e, g2, g3, g4, g5⟩ := RepA.seqL (ws := ws) (st := st) (RepA.drop1 (ws := .ref b :: ws) (st := .d (.lst ys) :: st) R)
      cases e
      rw [zipD_len] at hi
      exact (walk_zip (xs := us) (ys := vs) rfl).goes i H (by omega) ⟨h2, g2⟩
    · obtain ⟨as, R⟩ := R
      obtain ⟨a', us, e, h2, h3, h4, h5⟩ := RepA.seqL (ws := .ref b :: ws) (st := .d (.lst ys) :: st) R
      cases e
      obtain ⟨b', vs, e, g2, g3, g4, g5⟩ := RepA.seqL (ws := ws) (st := st) (RepA.drop1 (ws := .ref b :: ws) (st := .d (.lst ys) :: st) R)
      cases e
      rw [zipD_len, ← h3, ← g3]
      exact (walk_zip (xs := us) (ys := vs) rfl).stops H ⟨h2, g2⟩
    · obtain ⟨as, R⟩ := R
      obtain ⟨a', us, e, h2, h3, h4, h5⟩ := RepA.seqL (ws := .ref b :: ws) (st := .d (.lst ys) :: st) R
      cases e
      obtain ⟨b', vs, e, g2, g3, g4, g5⟩ := RepA.seqL (ws := ws) (st := st) (RepA.drop1 (ws := .ref b :: ws) (st := .d (.lst ys) :: st) R)
      cases e
      rw [zipD_len] at hi
      obtain ⟨T, u, w, rfl, hT, rfl, hu, hw⟩ := (walk_zip (xs := us) (ys := vs) rfl).yields i H x H' (by omega) ⟨h2, g2⟩ hy
      obtain ⟨d, h6, h7⟩ := h5.getV hu
      obtain ⟨e, h8, h9⟩ := g5.getV hw
      exact ⟨_, zipD_at h6 h8, pair_new R hT h7 h9⟩
  | [.d (.lst xs), .d (.tup ys)], [u, v], _, h1, R1 =>
    obtain ⟨as, R1⟩ := R1
    obtain ⟨a, us, rfl, h2, h3, h4, h5⟩ := RepA.seqL (ws := v :: ws) (st := .d (.tup ys) :: st) R1
    obtain ⟨b, vs, rfl, g2, g3, g4, g5⟩ := RepA.seqT (ws := ws) (st := st) (RepA.drop1 (ws := v :: ws) (st := .d (.tup ys) :: st) R1)
    refine ⟨_, _, _, _, rfl, .inr ⟨h2, g2, ?_⟩⟩
    refine (k _ anyc cs1 _ H1 [.ref a, .ref b] [.d (.lst xs), .d (.tup ys)] h1 trivial (by rw [zipD_len]; omega) rfl ⟨as, R1⟩ ⟨fun i H σ ws cs sl st R ok hi => ?_, fun H σ ws cs sl st R ok => ?_, fun i H x H' σ ws cs sl st R ok hi hy => ?_⟩)
    · obtain ⟨as, R⟩ := R
      obtain ⟨a', us, e, h2, h3, h4, h5⟩ := RepA.seqL (ws := .ref b :: ws) (st := .d (.tup ys) :: st) R
      cases e
      obtain ⟨b', vs, e, g2, g3, g4, g5⟩ := RepA.seqT (ws := ws) (st := st) (RepA.drop1 (ws := .ref b :: ws) (st := .d (.tup ys) :: st) R)
      cases e
      rw [zipD_len] at hi
      exact (ZM.walk_zipM (xs := us) (ys := vs) rfl).goes i H (by omega) ⟨h2, g2⟩
    · obtain ⟨as, R⟩ := R
      obtain ⟨a', us, e, h2, h3, h4, h5⟩ := RepA.seqL (ws := .ref b :: ws) (st := .d (.tup ys) :: st) R
      cases e
      obtain ⟨b', vs, e, g2, g3, g4, g5⟩ := RepA.seqT (ws := ws) (st := st) (RepA.drop1 (ws := .ref b :: ws) (st := .d (.tup ys) :: st) R)
      cases e
      rw [zipD_len, ← h3, ← g3]
      exact (ZM.walk_zipM (xs := us) (ys := vs) rfl).stops H ⟨h2, g2⟩
    · obtain ⟨as, R⟩ := R
      obtain ⟨a', us, e, h2, h3, h4, h5⟩ := RepA.seqL (ws := .ref b :: ws) (st := .d (.tup ys) :: st) R
      cases e
      obtain ⟨b', vs, e, g2, g3, g4, g5⟩ := RepA.seqT (ws := ws) (st := st) (RepA.drop1 (ws := .ref b :: ws) (st := .d (.tup ys) :: st) R)
      cases e
      rw [zipD_len] at hi
      obtain ⟨T, u, w, rfl, hT, rfl, hu, hw⟩ := (ZM.walk_zipM (xs := us) (ys := vs) rfl).yields i H x H' (by omega) ⟨h2, g2⟩ hy
      obtain ⟨d, h6, h7⟩ := h5.getV hu
      obtain ⟨e, h8, h9⟩ := g5.getV hw
      exact ⟨_, zipD_at h6 h8, pair_new R hT h7 h9⟩
end
end R

/-! # DT: dicts whose keys are tuples of numbers -/
namespace R
open PySem PySem.Spec PyProof.Rows L2 L2H LamX
/-- {k: v}, k a tuple -/
def tDisp1T (tk tv : TE) : TE := fun σ H Q => ∀ p, H p = none → tk σ (upd H p (.dT [])) fun x H1 => tv σ H1 fun y H2 => H2 p = some (.dT []) ∧ ∃ (b : Addr) (k : List Key), x = .ref b ∧ b ≠ p ∧ H2 b = some (.tup (k.map kV)) ∧ Q (.ref p) (upd H2 p (.dT [(k, y)]))
theorem pe_disp1T {X : Cx} {ek ev : Expr} {pos : Pos} {tk tv : TE} (hu : X.A.units + 1 < cLine) (hk : PE X ek tk) (hv : PE X ev tv) : PE X (.Dict [some ek] [ev] pos) (tDisp1T tk tv) := by
  refine ⟨fun pins s σ H Q I q => ?_⟩
  have hn := I.hok.fresh (Nat.le_refl s.heap.objs.size)
  have I1 := I.laid (a := s.heap.objs.size) (o := .dT []) (h' := s.heap.push { cls := .type "dict", data := .dict #[] }) (t' := s.toks) (fun _ _ q => Heap.get?_push_of_some _ q) (Nat.le_refl _) (dt_empty s.heap I.big)
  rw [arm_eval_Dict, zip_pairTrees [some ek] [ev] X.env pos rfl rfl, dictDisplay_pairs _ (by intro h; cases h) (by show 1 < 17; decide)]
  refine wpAny_bind (wpAny_standAt (wpAny_bind (wpAny_subDictH (knd := tupleKind (mixKind X.prog X.w)) (show X.A.units < cLine by omega) (by show 1 ≤ 15; decide) ?_)))
  refine pairTrees_cons_walk (thn (hk.run pins _ σ _ _ I1 (q _ hn)) fun u s1 ⟨x, H1, I2, rx, q1⟩ => thn (hv.run pins s1 σ H1 _ I2 q1) fun v s2 ⟨y, H2, I3, ry, e, b, k, ex, hbp, hb, q2⟩ => pairTrees_nil_walk ?_)
  subst ex
  cases rx
  obtain ⟨z, hd, xs0, r0, dd⟩ := dt_of I3.hok e
  cases r0
  refine ⟨[(k, b, v)], ⟨rfl, rfl, key_of I3.hok hb, trivial⟩, dd, fun h' tk' dd' hs => wpAny_pure ⟨.ref s.heap.objs.size, _, ?_, rfl, q2⟩⟩
  obtain ⟨o, es, ep, ho, hc, hdat, he, his, hnd⟩ := dd'
  refine d_write I3 (by rw [e]; exact True.intro) hs ⟨o, ho⟩ ⟨show 1 ≤ sizeLine by (rw [sizeLine_eq]; decide), hd, [(k, b, v)], ?_, o, es, ep, ho, hc, hdat, he, hnd⟩
  exact .cons ⟨rfl, (upd_ne hbp).trans hb, ry⟩ .nil
/-- the readings of a dict with such keys, under names of their own -/
def tDGetT (td ty : TE) : TE := tDGet td ty
def tDNotInT (ty td : TE) : TE := tDNotIn ty td
def tDInT (ty td : TE) : TE := tDIn ty td
def sDPutT (td ty tv : TE) : TS := sDPut td ty tv
section
variable {K : PySem.W.Frag} {C : Addr} {av : Addr → Prop} {H : Hp}
/-- a tuple of numbers that is no constant, as a key -/
theorem Dv.key {v : V} {ns : List Int} (h : Dv K C av H v (.tup (ns.map D.int))) (hn : ns ≠ [2, 3, 5]) : ∃ b, v = .ref b ∧ H b = some (.tup ((ns.map (Sum.inl : Int → Key)).map kV)) := by
  generalize hd : D.tup (ns.map D.int) = d at h
  cases h with
  | tup h1 h2 h3 h4 =>
    cases hd
    rw [DvAll.ints h4] at h1
    refine ⟨_, rfl, ?_⟩
    rw [List.map_map]
    exact h1
  | ktup h1 h3 h4 =>
    have e : ns.map D.int = ([2, 3, 5] : List Int).map D.int := D.tup.inj hd
    exact absurd (List.map_inj_right (fun x y e => D.int.inj e) |>.mp e) hn
  | _ => cases hd
end
section
variable {W : Wo} {cs : Cs} {sl : Sl} {st : List Sd} {Q : Sd → Cs → Prop} {F : DE}
def keyL (ns : List Int) : List Key := ns.map Sum.inl
theorem RepA.dt {as : List Addr} {H : Hp} {σ : L2.St} {v : V} {ws : List V} {i : Nat} {kvs : List (List Key × D)} (R : RepA W as H σ (v :: ws) cs sl (.c i :: st)) (h : cs[i]? = some (some (.dt kvs))) : ∃ a vs, v = .ref a ∧ as[i]? = some a ∧ H a = some (.dT vs) ∧ DvK W.K W.C (Av W as cs) H vs kvs := by
  obtain ⟨a, ha, e⟩ := R.st.1
  obtain ⟨o, ho, hc⟩ := R.cells i a _ ha h
  cases o with
  | dT vs => exact ⟨a, vs, e, ha, ho, hc⟩
  | _ => exact hc.elim
def DgKT (cs : Cs) (P : D → Prop) (x y : Sd) : Prop := ∃ (i : Nat) (ns : List Int) (kvs : List (List Key × D)) (d : D), x = .c i ∧ y = .d (.tup (ns.map D.int)) ∧ ns ≠ [2, 3, 5] ∧ cs[i]? = some (some (.dt kvs)) ∧ lkD kvs (keyL ns) = some d ∧ P d
theorem w_dgetT {td ty : TE} (q : wE W td cs sl st fun x cs1 => wE W ty cs1 sl (x :: st) fun y cs2 => DgKT cs2 (fun d => Q (.d d) cs2) x y) : wE W (tDGetT td ty) cs sl st Q := fun H σ ws R Q' k => q H σ ws R _ fun x cs1 v H1 h1 R1 => h1 H1 σ (v :: ws) R1 _ fun y cs2 u H2 h2 R2 => by
  obtain ⟨i, ns, kvs, d, rfl, rfl, hns, hi, hk, hq⟩ := h2
  obtain ⟨as, R2⟩ := R2
  obtain ⟨b, rfl, hb⟩ := Dv.key R2.st.1 hns
  obtain ⟨a, vs, rfl, ha, ho, hv⟩ := R2.drop1.dt hi
  rcases hv.lk (keyL ns) with ⟨_, e⟩ | ⟨w, d', e1, e2, e3⟩
  · rw [hk] at e
    cases e
  · rw [hk] at e2
    cases e2
    refine ⟨a, w, rfl, ?_, k _ _ _ _ hq ⟨as, R2.drop1.drop1.one e3⟩⟩
    rw [← e1]
    exact DGet.t ho hb
def DnKT (cs : Cs) (P : Bool → Prop) (x y : Sd) : Prop := ∃ (i : Nat) (ns : List Int) (kvs : List (List Key × D)), x = .c i ∧ y = .d (.tup (ns.map D.int)) ∧ ns ≠ [2, 3, 5] ∧ cs[i]? = some (some (.dt kvs)) ∧ P (lkD kvs (keyL ns)).isSome
theorem w_dninT {td ty : TE} (q : wE W ty cs sl st fun y cs1 => wE W td cs1 sl (y :: st) fun x cs2 => DnKT cs2 (fun b => Q (.d (.bl (!b))) cs2) x y) : wE W (tDNotInT ty td) cs sl st Q := fun H σ ws R Q' k => q H σ ws R _ fun y cs1 v H1 h1 R1 => h1 H1 σ (v :: ws) R1 _ fun x cs2 u H2 h2 R2 => by
  obtain ⟨i, ns, kvs, rfl, rfl, hns, hi, hq⟩ := h2
  obtain ⟨as, R2⟩ := R2
  obtain ⟨a, vs, rfl, ha, ho, hv⟩ := R2.dt hi
  obtain ⟨b, rfl, hb⟩ := Dv.key R2.drop1.st.1 hns
  refine ⟨a, valV vs (keyL ns), rfl, DGet.t ho hb, ?_⟩
  rcases hv.lk (keyL ns) with ⟨e1, e2⟩ | ⟨w, d', e1, e2, e3⟩
  · rw [e2] at hq
    rw [e1]
    exact k _ _ _ _ hq ⟨as, R2.drop1.drop1.one (.bl _)⟩
  · rw [e2] at hq
    rw [e1]
    exact k _ _ _ _ hq ⟨as, R2.drop1.drop1.one (.bl _)⟩
def DpKT (cs : Cs) (P : Cs → Prop) (v x y : Sd) : Prop := ∃ (i : Nat) (ns : List Int) (kvs : List (List Key × D)) (d : D), v = .d d ∧ x = .c i ∧ y = .d (.tup (ns.map D.int)) ∧ ns ≠ [2, 3, 5] ∧ cs[i]? = some (some (.dt kvs)) ∧ kvs.length < 900000 ∧ P (cs.set i (some (.dt (putD kvs (keyL ns) d))))
theorem w_dputT {td ty tv : TE} (q : wE W tv cs sl st fun v cs1 => wE W td cs1 sl (v :: st) fun x cs2 => wE W ty cs2 sl (x :: v :: st) fun y cs3 => DpKT cs3 (fun cs4 => F.nx cs4 sl) v x y) : wS W (sDPutT td ty tv) cs sl st F := fun H σ ws R De k => q H σ ws R _ fun v cs1 vv H1 h1 R1 => h1 H1 σ (vv :: ws) R1 _ fun x cs2 vx H2 h2 R2 => h2 H2 σ (vx :: vv :: ws) R2 _ fun y cs3 vy H3 h3 R3 => by
  obtain ⟨i, ns, kvs, d, rfl, rfl, rfl, hns, hi, hl, hq⟩ := h3
  obtain ⟨as, R3⟩ := R3
  obtain ⟨b, rfl, hb⟩ := Dv.key R3.st.1 hns
  obtain ⟨a, vs, rfl, ha, ho, hv⟩ := R3.drop1.dt hi
  have hd := R3.drop1.drop1.st.1
  have hlen := hv.len
  refine ⟨a, _, rfl, DPut.t ho hb (sz_lt (by omega)), k.nx _ _ _ _ hq ⟨as, ?_⟩⟩
  exact (R3.drop1.drop1.drop1).setc (c := .dt (putD kvs (keyL ns) d)) (o := .dT (putK vs (keyL ns) vv)) ha hi (DvK.put (κ := List Key) (keyL ns) hd hv)
/-- len of such a dict -/
theorem o_lenDT {i : Nat} {kvs : List (List Key × D)} {Q : Sd → Cs → Prop} (h : cs[i]? = some (some (.dt kvs))) (q : Q (.d (.int ((kvs.length : Nat) : Int))) cs) : wC W rLenT [.c i] cs sl st Q := fun H σ vs ws l R Q' k => by
  match vs, l, R with
  | [v], _, R =>
    obtain ⟨as, R⟩ := R
    obtain ⟨a, us, rfl, ha, ho, hv⟩ := RepA.dt (st := st) (ws := ws) R h
    have hlen := hv.len
    refine ⟨a, us, rfl, ho, ?_⟩
    rw [hlen]
    exact k _ _ _ _ q ⟨as, (RepA.drop1 (ws := ws) (st := st) R).one (.int _)⟩
theorem new_dt {H : Hp} {σ : L2.St} {ws : List V} {p : Addr} (R : Rep W H σ ws cs sl st) (n : H p = none) : Rep W (upd H p (.dT [])) σ (.ref p :: ws) (cs ++ [some (.dt [])]) sl (.c cs.length :: st) := by
  obtain ⟨as, R⟩ := R
  have Rg := R.grow n (o := .dT []) (c := .dt []) trivial
  exact ⟨as ++ [p], Rg.st' ⟨⟨p, by rw [← R.len]; simp, rfl⟩, Rg.st⟩⟩
/-- {k: v} -/
def D1KT (cs : Cs) (Q : Sd → Cs → Prop) (cs3 : Cs) (x y : Sd) : Prop := ∃ (ns : List Int) (d : D), x = .d (.tup (ns.map D.int)) ∧ ns ≠ [2, 3, 5] ∧ y = .d d ∧ cs3 = cs ++ [some (.dt [])] ∧ Q (.c cs.length) (cs ++ [some (.dt [(keyL ns, d)])])
theorem w_disp1T {tk tv : TE} (q : wE W tk (cs ++ [some (.dt [])]) sl (.c cs.length :: st) fun x cs2 => wE W tv cs2 sl (x :: .c cs.length :: st) fun y cs3 => D1KT cs Q cs3 x y) : wE W (tDisp1T tk tv) cs sl st Q := fun H σ ws R Q' k => by
  intro p hp
  refine q _ σ (.ref p :: ws) (new_dt R hp) _ fun x cs2 v H2 h2 R2 => h2 H2 σ (v :: .ref p :: ws) R2 _ fun y cs3 u H3 h3 R3 => ?_
  obtain ⟨ns, d, rfl, hns, rfl, rfl, hq⟩ := h3
  obtain ⟨as, R3⟩ := R3
  have R4 := R3.drop1
  obtain ⟨b, rfl, hb⟩ := Dv.key R4.st.1 hns
  have hx : (cs ++ [some (Cell.dt [])])[cs.length]? = some (some (.dt [])) := by simp
  obtain ⟨a, vs, ea, ha, ho, hv⟩ := R4.drop1.dt hx
  cases ea
  have hvs : vs = [] := by
    cases vs with
    | nil => rfl
    | cons _ _ => exact hv.elim
  subst hvs
  refine ⟨ho, b, keyL ns, rfl, fun e => ?_, hb, k _ _ _ _ hq ⟨as, ?_⟩⟩
  · subst e
    rw [ho] at hb
    cases hb
  have R5 := (R4.drop1).setc (c := .dt [(keyL ns, d)]) (o := .dT [(keyL ns, u)]) ha hx ⟨rfl, R3.st.1, trivial⟩
  have e : (cs ++ [some (Cell.dt [])]).set cs.length (some (.dt [(keyL ns, d)])) = cs ++ [some (.dt [(keyL ns, d)])] := by simp
  rw [e] at R5
  exact R5
end
section
variable {X : Cx} {o i value : Expr} {pos pos' : Pos} {td ty tv : TE}
theorem pe_dgetT (hu : X.A.units + 1 < cLine) (ho : PE X o td) (hi : PE X i ty) (hs : NoSl i) : PE X (.Subscript o i pos) (tDGetT td ty) := pe_dget hu ho hi hs
theorem pc_dinT (hu : X.A.units + 1 < cLine) (hi : PE X i ty) (ho : PE X o td) : PC X .In i o (tDInT ty td) := pc_din hu hi ho
theorem pc_dninT (hu : X.A.units + 1 < cLine) (hi : PE X i ty) (ho : PE X o td) : PC X .NotIn i o (tDNotInT ty td) := pc_dnotin hu hi ho
theorem ps_dputT (hu : X.A.units + 1 < cLine) (ho : PE X o td) (hi : PE X i ty) (hv : PE X value tv) (hs : swapsWith value (some (.Subscript o i pos')) pos.line X.env = pure false) : PS X (.Assign [.Subscript o i pos'] value pos) (sDPutT td ty tv) := ps_dput hu ho hi hv hs
end
end R

/-! the text by places -/
namespace R
open PySem PySem.Spec PyProof.Rows L2
def top (i : Nat) : Stmt := PySem.Challenge.pw_rowring_k53_invalid_texts_of_definitions.main.body.getD i (.Pass ⟨0, 0, 0, 0⟩)
abbrev s_check_modulus : Stmt := top 10
abbrev N_check_modulus : List Str := ["modulus"]
abbrev P_check_modulus : List Str := ["modulus"]
abbrev s_common_divisor : Stmt := top 11
abbrev N_common_divisor : List Str := ["one", "other"]
abbrev P_common_divisor : List Str := ["one", "other"]
abbrev s_is_fraction : Stmt := top 12
abbrev N_is_fraction : List Str := ["pair", "above", "below"]
abbrev P_is_fraction : List Str := ["pair"]
abbrev s_is_linear : Stmt := top 14
abbrev N_is_linear : List Str := ["factor", "offset", "modulus"]
abbrev P_is_linear : List Str := ["factor", "offset", "modulus"]
abbrev s_char_at : Stmt := top 22
abbrev N_char_at : List Str := ["text", "position"]
abbrev P_char_at : List Str := ["text", "position"]
abbrev s_expect : Stmt := top 23
abbrev N_expect : List Str := ["text", "position", "word", "char"]
abbrev P_expect : List Str := ["text", "position", "word"]
abbrev s_scan : Stmt := top 24
abbrev N_scan : List Str := ["text", "position", "chars", "limit", "end"]
abbrev P_scan : List Str := ["text", "position", "chars", "limit"]
abbrev s_scan_natural : Stmt := top 25
abbrev N_scan_natural : List Str := ["text", "position", "limit"]
abbrev P_scan_natural : List Str := ["text", "position", "limit"]
abbrev s_scan_fraction : Stmt := top 26
abbrev N_scan_fraction : List Str := ["text", "position", "negative", "end", "above", "last", "below"]
abbrev P_scan_fraction : List Str := ["text", "position", "negative"]
abbrev s_parse_cell : Stmt := top 27
abbrev N_parse_cell : List Str := ["text", "modulus", "position", "references", "word", "end"]
abbrev P_parse_cell : List Str := ["text", "modulus"]
abbrev s_parse_linear : Stmt := top 28
abbrev N_parse_linear : List Str := ["text", "negative", "factor", "position", "offset", "end"]
abbrev P_parse_linear : List Str := ["text"]
abbrev s_parse_exponent : Stmt := top 29
abbrev N_parse_exponent : List Str := ["text", "position", "begin", "end"]
abbrev P_parse_exponent : List Str := ["text", "position"]
abbrev s_parse_product : Stmt := top 30
abbrev N_parse_product : List Str := ["text", "position", "factors", "end", "reference", "exponent"]
abbrev P_parse_product : List Str := ["text"]
abbrev s_parse_definition : Stmt := top 31
abbrev N_parse_definition : List Str := ["text", "modulus", "definition", "end"]
abbrev P_parse_definition : List Str := ["text", "modulus"]
abbrev s_source : Stmt := top 33
abbrev N_source : List Str := ["_law_script", "_law_seed", "_law_cell"]
abbrev P_source : List Str := ["_law_script"]
abbrev s_draw : Stmt := top 34
abbrev N_draw : List Str := ["_law_rng", "_law_many", "_law_cell", "_law_got", "_law_seed"]
abbrev P_draw : List Str := ["_law_rng", "_law_many"]
abbrev s_pick : Stmt := top 35
abbrev N_pick : List Str := ["_law_rng", "_law_items"]
abbrev P_pick : List Str := ["_law_rng", "_law_items"]
abbrev s_same : Stmt := top 36
abbrev N_same : List Str := ["_law_found", "_law_due_here", "_law_one", "_law_other"]
abbrev P_same : List Str := ["_law_found", "_law_due_here"]
abbrev s_field : Stmt := top 37
abbrev N_field : List Str := ["_law_e"]
abbrev P_field : List Str := ["_law_e"]
abbrev s_outcome : Stmt := top 38
abbrev N_outcome : List Str := ["_law_ask", "_law_e"]
abbrev P_outcome : List Str := ["_law_ask"]
abbrev s_modulus : Stmt := top 39
abbrev N_modulus : List Str := ["_law_rng"]
abbrev P_modulus : List Str := ["_law_rng"]
abbrev s_gcd : Stmt := top 40
abbrev N_gcd : List Str := ["_law_one", "_law_other"]
abbrev P_gcd : List Str := ["_law_one", "_law_other"]
abbrev s_lowest : Stmt := top 41
abbrev N_lowest : List Str := ["_law_above", "_law_below", "_law_big"]
abbrev P_lowest : List Str := ["_law_above", "_law_below"]
abbrev s_l_is_fraction : Stmt := top 42
abbrev N_l_is_fraction : List Str := ["_law_pair"]
abbrev P_l_is_fraction : List Str := ["_law_pair"]
abbrev s_linear : Stmt := top 43
abbrev N_linear : List Str := ["_law_rng", "_law_p", "_law_below", "_law_k", "_law_low", "_law_factor"]
abbrev P_linear : List Str := ["_law_rng", "_law_p"]
abbrev s_letters : Stmt := top 44
abbrev N_letters : List Str := []
abbrev P_letters : List Str := []
abbrev s_names : Stmt := top 45
abbrev N_names : List Str := ["_law_rng", "_law_many", "_law_width", "_law_step", "_law_lead", "_law_at_here", "_law_base", "_law_k", "_law_result", "_law_sign_at", "_law_name"]
abbrev P_names : List Str := ["_law_rng", "_law_many"]
abbrev s_product_exponent : Stmt := top 46
abbrev N_product_exponent : List Str := ["_law_rng", "_law_far"]
abbrev P_product_exponent : List Str := ["_law_rng"]
abbrev s_definition : Stmt := top 47
abbrev N_definition : List Str := ["_law_rng", "_law_p", "_law_names_here", "_law_way", "_law_references", "_law_digit", "_law_factor", "_law_offset", "_law_factors", "_law_count", "_law_k", "_law_times"]
abbrev P_definition : List Str := ["_law_rng", "_law_p", "_law_names_here"]
abbrev s_fraction_text : Stmt := top 48
abbrev N_fraction_text : List Str := ["_law_pair"]
abbrev P_fraction_text : List Str := ["_law_pair"]
abbrev s_definition_text : Stmt := top 49
abbrev N_definition_text : List Str := ["_law_definition_here", "_law_words", "_law_reference_here", "_law_times", "_law_above", "_law_below", "_law_head"]
abbrev P_definition_text : List Str := ["_law_definition_here"]
abbrev s_allows : Stmt := top 50
abbrev N_allows : List Str := ["_law_factor", "_law_offset", "_law_p", "_law_good"]
abbrev P_allows : List Str := ["_law_factor", "_law_offset", "_law_p"]
abbrev s_at_ : Stmt := top 51
abbrev N_at_ : List Str := ["_law_text", "_law_k"]
abbrev P_at_ : List Str := ["_law_text", "_law_k"]
abbrev s_skip : Stmt := top 52
abbrev N_skip : List Str := ["_law_text", "_law_k", "_law_signs", "_law_most"]
abbrev P_skip : List Str := ["_law_text", "_law_k", "_law_signs", "_law_most"]
abbrev s_word : Stmt := top 53
abbrev N_word : List Str := ["_law_text", "_law_k", "_law_word_here", "_law_char"]
abbrev P_word : List Str := ["_law_text", "_law_k", "_law_word_here"]
abbrev s_reference : Stmt := top 54
abbrev N_reference : List Str := ["_law_text", "_law_k", "_law_end"]
abbrev P_reference : List Str := ["_law_text", "_law_k"]
abbrev s_natural : Stmt := top 55
abbrev N_natural : List Str := ["_law_text", "_law_k", "_law_most", "_law_end"]
abbrev P_natural : List Str := ["_law_text", "_law_k", "_law_most"]
abbrev s_pair_of : Stmt := top 56
abbrev N_pair_of : List Str := ["_law_text", "_law_k", "_law_minus", "_law_end", "_law_good", "_law_above", "_law_last", "_law_below"]
abbrev P_pair_of : List Str := ["_law_text", "_law_k", "_law_minus"]
abbrev s_cell_due : Stmt := top 57
abbrev N_cell_due : List Str := ["_law_text", "_law_p", "_law_k", "_law_references", "_law_turn", "_law_good", "_law_end", "_law_more"]
abbrev P_cell_due : List Str := ["_law_text", "_law_p"]
abbrev s_linear_due : Stmt := top 58
abbrev N_linear_due : List Str := ["_law_text", "_law_minus", "_law_k", "_law_good", "_law_factor", "_law_end", "_law_offset"]
abbrev P_linear_due : List Str := ["_law_text"]
abbrev s_product_due : Stmt := top 59
abbrev N_product_due : List Str := ["_law_text", "_law_k", "_law_factors", "_law_end", "_law_good", "_law_reference_here", "_law_times", "_law_begin"]
abbrev P_product_due : List Str := ["_law_text"]
abbrev s_due : Stmt := top 60
abbrev N_due : List Str := ["_law_text", "_law_p", "_law_k", "_law_definition_here"]
abbrev P_due : List Str := ["_law_text", "_law_p"]
abbrev s_altered : Stmt := top 61
abbrev N_altered : List Str := ["_law_rng", "_law_text", "_law_signs", "_law_at_here", "_law_char"]
abbrev P_altered : List Str := ["_law_rng", "_law_text"]
abbrev s_law : Stmt := top 62
abbrev N_law : List Str := ["_law_script", "_law_rng", "_law_fixed", "_law_texts", "_law_k", "_law_p", "_law_turn", "_law_text", "_law_step", "_law_told"]
abbrev P_law : List Str := ["_law_script"]
theorem sc_check_modulus : FnScope N_check_modulus P_check_modulus (defScope s_check_modulus) := ⟨rfl, rfl, rfl, by decide +kernel, rfl, by decide +kernel, by decide +kernel⟩
theorem sc_common_divisor : FnScope N_common_divisor P_common_divisor (defScope s_common_divisor) := ⟨rfl, rfl, rfl, by decide +kernel, rfl, by decide +kernel, by decide +kernel⟩
theorem sc_is_fraction : FnScope N_is_fraction P_is_fraction (defScope s_is_fraction) := ⟨rfl, rfl, rfl, by decide +kernel, rfl, by decide +kernel, by decide +kernel⟩
theorem sc_is_linear : FnScope N_is_linear P_is_linear (defScope s_is_linear) := ⟨rfl, rfl, rfl, by decide +kernel, rfl, by decide +kernel, by decide +kernel⟩
theorem sc_char_at : FnScope N_char_at P_char_at (defScope s_char_at) := ⟨rfl, rfl, rfl, by decide +kernel, rfl, by decide +kernel, by decide +kernel⟩
theorem sc_expect : FnScope N_expect P_expect (defScope s_expect) := ⟨rfl, rfl, rfl, by decide +kernel, rfl, by decide +kernel, by decide +kernel⟩
theorem sc_scan : FnScope N_scan P_scan (defScope s_scan) := ⟨rfl, rfl, rfl, by decide +kernel, rfl, by decide +kernel, by decide +kernel⟩
theorem sc_scan_natural : FnScope N_scan_natural P_scan_natural (defScope s_scan_natural) := ⟨rfl, rfl, rfl, by decide +kernel, rfl, by decide +kernel, by decide +kernel⟩
theorem sc_scan_fraction : FnScope N_scan_fraction P_scan_fraction (defScope s_scan_fraction) := ⟨rfl, rfl, rfl, by decide +kernel, rfl, by decide +kernel, by decide +kernel⟩
theorem sc_parse_cell : FnScope N_parse_cell P_parse_cell (defScope s_parse_cell) := ⟨rfl, rfl, rfl, by decide +kernel, rfl, by decide +kernel, by decide +kernel⟩
theorem sc_parse_linear : FnScope N_parse_linear P_parse_linear (defScope s_parse_linear) := ⟨rfl, rfl, rfl, by decide +kernel, rfl, by decide +kernel, by decide +kernel⟩
theorem sc_parse_exponent : FnScope N_parse_exponent P_parse_exponent (defScope s_parse_exponent) := ⟨rfl, rfl, rfl, by decide +kernel, rfl, by decide +kernel, by decide +kernel⟩
theorem sc_parse_product : FnScope N_parse_product P_parse_product (defScope s_parse_product) := ⟨rfl, rfl, rfl, by decide +kernel, rfl, by decide +kernel, by decide +kernel⟩
theorem sc_parse_definition : FnScope N_parse_definition P_parse_definition (defScope s_parse_definition) := ⟨rfl, rfl, rfl, by decide +kernel, rfl, by decide +kernel, by decide +kernel⟩
theorem sc_source : FnScope N_source P_source (defScope s_source) := ⟨rfl, rfl, rfl, by decide +kernel, rfl, by decide +kernel, by decide +kernel⟩
theorem sc_draw : FnScope N_draw P_draw (defScope s_draw) := ⟨rfl, rfl, rfl, by decide +kernel, rfl, by decide +kernel, by decide +kernel⟩
theorem sc_pick : FnScope N_pick P_pick (defScope s_pick) := ⟨rfl, rfl, rfl, by decide +kernel, rfl, by decide +kernel, by decide +kernel⟩
theorem sc_same : FnScope N_same P_same (defScope s_same) := ⟨rfl, rfl, rfl, by decide +kernel, rfl, by decide +kernel, by decide +kernel⟩
theorem sc_field : FnScope N_field P_field (defScope s_field) := ⟨rfl, rfl, rfl, by decide +kernel, rfl, by decide +kernel, by decide +kernel⟩
theorem sc_outcome : FnScope N_outcome P_outcome (defScope s_outcome) := ⟨rfl, rfl, rfl, by decide +kernel, rfl, by decide +kernel, by decide +kernel⟩
theorem sc_modulus : FnScope N_modulus P_modulus (defScope s_modulus) := ⟨rfl, rfl, rfl, by decide +kernel, rfl, by decide +kernel, by decide +kernel⟩
theorem sc_gcd : FnScope N_gcd P_gcd (defScope s_gcd) := ⟨rfl, rfl, rfl, by decide +kernel, rfl, by decide +kernel, by decide +kernel⟩
theorem sc_lowest : FnScope N_lowest P_lowest (defScope s_lowest) := ⟨rfl, rfl, rfl, by decide +kernel, rfl, by decide +kernel, by decide +kernel⟩
theorem sc_l_is_fraction : FnScope N_l_is_fraction P_l_is_fraction (defScope s_l_is_fraction) := ⟨rfl, rfl, rfl, by decide +kernel, rfl, by decide +kernel, by decide +kernel⟩
theorem sc_linear : FnScope N_linear P_linear (defScope s_linear) := ⟨rfl, rfl, rfl, by decide +kernel, rfl, by decide +kernel, by decide +kernel⟩
theorem sc_letters : FnScope N_letters P_letters (defScope s_letters) := ⟨rfl, rfl, rfl, by decide +kernel, rfl, by decide +kernel, by decide +kernel⟩
theorem sc_names : FnScope N_names P_names (defScope s_names) := ⟨rfl, rfl, rfl, by decide +kernel, rfl, by decide +kernel, by decide +kernel⟩
theorem sc_product_exponent : FnScope N_product_exponent P_product_exponent (defScope s_product_exponent) := ⟨rfl, rfl, rfl, by decide +kernel, rfl, by decide +kernel, by decide +kernel⟩
theorem sc_definition : FnScope N_definition P_definition (defScope s_definition) := ⟨rfl, rfl, rfl, by decide +kernel, rfl, by decide +kernel, by decide +kernel⟩
theorem sc_fraction_text : FnScope N_fraction_text P_fraction_text (defScope s_fraction_text) := ⟨rfl, rfl, rfl, by decide +kernel, rfl, by decide +kernel, by decide +kernel⟩
theorem sc_definition_text : FnScope N_definition_text P_definition_text (defScope s_definition_text) := ⟨rfl, rfl, rfl, by decide +kernel, rfl, by decide +kernel, by decide +kernel⟩
theorem sc_allows : FnScope N_allows P_allows (defScope s_allows) := ⟨rfl, rfl, rfl, by decide +kernel, rfl, by decide +kernel, by decide +kernel⟩
theorem sc_at_ : FnScope N_at_ P_at_ (defScope s_at_) := ⟨rfl, rfl, rfl, by decide +kernel, rfl, by decide +kernel, by decide +kernel⟩
theorem sc_skip : FnScope N_skip P_skip (defScope s_skip) := ⟨rfl, rfl, rfl, by decide +kernel, rfl, by decide +kernel, by decide +kernel⟩
theorem sc_word : FnScope N_word P_word (defScope s_word) := ⟨rfl, rfl, rfl, by decide +kernel, rfl, by decide +kernel, by decide +kernel⟩
theorem sc_reference : FnScope N_reference P_reference (defScope s_reference) := ⟨rfl, rfl, rfl, by decide +kernel, rfl, by decide +kernel, by decide +kernel⟩
theorem sc_natural : FnScope N_natural P_natural (defScope s_natural) := ⟨rfl, rfl, rfl, by decide +kernel, rfl, by decide +kernel, by decide +kernel⟩
theorem sc_pair_of : FnScope N_pair_of P_pair_of (defScope s_pair_of) := ⟨rfl, rfl, rfl, by decide +kernel, rfl, by decide +kernel, by decide +kernel⟩
theorem sc_cell_due : FnScope N_cell_due P_cell_due (defScope s_cell_due) := ⟨rfl, rfl, rfl, by decide +kernel, rfl, by decide +kernel, by decide +kernel⟩
theorem sc_linear_due : FnScope N_linear_due P_linear_due (defScope s_linear_due) := ⟨rfl, rfl, rfl, by decide +kernel, rfl, by decide +kernel, by decide +kernel⟩
theorem sc_product_due : FnScope N_product_due P_product_due (defScope s_product_due) := ⟨rfl, rfl, rfl, by decide +kernel, rfl, by decide +kernel, by decide +kernel⟩
theorem sc_due : FnScope N_due P_due (defScope s_due) := ⟨rfl, rfl, rfl, by decide +kernel, rfl, by decide +kernel, by decide +kernel⟩
theorem sc_altered : FnScope N_altered P_altered (defScope s_altered) := ⟨rfl, rfl, rfl, by decide +kernel, rfl, by decide +kernel, by decide +kernel⟩
theorem sc_law : FnScope N_law P_law (defScope s_law) := ⟨rfl, rfl, rfl, by decide +kernel, rfl, by decide +kernel, by decide +kernel⟩
structure Txt (K : PySem.W.Frag) (mg : Str → Option Value) where
  b_abs : mg "abs" = none
  b_all : mg "all" = none
  b_bool : mg "bool" = none
  b_int : mg "int" = none
  b_isinstance : mg "isinstance" = none
  b_len : mg "len" = none
  b_list : mg "list" = none
  b_range : mg "range" = none
  b_str : mg "str" = none
  b_tuple : mg "tuple" = none
  b_zip : mg "zip" = none
  a_MODULI : Addr
  c_MODULI : GV mg "MODULI" (.ref a_MODULI)
  t_MODULI : ∀ H, SqT K H a_MODULI [.int 2, .int 3, .int 5]
  c_MAX_FRACTION : GV mg "MAX_FRACTION" (.int (1000000))
  c_LETTERS : GV mg "LETTERS" (.str "abcdefghijklmnopqrstuvwxyz")
  c_DECIMALS : GV mg "DECIMALS" (.str "0123456789")
  c_MAX_NAME : GV mg "MAX_NAME" (.int 6)
  c_MAX_FIGURES : GV mg "MAX_FIGURES" (.int 6)
  c_MAX_EXPONENT_FIGURES : GV mg "MAX_EXPONENT_FIGURES" (.int 30)
  c_MAX_PRODUCT : GV mg "MAX_PRODUCT" (.int 12)
  e_InvalidModulus : EX K mg "InvalidModulus" "InvalidModulus.__init__" (top 2) ["self"]
  e_InvalidFraction : EX K mg "InvalidFraction" "InvalidFraction.__init__" (top 3) ["self"]
  e_InvalidText : EX K mg "InvalidText" "InvalidText.__init__" (top 4) ["self", "position"]
  x_RingError : Addr
  n_RingError : mg "RingError" = some (.ref x_RingError)
  x_UndefinedName : Addr
  n_UndefinedName : mg "UndefinedName" = some (.ref x_UndefinedName)
  x_EmptyHistory : Addr
  n_EmptyHistory : mg "EmptyHistory" = some (.ref x_EmptyHistory)
  h_InvalidModulus : PySem.W.exmAny K (.ref e_InvalidModulus.C) [.ref x_RingError, .ref x_UndefinedName, .ref x_EmptyHistory] = some true
  f_InvalidModulus : XfC K e_InvalidModulus.C
  h_InvalidFraction : PySem.W.exmAny K (.ref e_InvalidFraction.C) [.ref x_RingError, .ref x_UndefinedName, .ref x_EmptyHistory] = some true
  f_InvalidFraction : XfC K e_InvalidFraction.C
  h_InvalidText : PySem.W.exmAny K (.ref e_InvalidText.C) [.ref x_RingError, .ref x_UndefinedName, .ref x_EmptyHistory] = some true
  f_InvalidText : XfC K e_InvalidText.C
  check_modulus : DF K mg "check_modulus" s_check_modulus P_check_modulus
  common_divisor : DF K mg "common_divisor" s_common_divisor P_common_divisor
  is_fraction : DF K mg "is_fraction" s_is_fraction P_is_fraction
  is_linear : DF K mg "is_linear" s_is_linear P_is_linear
  char_at : DF K mg "char_at" s_char_at P_char_at
  expect : DF K mg "expect" s_expect P_expect
  scan : DF K mg "scan" s_scan P_scan
  scan_natural : DF K mg "scan_natural" s_scan_natural P_scan_natural
  scan_fraction : DF K mg "scan_fraction" s_scan_fraction P_scan_fraction
  parse_cell : DF K mg "parse_cell" s_parse_cell P_parse_cell
  parse_linear : DF K mg "parse_linear" s_parse_linear P_parse_linear
  parse_exponent : DF K mg "parse_exponent" s_parse_exponent P_parse_exponent
  parse_product : DF K mg "parse_product" s_parse_product P_parse_product
  parse_definition : DK K mg "parse_definition" s_parse_definition P_parse_definition 1 [("modulus", .int 2)]
  source : DF K mg "_law_source" s_source P_source
  draw : DF K mg "_law_draw" s_draw P_draw
  pick : DF K mg "_law_pick" s_pick P_pick
  same : DF K mg "_law_same" s_same P_same
  field : DF K mg "_law_field" s_field P_field
  outcome : DF K mg "_law_outcome" s_outcome P_outcome
  modulus : DF K mg "_law_modulus" s_modulus P_modulus
  gcd : DF K mg "_law_gcd" s_gcd P_gcd
  lowest : DF K mg "_law_lowest" s_lowest P_lowest
  l_is_fraction : DF K mg "_law_is_fraction" s_l_is_fraction P_l_is_fraction
  linear : DF K mg "_law_linear" s_linear P_linear
  letters : DF K mg "_law_letters" s_letters P_letters
  names : DF K mg "_law_names" s_names P_names
  product_exponent : DF K mg "_law_product_exponent" s_product_exponent P_product_exponent
  definition : DF K mg "_law_definition" s_definition P_definition
  fraction_text : DF K mg "_law_fraction_text" s_fraction_text P_fraction_text
  definition_text : DF K mg "_law_definition_text" s_definition_text P_definition_text
  allows : DF K mg "_law_allows" s_allows P_allows
  at_ : DF K mg "_law_at" s_at_ P_at_
  skip : DF K mg "_law_skip" s_skip P_skip
  word : DF K mg "_law_word" s_word P_word
  reference : DF K mg "_law_reference" s_reference P_reference
  natural : DF K mg "_law_natural" s_natural P_natural
  pair_of : DF K mg "_law_pair_of" s_pair_of P_pair_of
  cell_due : DF K mg "_law_cell_due" s_cell_due P_cell_due
  linear_due : DF K mg "_law_linear_due" s_linear_due P_linear_due
  product_due : DF K mg "_law_product_due" s_product_due P_product_due
  due : DF K mg "_law_due" s_due P_due
  altered : DF K mg "_law_altered" s_altered P_altered
  law : DF K mg "law" s_law P_law
abbrev Txt.mC {K : PySem.W.Frag} {mg : Str → Option Value} (T : Txt K mg) : Addr := 0
end R

/-! the errors of the text -/
namespace R
open PySem PySem.Spec PyProof.Rows L2
section
variable {P : Program} {w : World} {K : PySem.W.Frag} {mg : Str → Option Value} {base : Heap}
theorem sci_InvalidModulus : FnScope ["self"] ["self"] (defScope (inClass (top 2) 0)) := ⟨rfl, rfl, rfl, by decide +kernel, rfl, by decide +kernel, by decide +kernel⟩
abbrev sp_InvalidModulus (T : Txt K mg) : Sp := spErr T.e_InvalidModulus.C (fun ws => [("tag", .str "InvalidModulus")]) 0
theorem ei_InvalidModulus (T : Txt K mg) : FnOk P w K mg base (L2.CX P w) 1 T.e_InvalidModulus.fI T.e_InvalidModulus.fd ["self"] (sp_InvalidModulus T) := by
  refine T.e_InvalidModulus.F.okX sci_InvalidModulus (fun vs H Q E h => ?_) (fun cdv A outer s H vs Q E hr h => ?_)
  · obtain ⟨a, ws, rfl, hn, _⟩ := h
    show ws.length + 1 = 1
    omega
  · obtain ⟨a, ws, rfl, hn, ha, k⟩ := h
    obtain rfl : ws = [] := List.length_eq_zero_iff.mp hn
    refine ⟨_, pss_one (ps_ost (pv 0) pe_str), ?_⟩
    refine ⟨_, rfl, ei_end (C := T.e_InvalidModulus.C) (Q := Q) T.e_InvalidModulus.cls (T.e_InvalidModulus.no _ (by decide +kernel)) ha fun dx nd ne => ?_⟩
    exact k dx _ nd upd_same ((upd_ne ne).trans upd_same) fun b o e nb => (upd_ne nb).trans ((upd_ne (ne_of_none e nd)).trans e)
theorem sci_InvalidFraction : FnScope ["self"] ["self"] (defScope (inClass (top 3) 0)) := ⟨rfl, rfl, rfl, by decide +kernel, rfl, by decide +kernel, by decide +kernel⟩
abbrev sp_InvalidFraction (T : Txt K mg) : Sp := spErr T.e_InvalidFraction.C (fun ws => [("tag", .str "InvalidFraction")]) 0
theorem ei_InvalidFraction (T : Txt K mg) : FnOk P w K mg base (L2.CX P w) 1 T.e_InvalidFraction.fI T.e_InvalidFraction.fd ["self"] (sp_InvalidFraction T) := by
  refine T.e_InvalidFraction.F.okX sci_InvalidFraction (fun vs H Q E h => ?_) (fun cdv A outer s H vs Q E hr h => ?_)
  · obtain ⟨a, ws, rfl, hn, _⟩ := h
    show ws.length + 1 = 1
    omega
  · obtain ⟨a, ws, rfl, hn, ha, k⟩ := h
    obtain rfl : ws = [] := List.length_eq_zero_iff.mp hn
    refine ⟨_, pss_one (ps_ost (pv 0) pe_str), ?_⟩
    refine ⟨_, rfl, ei_end (C := T.e_InvalidFraction.C) (Q := Q) T.e_InvalidFraction.cls (T.e_InvalidFraction.no _ (by decide +kernel)) ha fun dx nd ne => ?_⟩
    exact k dx _ nd upd_same ((upd_ne ne).trans upd_same) fun b o e nb => (upd_ne nb).trans ((upd_ne (ne_of_none e nd)).trans e)
theorem sci_InvalidText : FnScope ["self", "position"] ["self", "position"] (defScope (inClass (top 4) 0)) := ⟨rfl, rfl, rfl, by decide +kernel, rfl, by decide +kernel, by decide +kernel⟩
abbrev sp_InvalidText (T : Txt K mg) : Sp := spErr T.e_InvalidText.C (fun ws => (match ws with | [v] => [("position", v), ("tag", .str "InvalidText")] | _ => [])) 1
theorem ei_InvalidText (T : Txt K mg) : FnOk P w K mg base (L2.CX P w) 1 T.e_InvalidText.fI T.e_InvalidText.fd ["self", "position"] (sp_InvalidText T) := by
  refine T.e_InvalidText.F.okX sci_InvalidText (fun vs H Q E h => ?_) (fun cdv A outer s H vs Q E hr h => ?_)
  · obtain ⟨a, ws, rfl, hn, _⟩ := h
    show ws.length + 1 = 2
    omega
  · obtain ⟨a, ws, rfl, hn, ha, k⟩ := h
    obtain ⟨v, rfl⟩ := List.length_eq_one_iff.mp hn
    refine ⟨_, pss_cons (ps_ost (pv 0) pe_str) (pss_one (ps_ost (pv 0) (pv 1))), ?_⟩
    refine ⟨_, rfl, ei_end (C := T.e_InvalidText.C) (Q := Q) T.e_InvalidText.cls (T.e_InvalidText.no _ (by decide +kernel)) ha fun dx nd ne => ?_⟩
    refine ⟨_, rfl, _, rfl, a, T.e_InvalidText.C, rfl, T.e_InvalidText.cls, T.e_InvalidText.no _ (by decide +kernel), .inr ⟨dx, _, upd_same, (upd_ne ne).trans upd_same, by decide, ?_⟩⟩
    exact k dx _ nd ((upd_ne (Ne.symm ne)).trans upd_same) upd_same fun b o e nb => (upd_ne (ne_of_none e nd)).trans ((upd_ne nb).trans ((upd_ne (ne_of_none e nd)).trans e))
end
end R

/-! # S: the reading's steps as one word, "sx"; facts of the heap, "hp"; addresses apart, "ne" -/
local macro_rules | `(tactic| walk_at "ne") => `(tactic| with_reducible first
  | assumption
  | (apply Ne.symm; assumption)
  | (apply R.ne_none; assumption; walk_at "hp")
  | (apply Ne.symm; apply R.ne_none; assumption; walk_at "hp"))
local macro_rules | `(tactic| walk_at "hp") => `(tactic| with_reducible first
  | assumption
  | exact L2.upd_same
  | (apply R.ne_at; (walk_at "ne"); walk_at "hp")
  | (apply R.ex_at; assumption; walk_at "hp")
  | (apply R.kp_at; assumption; (walk_at "hp"); walk_at "ne"))
local macro_rules | `(tactic| walk_at "sl") => `(tactic| with_reducible first
  | assumption
  | (apply R.sq_of; walk_at "hp")
  | (apply R.sq_ex; assumption; walk_at "sl")
  | (apply R.sq_ex; (apply R.Ex.new; assumption); walk_at "sl")
  | (apply R.sq_kp; assumption; (walk_at "sl"); walk_at "ne"))
local macro_rules | `(tactic| walk_at "st") => `(tactic| with_reducible first
  | assumption
  | (apply R.st_of; walk_at "hp")
  | (apply R.st_ex; assumption; walk_at "st")
  | (apply R.st_ex; (apply R.Ex.new; assumption); walk_at "st")
  | (apply R.st_kp; assumption; (walk_at "st"); walk_at "ne"))
local macro_rules | `(tactic| walk_at "sq") => `(tactic| with_reducible first
  | assumption
  | (apply R.sq_l; walk_at "sl")
  | (apply R.sq_t; walk_at "st")
  | (apply R.Sq.ex; assumption; walk_at "sq")
  | (apply R.Sq.ex; (apply R.Ex.new; assumption); walk_at "sq"))
local macro_rules | `(tactic| walk_at "sx") => `(tactic| repeat (first
  | with_reducible refine R.x_seq ?_
  | with_reducible refine L2.iteT ?_
  | with_reducible refine L2.iteF ?_
  | with_reducible refine R.x_cut ?_
  | with_reducible refine R.x_asg ?_
  | with_reducible refine R.x_ifS ?_
  | with_reducible refine R.x_ret ?_
  | with_reducible refine R.x_drop ?_
  | with_reducible refine R.x_for ?_
  | with_reducible refine R.x_par ?_
  | with_reducible refine R.x_two ?_
  | with_reducible refine R.x_next ?_
  | with_reducible refine R.x_c ?_
  | ((with_reducible apply R.x_var); rfl)
  | with_reducible refine R.x_op ?_
  | with_reducible refine R.x_un ?_
  | with_reducible refine R.x_cons ?_
  | with_reducible refine R.x_nil ?_
  | with_reducible refine R.x_call ?_
  | with_reducible refine R.x_callD ?_
  | with_reducible refine R.x_cb ?_
  | with_reducible refine R.x_tup ?_
  | with_reducible refine R.x_lst ?_
  | with_reducible refine R.x_if ?_
  | with_reducible refine R.x_test ?_
  | with_reducible refine R.x_tB ?_
  | with_reducible refine R.x_bl ?_
  | with_reducible refine R.x_and ?_
  | with_reducible refine R.x_or ?_
  | with_reducible refine R.x_not ?_
  | with_reducible refine R.x_andV ?_
  | with_reducible refine R.x_orV ?_
  | with_reducible refine R.x_notV ?_
  | with_reducible refine R.x_sl ?_
  | with_reducible refine R.x_nopart ?_
  | with_reducible refine R.x_part ?_
  | with_reducible refine R.x_int ?_
  | with_reducible refine R.x_s ?_
  | with_reducible refine R.x_r1 ?_
  | with_reducible refine R.x_r2 ?_
  | with_reducible refine R.x_bm ?_
  | with_reducible refine R.x_bm0 ?_
  | with_reducible refine R.x_sub ?_
  | with_reducible refine R.x_gcons ?_
  | with_reducible refine R.x_gnil ?_
  | ((with_reducible apply R.x_name); (first | (simp only [List.set_cons_succ, List.set_cons_zero]; done) | (simp only [List.set_cons_succ, List.set_cons_zero]; exact rfl) | exact rfl))
  | with_reducible refine R.z_addI ?_
  | with_reducible refine R.z_sub ?_
  | with_reducible refine R.z_neg ?_
  | with_reducible refine R.z_intI ?_
  | with_reducible refine R.z_intB ?_
  | with_reducible refine R.z_strS ?_
  | with_reducible refine R.z_abs ?_
  | ((with_reducible refine R.z_mod ?_ ?_); omega)
  | ((with_reducible refine R.z_div ?_ ?_ ?_); omega; omega)
  | ((with_reducible refine R.z_mulR ?_ ?_); omega)
  | ((with_reducible refine R.z_mulL ?_ ?_); omega)
  | with_reducible refine R.z_lt ?_
  | with_reducible refine R.z_le ?_
  | with_reducible refine R.z_gt ?_
  | with_reducible refine R.z_ge ?_
  | with_reducible refine R.z_eqI ?_
  | with_reducible refine R.z_eqS ?_
  | with_reducible refine R.z_eqB ?_
  | with_reducible refine R.z_neI ?_
  | with_reducible refine R.z_neS ?_
  | with_reducible refine R.z_neB ?_
  | with_reducible refine R.x_lc ?_
  | with_reducible refine R.x_m1 ?_
  | with_reducible refine R.x_isstr ?_
  | with_reducible refine R.x_chain ?_
  | with_reducible refine R.x_meth ?_
  | with_reducible refine R.x_make ?_
  | with_reducible refine R.x_makeK' ?_
  | with_reducible refine R.x_fld ?_
  | with_reducible refine R.x_sfld ?_
  | with_reducible refine R.x_callN ?_
  | with_reducible refine R.x_rs ?_
  | with_reducible refine R.x_enum ?_
  | with_reducible refine R.x_yes ?_
  | with_reducible refine R.x_zip ?_
  | with_reducible refine R.y_yesV ?_
  | with_reducible refine R.y_ff ?_
  | with_reducible refine R.y_tx ?_
  | with_reducible refine R.y_ft ?_
  | with_reducible refine R.y_nt ?_
  | with_reducible refine R.y_nf ?_
  | with_reducible refine R.y_dyes ?_
  | with_reducible refine R.y_dno ?_
  | ((with_reducible refine R.y_noV ?_ ?_); focus (intro q; cases q; done))
  | with_reducible refine R.z_is ?_
  | with_reducible refine R.z_isnot ?_))
local macro_rules | `(tactic| walk_at "ki") => `(tactic| first
  | exact R.ki_bool_list
  | exact R.ki_bool_tuple
  | exact R.ki_bool_bool
  | exact R.ki_bool_int
  | exact R.ki_bool_str
  | exact R.ki_int_list
  | exact R.ki_int_tuple
  | exact R.ki_int_bool
  | exact R.ki_int_int
  | exact R.ki_int_str
  | exact R.ki_str_list
  | exact R.ki_str_tuple
  | exact R.ki_str_bool
  | exact R.ki_str_int
  | exact R.ki_str_str
  | exact R.ki_list_list
  | exact R.ki_list_tuple
  | exact R.ki_list_bool
  | exact R.ki_list_int
  | exact R.ki_list_str
  | exact R.ki_tuple_list
  | exact R.ki_tuple_tuple
  | exact R.ki_tuple_bool
  | exact R.ki_tuple_int
  | exact R.ki_tuple_str
  | exact R.ki_NoneType_list
  | exact R.ki_NoneType_tuple
  | exact R.ki_NoneType_bool
  | exact R.ki_NoneType_int
  | exact R.ki_NoneType_str)
local macro_rules | `(tactic| walk_at "isi") => `(tactic| ((with_reducible apply R.z_isi); (walk_at "ty"); (walk_at "ki")))
local macro_rules | `(tactic| walk_at "ty") => `(tactic| first
  | exact L2.TyX.base (L2.TyOf.bl _)
  | exact L2.TyX.base (L2.TyOf.int _)
  | exact L2.TyX.base (L2.TyOf.str _)
  | exact L2.TyX.base L2.TyOf.non
  | (apply R.tyx_l; walk_at "sl")
  | (apply R.tyx_t; walk_at "st"))

/-! # D1: the law's draws -/
namespace R
open PySem PySem.Spec PyProof.Rows L2
def spSource (K : PySem.W.Frag) : Sp := fun vs H Q _ => ∃ (a : Addr) (ns : List Int), vs = [.ref a] ∧ SqL K H a (ns.map V.int) ∧ ∀ (H' : Hp) (r l : Addr), Ex H H' → H r = none → H l = none → Rng H' r l → Q (.ref r) H'
def spDraw : Sp := fun vs H Q _ => ∃ (r l : Addr) (m : Int), vs = [.ref r, .int m] ∧ Rng H r l ∧ 0 < m ∧ m < 2 ^ 200 ∧ ∀ (n : Int) (H' : Hp), 0 ≤ n → n < m → Kp r H H' → Rng H' r l → Q (.int n) H'
theorem cut63 (ns : List Int) : ∃ ms : List Int, cutV (ns.map V.int) none (some 63) = ms.map V.int ∧ ms.length ≤ 63 := by
  refine ⟨(ns.drop (HT.sIx (ns.map V.int).length 0 none)).take (HT.sIx (ns.map V.int).length (ns.map V.int).length (some 63) - HT.sIx (ns.map V.int).length 0 none), ?_, ?_⟩
  · unfold cutV
    rw [List.map_take, List.map_drop]
  · rw [List.length_take]
    have : HT.sIx (ns.map V.int).length (ns.map V.int).length (some 63) ≤ 63 := by
      unfold HT.sIx
      simp only [Option.getD_some]
      try split
      all_goals omega
    omega
section
variable {P : Program} {w : World} {K : PySem.W.Frag} {mg : Str → Option Value} {base : Heap}
theorem ok_source (T : Txt K mg) : Ok P w K mg base 2 T.source (spSource K) := by
  refine ok_of T.source sc_source (fun vs H Q E h => ?_) (fun cdv A outer s H vs Q E hr h => ?_)
  · obtain ⟨a, ns, rfl, _⟩ := h
    rfl
  · obtain ⟨a, ns, rfl, hS, k⟩ := h
    refine ⟨_, ((pss_cons (ps_set (i := 1) sc_source.nd rfl (by first | exact Or.inl rfl | exact Or.inr rfl) (pe_op op_sAdd pe_int (pe_callB call_sLen (by rfl) T.b_len (by decide +kernel) (pa_cons (pe_slice sl_s (pv 0) po_none (po_some pe_int)) pa_nil))))
  (pss_cons (ps_for ownE rfl (pi_s (pe_slice sl_s (pv 0) po_none (po_some pe_int))) (pg_name (i := 2) sc_source.nd rfl (by first | exact Or.inl rfl | exact Or.inr rfl))
  (pss_one (ps_set (i := 1) sc_source.nd rfl (by first | exact Or.inl rfl | exact Or.inr rfl) (pe_op op_sMod (pe_op op_sAdd (pe_op op_sAdd (pe_op op_sMul (pv 1) pe_int) (pe_op op_sMod (pv 2) pe_int)) pe_int) pe_int))))
  (pss_one (ps_ret (pe_lst (pa_cons (pe_callTy call_sList (by rfl) T.b_list (by decide +kernel) (pa_cons (pe_slice sl_s (pv 0) po_none (po_some pe_int)) pa_nil)) (pa_cons pe_int (pa_cons pe_int (pa_cons (pv 1) pa_nil)))))))))), ?_⟩
    refine go [some (.ref a), none, none] rfl ?_
    try dsimp only [L2.cxOf]
    walk_at "sx"
    refine z_slL (by walk_at "sl") fun p1 n1 => ?_
    obtain ⟨ms, e1, hms⟩ := cut63 ns
    rw [e1]
    have E1 := Ex.new (o := .lst (ms.map V.int)) n1
    walk_at "sx"
    refine z_len (by walk_at "sq") ?_
    walk_at "sx"
    refine z_slL (by walk_at "sl") fun p2 n2 => ?_
    rw [e1]
    walk_at "sx"
    have E2 := Ex.new (o := .lst (ms.map V.int)) n2
    refine z_sL (sq_of upd_same) ?_
    refine for_list (K := K) (a := p2) (xs := ms.map V.int) (fun i σ H' => ∃ (s : Int) (v : Option V), σ = [some (.ref a), some (.int s), v] ∧ Ex (upd (upd H p1 (.lst (ms.map V.int))) p2 (.lst (ms.map V.int))) H' ∧ 0 ≤ s ∧ s < 2147483563)
      ⟨_, none, rfl, Same.refl _, by omega, by rw [List.length_map]; omega⟩ (fun i σ H' _ ⟨_, _, _, e2, _⟩ => sq_of (e2 _ _ upd_same)) ?_ ?_
    · rintro i y σ H' hi ⟨s, v, rfl, e2, h0, h1⟩
      obtain ⟨z, rfl⟩ : ∃ z, y = V.int z := by
        rw [List.getElem?_map] at hi
        cases q : ms[i]? with
        | none => rw [q] at hi; cases hi
        | some z => rw [q] at hi; exact ⟨z, (Option.some.inj hi).symm⟩
      walk_at "sx"
      exact ⟨_, _, rfl, e2, Int.emod_nonneg _ (by decide), Int.emod_lt_of_pos _ (by decide)⟩
    · rintro σ H' ⟨s, v, rfl, e2, h0, h1⟩
      walk_at "sx"
      refine z_slL (by walk_at "sl") fun p3 n3 => ?_
      rw [e1]
      walk_at "sx"
      refine z_list (sq_l (sq_of upd_same)) fun p4 n4 => ?_
      walk_at "sx"
      refine z_lst fun p5 n5 => ?_
      have a1 := upd_none n4
      have a2 := upd_none n5
      have a3 := upd_none a2.2
      refine k _ p5 p4 ?_ ?_ ?_ ⟨ms, 0, 0, s, upd_same, ?_, Ne.symm a2.1, hms, by decide, by decide, h0, h1⟩
      · exact ((((E1.trans E2).trans e2).trans (Ex.new n3)).trans (Ex.new n4)).trans (Ex.new n5)
      · exact E1.none (E2.none (e2.none a3.2))
      · exact E1.none (E2.none (e2.none a1.2))
      · rw [upd_ne (Ne.symm a2.1)]
        exact upd_same
theorem ok_draw (T : Txt K mg) : Ok P w K mg base 1 T.draw spDraw := by
  refine ok_of T.draw sc_draw (fun vs H Q E h => ?_) (fun cdv A outer s H vs Q E hr h => ?_)
  · obtain ⟨r, l, m, rfl, _⟩ := h
    rfl
  · obtain ⟨r, l, m, rfl, ⟨ns, i, c, sd, h1, h2, nlr, hl, hi, hc, hs0, hs1⟩, hm, hm2, k⟩ := h
    refine ⟨_, ((C8.pss_cut (ps_if (PW.pt (pw_and (pt_cmpR (op_sEq hr.units) (pe_ix ix_s (pv 0) pe_int (fun _ _ => rfl)) pe_int (nomark _)) (pw_and1 (pt_cmpR op_sLt (pe_ix ix_s (pv 0) pe_int (fun _ _ => rfl)) (pe_callB call_sLen (by rfl) T.b_len (by decide +kernel) (pa_cons (pe_ix ix_s (pv 0) pe_int (fun _ _ => rfl)) pa_nil)) (nomark _)))))
  (pss_cons (ps_set (i := 2) sc_draw.nd rfl (by first | exact Or.inl rfl | exact Or.inr rfl) (pe_ix ix_s (pe_ix ix_s (pv 0) pe_int (fun _ _ => rfl)) (pe_ix ix_s (pv 0) pe_int (fun _ _ => rfl)) (fun _ _ => rfl)))
  (pss_cons (ps_asg (pe_op op_sAdd (pe_ix ix_s (pv 0) pe_int (fun _ _ => rfl)) pe_int) (pg_sub (pv 0) pe_int set_list))
  (pss_one (ps_if (pt_cmpR op_sGe (pv 2) (pe_op op_sPow pe_int pe_int) (nomark _))
  (pss_one (ps_asg (pv 2) (pg_sub (pv 0) pe_int set_list)))
  (pss_one (ps_asg (pe_op op_sMod (pe_op op_sAdd (pe_op op_sAdd (pe_op op_sMul (pe_ix ix_s (pv 0) pe_int (fun _ _ => rfl)) pe_int) (pe_op op_sMul (pe_op op_sMod (pv 2) pe_int) pe_int)) pe_int) pe_int) (pg_sub (pv 0) pe_int set_list)))))))
  pss_nil)
  (pss_cons (ps_if (pt_cmpR op_sGt (pe_ix ix_s (pv 0) pe_int (fun _ _ => rfl)) pe_int (nomark _))
  (pss_cons (ps_set (i := 3) sc_draw.nd rfl (by first | exact Or.inl rfl | exact Or.inr rfl) (pe_op op_sMod (pe_ix ix_s (pv 0) pe_int (fun _ _ => rfl)) (pv 1)))
  (pss_cons (ps_asg (pe_op op_sDiv (pe_ix ix_s (pv 0) pe_int (fun _ _ => rfl)) (pv 1)) (pg_sub (pv 0) pe_int set_list))
  (pss_one (ps_ret (pv 3)))))
  pss_nil)
  (pss_cons (ps_set (i := 4) sc_draw.nd rfl (by first | exact Or.inl rfl | exact Or.inr rfl) (pe_ix ix_s (pv 0) pe_int (fun _ _ => rfl)))
  (pss_cons (ps_asg (pe_op op_sMod (pe_op op_sAdd (pe_op op_sAdd (pe_op op_sMul (pv 4) (pe_op op_sAdd (pe_op op_sMod (pv 4) pe_int) pe_int)) (pe_op op_sMul (pv 4) pe_int)) pe_int) pe_int) (pg_sub (pv 0) pe_int set_list))
  (pss_one (ps_ret (pe_op op_sMod (pe_op op_sAdd (pe_op op_sDiv (pe_ix ix_s (pv 0) pe_int (fun _ _ => rfl)) pe_int) (pe_op op_sMul (pe_op op_sMod (pe_ix ix_s (pv 0) pe_int (fun _ _ => rfl)) pe_int) pe_int)) (pv 1))))))))), ?_⟩
    refine go [some (.ref r), some (.int m), none, none, none] rfl ?_
    try dsimp only [L2.cxOf]
    walk_at "sx"
    refine ⟨fun σ' H' => ∃ (i c sd : Int) (v : Option V), σ' = [some (.ref r), some (.int m), v, none, none] ∧ Kp r H H' ∧ H' r = some (.lst [.ref l, .int i, .int c, .int sd]) ∧ 0 ≤ i ∧ 0 ≤ c ∧ 0 ≤ sd ∧ sd < 2147483563, ?_, ?_⟩
    · walk_at "sx"
      refine z_ix (by walk_at "sq") (v := .int c) rfl ?_
      walk_at "sx"
      refine y_ite (fun c0 => ?_) (fun c0 => ?_)
      · walk_at "sx"
        refine z_ix (by walk_at "sq") (v := .int i) rfl ?_
        walk_at "sx"
        refine z_ix (by walk_at "sq") (v := .ref l) rfl ?_
        walk_at "sx"
        refine z_len (by walk_at "sq") ?_
        walk_at "sx"
        refine y_ite (fun c1 => ?_) (fun c1 => ?_)
        · walk_at "sx"
          refine z_ix (by walk_at "sq") (v := .ref l) rfl ?_
          walk_at "sx"
          refine z_ix (by walk_at "sq") (v := .int i) rfl ?_
          walk_at "sx"
          obtain ⟨y, hy, hat⟩ := atM hi c1
          obtain ⟨z, -, rfl⟩ := List.mem_map.mp hy
          refine z_ix (by walk_at "sq") hat ?_
          walk_at "sx"
          refine z_ix (by walk_at "sq") (v := .int i) rfl ?_
          walk_at "sx"
          refine z_setL (j := 1) (by walk_at "hp") rfl ?_
          walk_at "sx"
          refine z_pow ⟨by decide, by decide, by decide⟩ ?_
          walk_at "sx"
          refine y_ite (fun c2 => ?_) (fun c2 => ?_)
          · walk_at "sx"
            refine z_setL (j := 2) (by walk_at "hp") rfl ?_
            refine ⟨i + 1, z, sd, _, rfl, Kp.set.trans Kp.set, upd_same, by omega, ?_, hs0, hs1⟩
            have : (0 : Int) ≤ 10 ^ (18 : Int).toNat := by decide
            omega
          · walk_at "sx"
            refine z_ix (by walk_at "sq") (v := .int sd) rfl ?_
            walk_at "sx"
            refine z_setL (j := 3) (by walk_at "hp") rfl ?_
            exact ⟨i + 1, c, _, _, rfl, Kp.set.trans Kp.set, upd_same, by omega, hc, Int.emod_nonneg _ (by decide), Int.emod_lt_of_pos _ (by decide)⟩
        · walk_at "sx"
          exact ⟨i, c, sd, none, rfl, Kp.refl _ _, h1, hi, hc, hs0, hs1⟩
      · walk_at "sx"
        exact ⟨i, c, sd, none, rfl, Kp.refl _ _, h1, hi, hc, hs0, hs1⟩
    · clear h1 hi hc hs0 hs1
      rintro σ' H' ⟨i, c, sd, v, rfl, kp, h1, hi, hc, hs0, hs1⟩
      have h2' := kp _ _ h2 nlr
      walk_at "sx"
      refine z_ix (by walk_at "sq") (v := .int c) rfl ?_
      walk_at "sx"
      refine y_ite (fun c0 => ?_) (fun c0 => ?_)
      · walk_at "sx"
        refine z_ix (by walk_at "sq") (v := .int c) rfl ?_
        walk_at "sx"
        refine z_ix (by walk_at "sq") (v := .int c) rfl ?_
        walk_at "sx"
        refine z_setL (j := 2) (by walk_at "hp") rfl ?_
        walk_at "sx"
        refine k _ _ (Int.emod_nonneg _ (by omega)) (Int.emod_lt_of_pos _ hm) (kp.trans Kp.set) ⟨ns, i, c / m, sd, upd_same, ?_, nlr, hl, hi, Int.ediv_nonneg hc (by omega), hs0, hs1⟩
        rw [upd_ne nlr]
        exact h2'
      · walk_at "sx"
        refine z_ix (by walk_at "sq") (v := .int sd) rfl ?_
        walk_at "sx"
        refine z_setL (j := 3) (by walk_at "hp") rfl ?_
        walk_at "sx"
        refine z_ix (sq_l (sq_of upd_same)) (v := .int ((sd * (sd % 65521 + 7) + sd * 39373 + 80021) % 2147483563)) rfl ?_
        walk_at "sx"
        refine z_ix (sq_l (sq_of upd_same)) (v := .int ((sd * (sd % 65521 + 7) + sd * 39373 + 80021) % 2147483563)) rfl ?_
        walk_at "sx"
        refine k _ _ (Int.emod_nonneg _ (by omega)) (Int.emod_lt_of_pos _ hm) (kp.trans Kp.set) ⟨ns, i, c, _, upd_same, ?_, nlr, hl, hi, hc, Int.emod_nonneg _ (by decide), Int.emod_lt_of_pos _ (by decide)⟩
        rw [upd_ne nlr]
        exact h2'
end
end R

/-! # PK: pick of own lists, tuples taken apart -/
namespace R
open PySem PySem.Spec PyProof.Rows L2 L2H LamX
section
variable {H : Hp} {Q : VK} {E : XK} {r l : Addr} {m : Int} {K : PySem.W.Frag}
theorem use_draw (h : Rng H r l) (k : ∀ (n : Int) (H' : Hp), 0 ≤ n → n < m → Kp r H H' → Rng H' r l → Q (.int n) H') (h0 : 0 < m := by omega) (h1 : m < 2 ^ 200 := by omega) : spDraw [.ref r, .int m] H Q E := ⟨r, l, m, rfl, h, h0, h1, k⟩
/-- pick(rng, items): one of the items -/
def spPick (K : PySem.W.Frag) : Sp := fun vs H Q _ => ∃ (r l : Addr) (x : V), vs = [.ref r, x] ∧ Rng H r l ∧
  ((∃ p xs, x = .ref p ∧ Sq K H p xs ∧ p ≠ r ∧ 0 < xs.length ∧ xs.length ≤ 1000000 ∧ ∀ (v : V) (H' : Hp), v ∈ xs → Kp r H H' → Rng H' r l → Q v H') ∨
   (∃ z : Str, x = .str z ∧ 0 < z.length ∧ z.length ≤ 1000000 ∧ ∀ (c : Nat) (H' : Hp), c ∈ z.cps.toList → Kp r H H' → Rng H' r l → Q (.str ⟨#[c]⟩) H'))
end
section
variable {P : Program} {w : World} {K : PySem.W.Frag} {mg : Str → Option Value} {base : Heap}
theorem ok_pickC (T : Txt K mg) : Ok P w K mg base 2 T.pick (spPick K) := by
  refine ok_of T.pick sc_pick (fun vs H Q E h => ?_) (fun cdv A outer s H vs Q E hr h => ?_)
  · obtain ⟨r, l, x, rfl, _⟩ := h
    rfl
  · obtain ⟨r, l, x, rfl, hR, h⟩ := h
    refine ⟨_, ((pss_one (ps_ret (pe_ix ix_s (pv 1) (pcall T.draw (ok_draw T) (hr.mono (by omega)) passE (pa_cons (pv 0) (pa_cons (pe_callB call_sLen (by rfl) T.b_len (by decide +kernel) (pa_cons (pv 1) pa_nil)) pa_nil))) (fun _ _ => rfl))))), ?_⟩
    refine go [some (.ref r), some x] rfl ?_
    try dsimp only [L2.cxOf]
    rcases h with ⟨p, xs, rfl, hS, n, h0, h1, k⟩ | ⟨z, rfl, h0, h1, k⟩
    · walk_at "sx"
      refine z_len (by walk_at "sq") ?_
      walk_at "sx"
      refine use_draw hR fun m H' m0 m1 kp hR' => ?_
      obtain ⟨v, hv, hat⟩ := atM m0 m1
      refine z_ix (hS.imp (fun h => sq_kp kp h n) (fun h => st_kp kp h n)) hat ?_
      exact k v H' hv kp hR'
    · walk_at "sx"
      refine z_lenS (sz_of h1) ?_
      walk_at "sx"
      refine use_draw hR fun m H' m0 m1 kp hR' => ?_
      have e : z.length = z.cps.toList.length := by simp [Str.length]
      obtain ⟨c, hc, hat⟩ := atN (xs := z.cps.toList) m0 (by omega)
      refine z_ixS (sz_of h1) hat ?_
      exact k c H' (List.mem_of_getElem? hc) kp hR'
end
section
variable {W : Wo} {cs : Cs} {sl : Sl} {st : List Sd} {Q : Sd → Cs → Prop} {F : DE}
theorem StOk.at {P : V → Sd → Prop} : ∀ {vs : List V} {ss : List Sd} {i : Nat} {v : V} {s : Sd}, StOk P vs ss → vs[i]? = some v → ss[i]? = some s → P v s
  | [], [], _, _, _, _, h, _ => by simp at h
  | _ :: _, _ :: _, 0, _, _, q, h1, h2 => by
    cases h1
    cases h2
    exact q.1
  | _ :: vs, _ :: ss, i + 1, _, _, q, h1, h2 => StOk.at (vs := vs) (ss := ss) (i := i) q.2 (by simpa using h1) (by simpa using h2)
  | [], _ :: _, _, _, _, q, _, _ => q.elim
  | _ :: _, [], _, _, _, q, _, _ => q.elim
def tPickC (t : TE) : TE := t
theorem ppickC {X : Cx} {e : Expr} {t : TE} (h : PE X e t) : PE X e (tPickC t) := h
def PickK (P : List Sd → Prop) : Sd → Prop
  | .r => P []
  | _ => False
theorem w_pickC {E : XK} {tr : TE} {t : TA} (q : wE W tr cs sl st fun x cs1 => x = .r ∧ wA W t cs1 sl (.r :: st) fun xs cs2 => (0 < xs.length ∧ xs.length ≤ 900000) ∧ ∀ y ∈ xs, Q y cs2) : wE W (tPickC (tCall (spPick W.K) [] E (tCons tr (tCons (tLst t) tNil)))) cs sl st Q := fun H σ ws R Q' k => q H σ ws R _ fun x cs1 v H1 h1 R1 => by
  obtain ⟨rfl, h1⟩ := h1
  refine h1 H1 σ (v :: ws) R1 _ fun xs cs2 us H2 h2 l R2 => ?_
  obtain ⟨⟨h0, hl⟩, hq⟩ := h2
  refine ⟨sz_of (by omega), fun p hp => ?_⟩
  obtain ⟨as, R2⟩ := R2
  have hs := StOk.split l R2.st
  obtain ⟨rl, hrl, rfl⟩ := hs.2.1
  have hr := (R2.rng rl hrl).2
  have hr3 := hr.ex (Ex.new (o := .lst us) hp)
  refine ⟨rl.1, rl.2, .ref p, rfl, hr3, .inl ⟨p, us, rfl, sq_l (sq_of upd_same), hr.ne hp, by omega, by omega, fun u H' hu kp hR => ?_⟩⟩
  obtain ⟨i, hi⟩ := List.mem_iff_getElem?.mp hu
  have hi2 := (List.getElem?_eq_some_iff.mp hi).1
  obtain ⟨y, hy⟩ : ∃ y, xs[i]? = some y := ⟨_, List.getElem?_eq_getElem (by omega)⟩
  have R3 := R2.ex (Ex.new (o := .lst us) hp)
  have R4 := callR_core hrl R3 kp hR
  refine k y cs2 u H' (hq y (List.mem_of_getElem? hy)) ⟨as, R4.st' ⟨?_, (StOk.split l R4.st).2.2⟩⟩
  exact StOk.at (StOk.split l R4.st).1 hi hy
/-- a, b = x, y: own lists as they are -/
def AtK (n : Nat) (xs : List Sd) (P : Prop) : Prop := (xs.length = n ∧ xs.length ≤ 900000) ∧ P
theorem atk {n : Nat} {xs : List Sd} {P : Prop} (h : xs.length = n) (h2 : xs.length ≤ 900000) (q : P) : AtK n xs P := ⟨⟨h, h2⟩, q⟩
theorem w_asgT {n : Nat} {t : TA} {gs : TGs} (q : wA W t cs sl st fun xs cs1 => AtK n xs (wGs W gs xs cs1 sl st F.nx)) : wS W (tAsg (tTup t) (gTup W.K n gs)) cs sl st F := fun H σ ws R De k => q H σ ws R _ fun xs cs1 vs H1 h1 l R1 => by
  obtain ⟨⟨hn, hl⟩, h⟩ := h1
  refine ⟨sz_of (by omega), fun p np => ?_⟩
  refine ⟨p, vs, rfl, st_of upd_same, l.trans hn, h (upd H1 p (.tup vs)) σ vs ws l (R1.ex (Ex.new np)) _ fun cs2 sl2 σ2 H2 h2 R2 => k.nx _ _ _ _ h2 R2⟩
/-- a cell becomes data in the slots; what is pending stays -/
theorem w_freezeS (k : Nat) {t : TS} {ds : List D} {cs' : Cs} {sl' : Sl} (h : cs[k]? = some (some (.lst ds))) (e1 : cs.set k none = cs') (e2 : sl.map (Option.map (Sd.frz k (.lst ds))) = sl') (q : wS W t cs' sl' st F) : wS W t cs sl st F := fun H σ ws R De kk => by
  subst e1 e2
  refine q H σ ws ?_ De kk
  obtain ⟨as, R⟩ := R
  exact ⟨as, (R.freeze h).st' (R.st.imp fun v s hv => hv.step (fun _ _ q _ _ => q) fun b o q _ => av_none q)⟩
end
end R

/-! # O3: a def called in an except suite that raises nothing; the fields of the caught error -/
namespace R
open PySem PySem.Spec PyProof.Rows L2 L2H
theorem _root_.L2H.RoomH.units {k : Nat} {A : Around} (r : RoomH k A) : A.units + 64 < cLine := by have := r.un; omega
/-- the class at C is one whose instances' fields are read -/
abbrev Good (K : PySem.W.Frag) (C : Addr) : Prop := XfC K C ∧ ∀ f ∈ efs, PySem.W.findIn K (.ref C) f = some none
structure FnQ (P : Program) (w : World) (K : PySem.W.Frag) (mg : Str → Option Value) (base : Heap) (CX : CXT) (k : Nat) (f : Addr) (fd : FuncData) (ps : List Str) (sp : Addr → Value → Option Addr → Sp) : Prop where
  len : ∀ a cls d vs H Q E, sp a cls d vs H Q E → vs.length = ps.length
  run : ∀ (A : Around) (outer : List Env) (s : Shared) (H : Hp) (args : Args) (us : List Value) (vs : List V) (Q : VK) (E : XK) (p : Addr × Obj) (cls : Value) (d : Option Addr), Zc cls d p.2 → (∃ vs, p.2.data = .fields vs) → RoomH k A → PinOk outer H s p → Env0 P w K mg base A outer s H → BindsTo s fd args (ps.zip us) → Vals vs us → sp p.1 cls d vs H Q E →
    codeAny (model P w) A (.call (.ref f) args) (CR CX outer P w H s Q E) s
theorem fn_ofQ {CX : CXT} {P : Program} {w : World} {K : PySem.W.Frag} {mg : Str → Option Value} {base : Heap} {k : Nat} {f : Addr} {name qual : Str} {params : Arguments} {body : List Stmt} {scope : Scope} {dV kV doc pm cdv ct oc : Value} {an od : Option Addr}
    {osl : Array (Option Value)} {N ps : List Str} {sp : Addr → Value → Option Addr → Sp} (lk : K.lookup f = some ⟨oc, od, .func (PySem.W.fnOf name qual params body scope dV kV doc pm an cdv ct), osl⟩) (hcd : PySem.W.codeIn K cdv qual = true) (S : FnScope N ps scope)
    (len : ∀ a cls d vs H Q E, sp a cls d vs H Q E → vs.length = ps.length)
    (hbody : ∀ (A : Around) (outer : List Env) (s : Shared) (H : Hp) (vs : List V) (Q : VK) (E : XK) (p : Addr × Obj) (cls : Value) (d : Option Addr), Zc cls d p.2 → (∃ vs, p.2.data = .fields vs) → RoomH k (A.deeper (envOfC qual scope s.heap.objs.size f cdv)) → sp p.1 cls d vs H Q E →
      ∃ t, PSs (cxH CX P w K mg base N qual scope f cdv A outer s H E p) body t ∧ t { nx := fun _ H' => Q .non H', rt := Q } (L2.start N vs) H) :
    FnQ P w K mg base CX (k + 1) f (PySem.W.fnOf name qual params body scope dV kV doc pm an cdv ct) ps sp := by
  refine ⟨len, fun A outer s H args us vs Q E p cls d hz hf hr hpin e0 hb r hsp => ?_⟩
  have hl := len _ _ _ _ _ _ _ hsp
  have KX : K.In s.heap := e0.mod.kin.keeps fun b o e => (e0.bs b o e).1
  have lim : s.heap.NoLimit := e0.mod.nolimit.keeps fun b o e => (e0.bs b o e).1
  have hkind : ∀ y ∈ ps.zip us, scope.names.lookup y.1 = some .local ∨ (scope.names.lookup y.1 = some .cell ∧ ((cellsFrom (s.heap.objs.size + 1) scope.names []).lookup y.1).isSome = true) := fun ⟨n, v⟩ hy => by
    rcases S.par n (List.of_mem_zip hy).1 with q | q
    · exact .inl q
    · exact .inr ⟨q, PySem.W.cellsFrom_some _ _ _ (.inl q)⟩
  refine codeAny_call_function hr.depth (KX _ _ lk) rfl S.co S.gen rfl (PySem.W.codeRec_of KX hcd) (hb _ _ _ _ ?_)
  refine wpAny_newFunctionEnv_cells S.kind hkind fun env he s1 x => ?_
  subst he
  refine ⟨lim.keeps x.toInCall.keep, codeAny_func ?_⟩
  obtain ⟨t, ht, hq⟩ := hbody A outer s H vs Q E p cls d hz hf (hr.deeper _) hsp
  have I : Inv (cxH CX P w K mg base N qual scope f cdv A outer s H E p) [] (L2.start N vs) H s1 := inv_startH S hpin e0 hl r x
  refine wpAny_mono (ht.run [] s1 (L2.start N vs) H _ I hq) (fun fl s' hs => ?_) fun e s' hs => hs
  have fin : ∀ {σ' : L2.St} {H' : Hp} {v : V} {u : Value}, Inv (cxH CX P w K mg base N qual scope f cdv A outer s H E p) [] σ' H' s' → RelV v u → Q v H' → CE outer P w H s Q u s' :=
    fun {σ' H' v u} J rv q => ⟨v, H', J.os, J.bare, J.base, J.hok, rv, q⟩
  cases fl with
  | ret u =>
    obtain ⟨v, σ', H', J, rv, q⟩ := hs
    exact fin J rv q
  | next =>
    obtain ⟨σ', H', J, q⟩ := hs
    exact fin (v := V.non) (u := Value.none) J rfl q
  | brk =>
    obtain ⟨_, _, _, q⟩ := hs
    exact False.elim q
  | cont =>
    obtain ⟨_, _, _, q⟩ := hs
    exact False.elim q
section
variable {X : Cx} {k : Nat} {f : Addr} {fd : FuncData} {ps : List Str} {sp : Addr → Value → Option Addr → Sp} {x : Str} {q pos : Pos} {e : Expr} {es : List Expr} {t : TA} {p : Addr × Obj}
def tCallQ (sp : Addr → Value → Option Addr → Sp) (a : Addr) (cls : Value) (d : Option Addr) (t : TA) : TE := fun σ H Q => t σ H fun vs H1 => sp a cls d vs H1 Q fun _ _ _ => False
theorem pe_callQ {cls : Value} {d : Option Addr} {a : Addr} {oe : Obj} (hz : Zc cls d oe) (hf : ∃ vs, oe.data = .fields vs) (F : FnQ X.prog X.w X.K X.mg X.base (L2.CX X.prog X.w) k f fd ps sp) (hr : RoomH k X.A) (hp : (a, oe) ∈ X.pn) (hg : Gl X x) (hm : X.mg x = some (.ref f)) (hk : PySem.W.keepIn X.K (.ref f) = true) (hb : Binds X.K fd ps [])
    (ha : PA X (e :: es) t) (hdb : (x == ("__debug__" : Str)) = false := by decide) (he : starEach (e :: es) X.env = (false, eval e X.env) :: starEach es X.env := by rfl) (hpl : (backTo pos (starEach es X.env)).any (·.1) = false := by rfl) :
    PE X (.Call (.Name x q) (e :: es) [] pos) (tCallQ sp a cls d t) := by
  refine ⟨fun pins s σ H Q I h => ?_⟩
  refine wpAny_Call_Name_kw (ld_glob I hg hm ?_ hdb)
  refine PySem.W.callWith_K (h₀ := X.base) I.ok.mod.kin hk (thn (ha.run pos pins s σ H _ I h) fun us s1 ⟨vs, H1, I1, r, q⟩ => ⟨I1.kIn, ?_⟩) he hpl
  have hl : us.length = ps.length := by rw [← r.length]; exact F.len _ _ _ _ _ _ _ q
  have b := hb s1 us I1.kIn (by rw [List.append_nil]; exact hl)
  rw [List.append_nil] at b
  have P1 := I1.pin (a, oe) (List.mem_append_left _ hp)
  have hpin : PinOk X.stack H1 s1 (a, oe) := ⟨P1.1, P1.2.1, fun hm => (List.mem_cons.mp (I1.stkSub a hm)).elim P1.2.2.1 P1.2.2.2.1, P1.2.2.2.2⟩
  refine wpAny_call (codeAny_mono (F.run X.A X.stack s1 H1 ⟨us, []⟩ us vs Q _ (a, oe) cls d hz hf hr hpin I1.env0 b r q) fun r s' hq => ?_)
  cases r with
  | error e =>
    obtain ⟨_, _, _, _, _, _, _, _, _, _, _, _, z⟩ := hq
    exact z.elim
  | ok fl =>
    cases fl with
    | ret u => exact I1.after hq
    | next => exact False.elim hq
    | brk => exact False.elim hq
    | cont => exact False.elim hq
theorem pe_xfQ {a C : Addr} {oe : Obj} {cls : Value} {d : Option Addr} {te : TE} {n : Str} (hp : (a, oe) ∈ X.pn) (T : XfC X.K C) (hno : PySem.W.findIn X.K (.ref C) n = some none)
    (hz : Zc cls d oe) (hf : ∃ vs, oe.data = .fields vs) (he : PE X e te) (hb : attributeBase e n X.env (eval e X.env) = eval e X.env := by rfl) : PE X (.Attribute e n pos) (tXf a cls d C n te) := by
  refine ⟨fun pins s σ H Q I h => ?_⟩
  refine attr_of hb (thn (he.run pins s σ H _ I h) fun u s1 hh => ?_)
  obtain ⟨x, H1, I1, rx, ex, ec, dd, fs, v, ed, ea, l, q⟩ := hh
  subst ex
  obtain rfl : u = Value.ref a := rx
  subst ec
  subst ed
  obtain ⟨ha, _⟩ := I1.pin (a, oe) (List.mem_append_left _ hp)
  obtain ⟨vs, hd⟩ := hf
  have hx : ObjOk X.prog X.w H1 s1.heap dd (.xd fs) := I1.hok dd _ ea
  obtain ⟨mA, hns, hr⟩ := hx
  obtain ⟨od, ho, hl⟩ := lookIn_ns hns
  obtain ⟨u, hu, ru⟩ := RelO.some_of (v := v) (o := mA n) (by rw [← l]; exact hr n)
  have J : PySem.W.InstAt s1.heap a oe C (some od) := ⟨ha, hz.1, by unfold PySem.W.notCls; rw [hd] <;> rfl, by rw [hz.2]; exact ho⟩
  exact HandSPX.exc_get I1.kIn J T.ga T.gg T.exC (PySem.W.findObj_own T.hdC hno rfl (by rw [hl, hu])) (handed_of ru) ⟨v, H1, I1.tok _, ru, q⟩
theorem x_xf {a C dd : Addr} {f : Str} {te : TE} {σ : L2.St} {H : Hp} {Q : VK} {fs : List (Str × V)} {v : V} (h : te σ H fun x H1 => x = .ref a ∧ H1 dd = some (.xd fs) ∧ Q v H1) (hl : fs.lookup f = some v) (hm : ∀ {Q R : VK}, (∀ x H, Q x H → R x H) → te σ H Q → te σ H R) : tXf a (.ref C) (some dd) C f te σ H Q :=
  hm (fun x H1 ⟨e, h1, q⟩ => ⟨e, rfl, dd, fs, v, rfl, h1, hl, q⟩) h
theorem x_xfv {a C dd : Addr} {f : Str} {i : Nat} {σ : L2.St} {H : Hp} {Q : VK} {fs : List (Str × V)} {v : V} (hs : σ[i]? = some (some (.ref a))) (hd : H dd = some (.xd fs)) (hl : fs.lookup f = some v) (q : Q v H) : tXf a (.ref C) (some dd) C f (tVar i) σ H Q :=
  x_var hs ⟨rfl, rfl, dd, fs, v, rfl, hd, hl, q⟩
theorem pss_ex {α : Type} {body : List Stmt} {t : α → TS} (h : ∀ x, PSs X body (t x)) : PSs X body (fun D σ H => ∃ x, t x D σ H) := ⟨fun pins s σ H D I ⟨x, q⟩ => (h x).run pins s σ H D I q⟩
end
/-- the field that the law reads of an error -/
def fldAt (t : Str) : Option Str :=
  if t = "InvalidMachine" then some "state" else if t = "InvalidText" ∨ t = "InvalidCommand" then some "position"
  else if t = "DuplicateName" ∨ t = "InvalidName" ∨ t = "NotAState" ∨ t = "CircularProduct" ∨ t = "UndefinedName" then some "name" else if t = "InvalidDocument" then some "row" else none
def fldIs (fs : List (Str × V)) (v : V) : Option Str → Prop
  | some f => fs.lookup f = some v
  | none => v = .non
theorem z_inStr {K : PySem.W.Frag} {H : Hp} {Q : VK} {a : Str} {p : Addr} {xs : List V} (h1 : Sq K H p xs) (h2 : xs.all flatV = true) (h : Q (.bl (inV (.str a) xs)) H) : sIn K (.str a) (.ref p) H Q := ⟨xs, h1, rfl, h2, h⟩
theorem inV_str (t : Str) : ∀ xs : List Str, inV (.str t) (xs.map V.str) = decide (t ∈ xs)
  | [] => by simp [inV]
  | x :: xs => by
    have h := inV_str t xs
    unfold inV at h ⊢
    rw [List.map_cons, List.any_cons, h]
    unfold eqV
    rw [Bool.eq_iff_iff]
    simp only [Bool.or_eq_true, beq_iff_eq, decide_eq_true_eq, List.mem_cons]
    exact ⟨fun h => h.elim (fun h => .inl h.symm) .inr, fun h => h.elim (fun h => .inl h.symm) .inr⟩
section
variable {P : Program} {w : World} {K : PySem.W.Frag} {mg : Str → Option Value} {base : Heap}
def spField (K : PySem.W.Frag) : Addr → Value → Option Addr → Sp := fun a cls d vs H Q _ => ∃ (C dd : Addr) (fs : List (Str × V)) (t : Str) (v : V), vs = [.ref a] ∧ cls = .ref C ∧ d = some dd ∧ Good K C ∧ H dd = some (.xd fs) ∧ fs.lookup ("tag" : Str) = some (.str t) ∧ fldIs fs v (fldAt t) ∧ ∀ H', Ex H H' → Q v H'
theorem ok_field (T : Txt K mg) : FnQ P w K mg base (L2.CX P w) 1 T.field.f T.field.fd P_field (spField K) := by
  obtain ⟨oc, od, kV, doc, pm, an, cdv, ct, osl, e, lk, hcd⟩ := T.field.F.ex
  rw [e] at lk ⊢
  refine fn_ofQ lk hcd sc_field (fun a cls d vs H Q E h => ?_) fun A outer s H vs Q E p cls d hz hf hr h => ?_
  · obtain ⟨C, dd, fs, t, v, rfl, _⟩ := h
    rfl
  · obtain ⟨C, dd, fs, t, v, rfl, rfl, rfl, gC, hdd, htag, hv, k⟩ := h
    have hp : (p.1, p.2) ∈ (cxH (L2.CX P w) P w K mg base N_field "_law_field" (defScope s_field) T.field.f cdv A outer s H E p).pn := List.mem_singleton.mpr rfl
    refine ⟨_, ((pss_cons (ps_if (pt_cmpR (op_sEq hr.units) (pe_xfQ hp gC.1 (gC.2 _ (by decide)) hz hf (pv 0)) pe_str (nomark _))
  (pss_one (ps_ret (pe_xfQ hp gC.1 (gC.2 _ (by decide)) hz hf (pv 0))))
  pss_nil)
  (pss_cons (ps_if (pt_cmpR op_sIn (pe_xfQ hp gC.1 (gC.2 _ (by decide)) hz hf (pv 0)) (pe_tup (pa_cons pe_str (pa_cons pe_str pa_nil))) (by rfl))
  (pss_one (ps_ret (pe_xfQ hp gC.1 (gC.2 _ (by decide)) hz hf (pv 0))))
  pss_nil)
  (pss_cons (ps_if (pt_cmpR op_sIn (pe_xfQ hp gC.1 (gC.2 _ (by decide)) hz hf (pv 0)) (pe_tup (pa_cons pe_str (pa_cons pe_str (pa_cons pe_str (pa_cons pe_str (pa_cons pe_str pa_nil)))))) (by rfl))
  (pss_one (ps_ret (pe_xfQ hp gC.1 (gC.2 _ (by decide)) hz hf (pv 0))))
  pss_nil)
  (pss_one (ps_ret (pe_ifExp (pt_cmpR (op_sEq hr.units) (pe_xfQ hp gC.1 (gC.2 _ (by decide)) hz hf (pv 0)) pe_str (nomark _)) (pe_xfQ hp gC.1 (gC.2 _ (by decide)) hz hf (pv 0)) pe_non))))))), ?_⟩
    refine go [some (.ref p.1)] rfl ?_
    try dsimp only [L2.cxOf, L2H.cxH]
    unfold fldAt at hv
    walk_at "sx"
    refine x_xfv rfl hdd htag ?_
    walk_at "sx"
    refine y_ite (fun c1 => ?_) (fun c1 => ?_)
    · walk_at "sx"
      rw [if_pos c1] at hv
      exact x_xfv rfl hdd hv (k H (Same.refl _))
    · walk_at "sx"
      rw [if_neg c1] at hv
      refine x_xfv rfl hdd htag ?_
      walk_at "sx"
      refine z_tup fun p1 n1 => ?_
      have e1 := Ex.new (o := .tup [.str "InvalidText", .str "InvalidCommand"]) n1
      refine z_inStr (sq_t (st_of upd_same)) rfl ?_
      walk_at "sx"
      have i1 : inV (.str t) [.str "InvalidText", .str "InvalidCommand"] = decide (t = "InvalidText" ∨ t = "InvalidCommand") := by
        exact (inV_str t ["InvalidText", "InvalidCommand"]).trans (decide_eq_decide.mpr (by simp only [List.mem_cons, List.not_mem_nil, or_false]))
      rw [i1]
      refine y_ite (fun c2 => ?_) (fun c2 => ?_)
      · walk_at "sx"
        rw [if_pos c2] at hv
        exact x_xfv rfl (e1 _ _ hdd) hv (k _ e1)
      · walk_at "sx"
        rw [if_neg c2] at hv
        refine x_xfv rfl (e1 _ _ hdd) htag ?_
        walk_at "sx"
        refine z_tup fun p2 n2 => ?_
        have e2 := e1.trans (Ex.new (o := .tup [.str "DuplicateName", .str "InvalidName", .str "NotAState", .str "CircularProduct", .str "UndefinedName"]) n2)
        refine z_inStr (sq_t (st_of upd_same)) rfl ?_
        walk_at "sx"
        have i2 : inV (.str t) [.str "DuplicateName", .str "InvalidName", .str "NotAState", .str "CircularProduct", .str "UndefinedName"] = decide (t = "DuplicateName" ∨ t = "InvalidName" ∨ t = "NotAState" ∨ t = "CircularProduct" ∨ t = "UndefinedName") := by
          exact (inV_str t ["DuplicateName", "InvalidName", "NotAState", "CircularProduct", "UndefinedName"]).trans (decide_eq_decide.mpr (by simp only [List.mem_cons, List.not_mem_nil, or_false]))
        rw [i2]
        refine y_ite (fun c3 => ?_) (fun c3 => ?_)
        · walk_at "sx"
          rw [if_pos c3] at hv
          exact x_xfv rfl (e2 _ _ hdd) hv (k _ e2)
        · walk_at "sx"
          rw [if_neg c3] at hv
          refine x_xfv rfl (e2 _ _ hdd) htag ?_
          walk_at "sx"
          refine y_ite (fun c4 => ?_) (fun c4 => ?_)
          · walk_at "sx"
            rw [if_pos c4] at hv
            exact x_xfv rfl (e2 _ _ hdd) hv (k _ e2)
          · walk_at "sx"
            rw [if_neg c4] at hv
            obtain rfl : v = .non := hv
            exact k _ e2
end
end R

/-! # O4: the law's outcome and tag of a lambda -/
namespace R
open PySem PySem.Spec PyProof.Rows L2 L2H LamX
/-- the three classes of the clause -/
abbrev cs3 {K : PySem.W.Frag} {mg : Str → Option Value} (T : Txt K mg) : List Value := [.ref T.x_RingError, .ref T.x_UndefinedName, .ref T.x_EmptyHistory]
/-- what the clause asks of an error: its tag t, the field v -/
def hitX {K : PySem.W.Frag} {mg : Str → Option Value} (T : Txt K mg) (Q : VK) : XK := fun cls d H' => ∃ (C dd : Addr) (fs : List (Str × V)) (t : Str) (v : V), cls = .ref C ∧ d = some dd ∧ Good K C ∧ PySem.W.exmAny K (.ref C) (cs3 T) = some true ∧ H' dd = some (.xd fs) ∧
  fs.lookup ("tag" : Str) = some (.str t) ∧ fldIs fs v (fldAt t) ∧ ∀ H'', Ex H' H'' → mkT [.str t, v] H'' Q
def TOut {K : PySem.W.Frag} {mg : Str → Option Value} (T : Txt K mg) (tl : XK → Hp → VK → Prop) (H : Hp) (Q : VK) : Prop := tl (hitX T Q) H fun v H' => mkT [.str "", v] H' Q
section
variable {X : Cx} {pins : List (Addr × Obj)} {σ : L2.St} {H : Hp} {s : Shared} {params : Arguments} {body : Expr} {scope : Scope} {f c' : Addr} {pm ctv : Value} {k : Nat} {t : XK → TE}
theorem outcome_run (T : Txt X.K X.mg) (la : LamAt X pins σ H s params body scope f c' pm ctv) {A2 : Around} {outer2 : List Env} {s2 : Shared} {H2 : Hp} {Q : VK} (un0 : Un (frs outer2) [] H H2 s.heap s2.heap) (hfr : f ∉ frs outer2) (e0 : Env0 X.prog X.w X.K X.mg X.base A2 outer2 s2 H2) (hr : Room (k + 3) A2)
    (hbody : ∀ (A : Around) (outer : List Env) (s' : Shared) (H' : Hp) (E : XK), Room k (A.deeper (lamEnv X scope s'.heap.objs.size f c')) → PE (lamCx X A outer s' H' E scope f c') body (t E))
    (hc : H2 c' = some (CodeO c' (X.env.qual ++ "<lambda>"))) (h : TOut T (fun E H' Q' => t E σ H' Q') H2 Q) :
    codeAny (model X.prog X.w) A2 (.call (.ref T.outcome.f) ⟨[.ref f], []⟩) (CR (L2.CX X.prog X.w) outer2 X.prog X.w H2 s2 Q fun _ _ _ => False) s2 := by
  obtain ⟨oc, od, kV, doc, pm0, an, cdv, ct, osl, e, lk, hcd⟩ := T.outcome.F.ex
  have KI : X.K.In s2.heap := e0.mod.kin.keeps fun b o q => (e0.bs b o q).1
  have hb := T.outcome.b s2 [.ref f] KI rfl
  rw [e] at lk hb
  refine run_ofS (N := N_outcome) (ps := P_outcome) (us := [.ref f]) (vs := [.ref f]) lk hcd sc_outcome hr e0 hb (.cons rfl .nil) rfl fun hr' => ?_
  refine ⟨_, pss_one (ps_try_as3 (i := 1) rfl rfl sc_outcome.nd rfl rfl ⟨rfl, by decide, .inl T.n_RingError⟩ ⟨rfl, by decide, .inl T.n_UndefinedName⟩ ⟨rfl, by decide, .inl T.n_EmptyHistory⟩
    (fun W pn xe tk _ => pss_ex fun Ech : {E : XK // ∀ cls d (σ' : L2.St) H', σ'.length = N_outcome.length → E cls d H' → W cls d σ' H'} => pss_one (ps_ret (pe_tup (pa_cons pe_str (pa_cons (pe_act2 (i := 0) (k := k) la un0 hfr tk Ech.2 (hr'.mono (by omega)) (fun A outer s' H' hq => hbody A outer s' H' Ech.1 hq) rfl (by first | exact Or.inl rfl | exact Or.inr (Or.inl rfl))) pa_nil)))))
    (fun a oe cls d pn hz hf => pss_ex fun C : {C : Addr // Good X.K C} => pss_one (ps_ret (pe_tup (pa_cons (pe_xfQ (C := C.1) (n := "tag") List.mem_cons_self C.2.1 (C.2.2 _ (by decide)) hz hf (pv 1)) (pa_cons (pe_callQ (x := "_law_field") (X := Cx.suite (cxOf (L2.CX X.prog X.w) X.prog X.w X.K X.mg X.base N_outcome "_law_outcome" (defScope s_outcome) T.outcome.f cdv A2 outer2 s2 H2 fun _ _ _ => False) a ((a, oe) :: pn)) (k := 1) hz hf (ok_field T) ⟨(hr'.mono (by omega) : Room 1 _).dp, (hr'.mono (by omega) : Room 1 _).un⟩ List.mem_cons_self rfl T.field.g T.field.F.kp T.field.b (pa_cons (pv 1) pa_nil)) pa_nil)))))), ?_⟩
  refine ⟨⟨hitX T Q, fun cls d σ' H' hl hh => ?_⟩, ?_⟩
  · obtain ⟨C, dd, fs, tg, v, rfl, rfl, gC, hx, hdd, htag, hv, kk⟩ := hh
    obtain ⟨x0, x1, rfl⟩ : ∃ x0 x1, σ' = [x0, x1] := by
      match σ', hl with
      | [x0, x1], _ => exact ⟨x0, x1, rfl⟩
    refine ⟨hx, fun a na => ?_⟩
    refine ⟨⟨C, gC⟩, ?_⟩
    show tRet _ _ [x0, some (.ref a)] H'
    refine x_ret (x_tup (x_cons ?_))
    refine x_xfv rfl hdd htag ?_
    refine x_cons ?_
    refine x_cons (x_var rfl (x_nil ?_))
    refine ⟨C, dd, fs, tg, v, rfl, rfl, rfl, gC, hdd, htag, hv, fun H'' e => ?_⟩
    exact x_nil (kk H'' e)
  · refine x_ret (x_tup (x_cons (x_c (x_cons ?_))))
    exact ⟨rfl, hc, h⟩
end
end R

/-! # O5: _law_tag(lambda: ..), _law_outcome(lambda: ..) -/
namespace R
open PySem PySem.Spec PyProof.Rows L2 L2H LamX
theorem no_cx {P : Program} {w : World} {o : List Env} {H : Hp} {s : Shared} {e : Value} {s' : Shared} (h : L2.CX P w o H s (fun _ _ _ => False) e s') : False := by
  obtain ⟨_, _, _, _, _, _, _, _, _, _, _, _, z⟩ := h
  exact z
section
variable {X : Cx} {pins : List (Addr × Obj)} {σ : L2.St} {H : Hp} {s : Shared} {params : Arguments} {body : Expr} {scope : Scope} {f c' : Addr} {pm ctv : Value} {k : Nat} {t : XK → TE}
abbrev E0f : XK := fun _ _ _ => False
theorem pe_outIn (T : Txt X.K X.mg) {Ng : List Str} {qg : Str} {sg : Scope} {g : Addr} {cdg : Value} {i : Nat} {a : Str} {p1 p2 p3 : Pos} {A2 : Around} {outer2 : List Env} {s2 : Shared} {H2 : Hp} (la : LamAt X pins σ H s params body scope f c' pm ctv)
    (un0 : Un (frs outer2) [] H H2 s.heap s2.heap) (hfr : f ∉ frs outer2) (hr : Room (k + 3) (A2.deeper (envOfC qg sg s2.heap.objs.size g cdg)))
    (hbody : ∀ (A : Around) (outer : List Env) (s' : Shared) (H' : Hp) (E : XK), Room k (A.deeper (lamEnv X scope s'.heap.objs.size f c')) → PE (lamCx X A outer s' H' E scope f c') body (t E))
    (hg : Gl (cxOf (L2.CX X.prog X.w) X.prog X.w X.K X.mg X.base Ng qg sg g cdg A2 outer2 s2 H2 E0f) "_law_outcome") (hN : Ng[i]? = some a) (hv : Vis sg a) (hd : (a == ("__debug__" : Str)) = false) (hcd : (a == ("__classdict__" : Str)) = false) :
    PE (cxOf (L2.CX X.prog X.w) X.prog X.w X.K X.mg X.base Ng qg sg g cdg A2 outer2 s2 H2 E0f) (.Call (.Name "_law_outcome" p1) [.Name a p2] [] p3)
      (fun σZ HZ Q => σZ[i]? = some (some (.ref f)) ∧ HZ c' = some (CodeO c' (X.env.qual ++ "<lambda>")) ∧ TOut T (fun E H' Q' => t E σ H' Q') HZ Q) := by
  refine ⟨fun pinsZ sZ σZ HZ Q IZ h => ?_⟩
  obtain ⟨hs, hc, ht⟩ := h
  refine wpAny_Call_Name_kw (ld_glob IZ hg T.outcome.g ?_ (by decide))
  have ha : PA (cxOf (L2.CX X.prog X.w) X.prog X.w X.K X.mg X.base Ng qg sg g cdg A2 outer2 s2 H2 E0f) [.Name a p2] (tCons (tVar i) tNil) := pa_cons (pe_var hN hv hd hcd) pa_nil
  refine PySem.W.callWith_K (h₀ := X.base) IZ.ok.mod.kin T.outcome.F.kp (thn (ha.run p3 pinsZ sZ σZ HZ (fun vs H1 => vs = [.ref f] ∧ H1 = HZ) IZ (x_cons (x_var hs (x_nil ⟨rfl, rfl⟩)))) fun us s1 ⟨vs, H1, I1, r, e1, e2⟩ => ⟨I1.kIn, ?_⟩) (by rfl) (by rfl)
  subst e1 e2
  obtain rfl : us = [.ref f] := by
    cases r with
    | cons a b => cases b; cases a; rfl
  have un1 : Un (frs outer2) [] H H1 s.heap s1.heap := un0.trans I1.base
  have un2 : Un (frs (envOfC qg sg s2.heap.objs.size g cdg :: outer2)) [] H H1 s.heap s1.heap := un1.mono (fun b hb => by
    obtain ⟨e, he, q⟩ := List.mem_filterMap.mp hb
    exact List.mem_filterMap.mpr ⟨e, List.mem_cons_of_mem _ he, q⟩) (fun b hb => hb)
  have of2 := un0.keep f _ la.obj la.new hfr (fun z => nomatch (show f ∈ ([] : List Addr) from z))
  have hfr2 : f ∉ frs (envOfC qg sg s2.heap.objs.size g cdg :: outer2) := fun hm => by
    obtain ⟨e, he, q⟩ := List.mem_filterMap.mp hm
    rcases List.mem_cons.mp he with rfl | he
    · have q' : some s2.heap.objs.size = some f := q
      have : f < s2.heap.objs.size := Heap.lt_size of2
      exact absurd (Option.some.inj q') (Nat.ne_of_gt this)
    · exact hfr (List.mem_filterMap.mpr ⟨e, he, q⟩)
  refine wpAny_call (codeAny_mono (outcome_run T la un2 hfr2 I1.env0 hr hbody hc ht) fun r s' hq => ?_)
  cases r with
  | error e => exact (no_cx hq).elim
  | ok fl =>
    cases fl with
    | ret u => exact I1.after hq
    | next => exact False.elim hq
    | brk => exact False.elim hq
    | cont => exact False.elim hq
/-- x(lambda: body) for a def x, its run told of the very state -/
theorem pe_lamG {TT : List (Addr × Str)} {x a : Str} {st : Stmt} {c P : Addr} {Rd0 : L2.St → Hp → VK → Prop} {p lpos pos : Pos} (d : DF X.K X.mg x st [a]) (hg : Gl X x)
    (TB : TabB X.base X.mg c P) (hcode : X.env.code = .ref c) (hmT : (P, X.env.qual ++ "<lambda>") ∈ TT) (hu : ∀ p ∈ TT, p.1 = P → p.2 = X.env.qual ++ "<lambda>") (L : LamS X.env.scope scope) (hdef : defaultsOf params X.env = ([], []))
    (hbind : ∀ (q : Str) (cl : List (Str × Addr)) (pm cv ctv : Value), bindArgs (PySem.W.kla_fn "<lambda>" q params body scope cl pm cv ctv) ⟨[], []⟩ = pure [])
    (hrun : ∀ (pins : List (Addr × Obj)) (σ : L2.St) (H : Hp) (s : Shared) (f c' : Addr) (pm ctv : Value) (Q : VK), LamAt X pins σ H s params body scope f c' pm ctv → f ∉ frs X.stack → H c' = some (CodeO c' (X.env.qual ++ "<lambda>")) → Rd0 σ H Q →
      codeAny (model X.prog X.w) X.A (.call (.ref d.f) ⟨[.ref f], []⟩) (CR (L2.CX X.prog X.w) X.stack X.prog X.w H s Q fun _ _ _ => False) s)
    (hdb : (x == ("__debug__" : Str)) = false := by decide) :
    PE X (.Call (.Name x p) [.Lambda params body scope lpos] [] pos) (fun σ H Q => Tabs TT H ∧ ∀ H1, ExtN H H1 → Tabs TT H1 → Rd0 σ H1 Q) := by
  refine ⟨fun pins s σ H Q I h => ?_⟩
  obtain ⟨hT, h⟩ := h
  refine wpAny_Call_Name_kw (ld_glob I hg d.g ?_ hdb)
  refine PySem.W.callWith_K (h₀ := X.base) I.ok.mod.kin d.F.kp ?_ (by rfl) (by rfl)
  show wpAny _ _ (spliced ((false, eval (.Lambda params body scope lpos) X.env) :: backTo pos (starEach [] X.env))) _ _ s
  refine Calls.spliced_cons (lam_make2 I TB hcode hmT hu hT hdef (L.has I.ok) fun f c' pm' ctv H1 s' I1 eN T1 hf hfn hfr hco => ?_)
  refine Calls.spliced_nil ⟨I1.kIn, ?_⟩
  refine wpAny_call (codeAny_mono (hrun pins σ H1 s' f c' pm' ctv Q ⟨I1, L, hf, hfn, hbind _ _ _ _ _⟩ hfr hco (h H1 eN T1)) fun r s2 hq => ?_)
  cases r with
  | error e => exact (no_cx hq).elim
  | ok fl =>
    cases fl with
    | ret u => exact I1.after hq
    | next => exact False.elim hq
    | brk => exact False.elim hq
    | cont => exact False.elim hq
def tLamOut {K : PySem.W.Frag} {mg : Str → Option Value} (T : Txt K mg) (TT : List (Addr × Str)) (t : XK → TE) : TE := fun σ H Q => Tabs TT H ∧ ∀ H1, ExtN H H1 → Tabs TT H1 → TOut T (fun E H' Q' => t E σ H' Q') H1 Q
theorem pe_lamOut (T : Txt X.K X.mg) {TT : List (Addr × Str)} {c P : Addr} {p lpos pos : Pos} (hg : Gl X "_law_outcome")
    (TB : TabB X.base X.mg c P) (hcode : X.env.code = .ref c) (hmT : (P, X.env.qual ++ "<lambda>") ∈ TT) (hu : ∀ p ∈ TT, p.1 = P → p.2 = X.env.qual ++ "<lambda>") (hr : Room (k + 4) X.A) (L : LamS X.env.scope scope) (hdef : defaultsOf params X.env = ([], []))
    (hbind : ∀ (q : Str) (cl : List (Str × Addr)) (pm cv ctv : Value), bindArgs (PySem.W.kla_fn "<lambda>" q params body scope cl pm cv ctv) ⟨[], []⟩ = pure [])
    (hbody : ∀ (A : Around) (outer : List Env) (s' : Shared) (H' : Hp) (E : XK) (f c' : Addr), Room k (A.deeper (lamEnv X scope s'.heap.objs.size f c')) → PE (lamCx X A outer s' H' E scope f c') body (t E)) :
    PE X (.Call (.Name "_law_outcome" p) [.Lambda params body scope lpos] [] pos) (tLamOut T TT t) :=
  pe_lamG T.outcome hg TB hcode hmT hu L hdef hbind fun _ _ _ _ f c' _ _ _ la hfr hc h => outcome_run T la Un.refl hfr la.inv.env0 (hr.mono (by omega)) (fun A outer s' H' E q => hbody A outer s' H' E f c' q) hc h
end
end R

/-! # O6: the law's def with its own code object -/
namespace R
open PySem PySem.Spec PyProof.Rows L2 LamX
section
variable {P : Program} {w : World} {K : PySem.W.Frag} {mg : Str → Option Value} {base : Heap}
theorem ok_ofL {x : Str} {st : Stmt} {ps N : List Str} {k : Nat} {sp : Sp} (d : DF K mg x st ps) {c : Addr} (hc : d.fd.code = .ref c) (S : FnScope N ps (defScope st)) (len : ∀ vs H Q E, sp vs H Q E → vs.length = ps.length)
    (hbody : ∀ (A : Around) (outer : List Env) (s : Shared) (H : Hp) (vs : List V) (Q : VK) (E : XK), Room k (A.deeper (envOfC x (defScope st) s.heap.objs.size d.f (.ref c))) → sp vs H Q E →
      ∃ t, PSs (cxOf (L2.CX P w) P w K mg base N x (defScope st) d.f (.ref c) A outer s H E) (defBody st) t ∧ t { nx := fun _ H' => Q .non H', rt := Q } (L2.start N vs) H) : Ok P w K mg base (k + 1) d sp := by
  obtain ⟨oc, od, kV, doc, pm, an, cdv, ct, osl, e, lk, hcd⟩ := d.F.ex
  rw [e] at lk hc
  have hc' : cdv = .ref c := hc
  subst hc'
  have := fn_of (CX := L2.CX P w) (P := P) (w := w) (mg := mg) (base := base) (k := k) (sp := sp) lk hcd S len hbody
  rw [← e] at this
  exact this
end
section
variable {X : Cx} {A : Around} {outer : List Env} {s : Shared} {H : Hp} {E : XK} {scope : Scope} {f c' : Addr}
/-- an error of a callee leaves the lambda -/
theorem passLam : Passes (L2.CX (lamCx X A outer s H E scope f c').prog (lamCx X A outer s H E scope f c').w) (lamCx X A outer s H E scope f c') E := passes_call (W := fun cls d _ H => E cls d H) (takes_of rfl rfl rfl rfl) (fun _ _ _ _ h => h)
end
section
variable {K : PySem.W.Frag} {mg : Str → Option Value} {T : Txt K mg} {C : Addr} {fs : List (Str × V)} {t : Str} {v : V} {H : Hp} {Q : VK}
/-- the tag of an error that the clause catches -/
theorem use_hit (g : Good K C) (hx : PySem.W.exmAny K (.ref C) (cs3 T) = some true) (ht : fs.lookup ("tag" : Str) = some (.str t)) (hv : fldIs fs v (fldAt t)) (k : ∀ H'', Ex H H'' → Q (.str t) H'') : Er (hitX T fun v H' => sIx K v (.int 0) H' Q) C fs H := fun d H' nd hd e =>
  ⟨C, d, fs, t, v, rfl, rfl, g, hx, hd, ht, hv, fun H'' e2 => z_tup fun p np => z_ix (sq_t (st_of upd_same)) rfl (k _ ((e.trans e2).trans (Ex.new np)))⟩
/-- the pair of tag and field -/
theorem use_hitO (g : Good K C) (hx : PySem.W.exmAny K (.ref C) (cs3 T) = some true) (ht : fs.lookup ("tag" : Str) = some (.str t)) (hv : fldIs fs v (fldAt t)) (k : ∀ p H'', H p = none → Ex H H'' → H'' p = some (.tup [.str t, v]) → Q (.ref p) H'') : Er (hitX T Q) C fs H := fun d H' nd hd e =>
  ⟨C, d, fs, t, v, rfl, rfl, g, hx, hd, ht, hv, fun H'' e2 => z_tup fun p np => k p _ (Ex.none (e.trans e2) np) ((e.trans e2).trans (Ex.new np)) upd_same⟩
end
theorem x_lamOut {K : PySem.W.Frag} {mg : Str → Option Value} {T : Txt K mg} {TT : List (Addr × Str)} {t : XK → TE} {σ : L2.St} {H : Hp} {Q : VK} (h1 : Tabs TT H) (h : ∀ H1, ExtN H H1 → Tabs TT H1 → t (hitX T Q) σ H1 fun v H' => mkT [.str "", v] H' Q) : tLamOut T TT t σ H Q := ⟨h1, h⟩
theorem fld_none {fs : List (Str × V)} {t : Str} (h : fldAt t = none) : fldIs fs .non (fldAt t) := by
  rw [h]
  rfl
/-- the law's promise with a table at P -/
abbrev lamQ : Str := (envOfC "law" ⟨.function, [], false, false, []⟩ 0 0 .none).qual ++ "<lambda>"
end R

/-! # WL: tag and outcome of a lambda, the law's beginning -/
namespace R
open PySem PySem.Spec PyProof.Rows L2 L2H LamX
/-- an error that the law's clause catches, its tag and field -/
def hitE {K : PySem.W.Frag} {mg : Str → Option Value} (T : Txt K mg) (k : Str → V → Prop) : ErP := fun Cx fs => Good K Cx ∧ PySem.W.exmAny K (.ref Cx) (cs3 T) = some true ∧ ∃ tg v, fs.lookup ("tag" : Str) = some (.str tg) ∧ fldIs fs v (fldAt tg) ∧ k tg v
theorem hit {K : PySem.W.Frag} {mg : Str → Option Value} {T : Txt K mg} {k : Str → V → Prop} {C : Addr} {fs : List (Str × V)} {tg : Str} {v : V} (g : Good K C) (hx : PySem.W.exmAny K (.ref C) (cs3 T) = some true) (h : k tg v) (ht : fs.lookup ("tag" : Str) = some (.str tg) := by rfl) (hv : fldIs fs v (fldAt tg) := by first | exact fld_none (by decide) | rfl) : hitE T k C fs := ⟨g, hx, tg, v, ht, hv, h⟩
/-- the slots that hold data -/
def slD : Sl → Sl
  | [] => []
  | some (.d x) :: r => some (.d x) :: slD r
  | _ :: r => none :: slD r
theorem slD_ok {P P' : V → Sd → Prop} (h : ∀ v x, P v (.d x) → P' v (.d x)) : ∀ {σ : L2.St} {sl : Sl}, SlOk P σ sl → SlOk P' σ (slD sl)
  | [], [], _ => trivial
  | _ :: σ, none :: sl, q => slD_ok (σ := σ) (sl := sl) h q
  | _ :: _, some (.d _) :: _, ⟨⟨v, e, q⟩, q2⟩ => ⟨⟨v, e, h _ _ q⟩, slD_ok h q2⟩
  | _ :: σ, some (.c _) :: sl, ⟨_, q2⟩ => slD_ok (σ := σ) (sl := sl) h q2
  | _ :: σ, some .r :: sl, ⟨_, q2⟩ => slD_ok (σ := σ) (sl := sl) h q2
  | [], _ :: _, q => by cases ‹Option Sd› <;> exact q.elim
  | _ :: _, [], q => q.elim
section
variable {K : PySem.W.Frag} {mg : Str → Option Value} {C : Addr} {fr : Addr → Prop} {rg : Option (Addr × Addr)} {H0 : Hp} {TT : List (Addr × Str)} {cs : Cs} {sl : Sl} {st : List Sd} {Q : Sd → Cs → Prop}
theorem RepA.lam {W : Wo} {as : List Addr} {H H' : Hp} {σ : L2.St} {ws : List V} (R : RepA W as H σ ws cs sl st) (hT : W.TT ≠ []) (e : ExtN H H') (t : Tabs W.TT H') : RepA W as H' σ ws cs sl st :=
  R.step (fun b o hb _ ht => e b o hb (ht.elim (fun z => absurd z hT) id)) (fun p hp => (R.rng p hp).2.en e) t
/-- within the lambda: all that stands is kept -/
theorem RepA.within {as : List Addr} {H : Hp} {σ : L2.St} {ws : List V} (R : RepA ⟨K, C, fr, rg, H0, TT⟩ as H σ ws cs sl st) : Rep ⟨K, C, Av ⟨K, C, fr, rg, H0, TT⟩ as cs, none, H, []⟩ H σ [] [] (slD sl) [] :=
  ⟨[], rfl, List.nodup_nil, fun _ h => absurd h List.not_mem_nil, fun a h => R.alloc h, fun _ _ _ h _ => h, fun _ h => (nomatch h), fun _ h => absurd h List.not_mem_nil, fun i _ _ h => by simp at h, slD_ok (fun v x h => (show Dv K C _ H v x from h).step (fun _ _ q _ _ => q) fun b o q _ => q.elim id fun q => q.elim (fun ⟨p, hp, _⟩ => (nomatch hp)) fun ⟨k, hk, _⟩ => by simp at hk) R.sl, trivial⟩
theorem RepA.back {as : List Addr} {H H' : Hp} {σ σ2 : L2.St} {ws ws2 : List V} {cs2 : Cs} {sl2 : Sl} {st2 : List Sd} (R : RepA ⟨K, C, fr, rg, H0, TT⟩ as H σ ws cs sl st) (R2 : Rep ⟨K, C, Av ⟨K, C, fr, rg, H0, TT⟩ as cs, none, H, []⟩ H' σ2 ws2 cs2 sl2 st2) : Ex H H' ∧ RepA ⟨K, C, fr, rg, H0, TT⟩ as H' σ ws cs sl st := by
  obtain ⟨as2, R2⟩ := R2
  have e : Ex H H' := fun b o h => R2.kp rfl b o h fun p hp => (nomatch hp)
  exact ⟨e, R.ex e⟩
theorem Sl.eq {sl sl' : Sl} (h : slD sl = sl') : slD sl = sl' := h
/-- outcome(lambda: ..) -/
theorem w_lamOut {T : Txt K mg} {t : XK → TE} {sl' : Sl} {TT TT' : List (Addr × Str)} (ht : TT = TT') (hs : slD sl = sl') (hT : TT ≠ []) (q : ∀ E fr' H1, EOk ⟨K, C, fr', none, H1, []⟩ E (hitE T fun tg v => ∃ d, ScD v d ∧ Q (.d (.tup [.str tg, d])) cs) → wE ⟨K, C, fr', none, H1, []⟩ (t E) [] sl' [] fun x _ => DatK (fun d => Q (.d (.tup [.str "", d])) cs) x) : wE ⟨K, C, fr, rg, H0, TT⟩ (tLamOut T TT' t) cs sl st Q := fun H σ ws R Q' k => by
  subst ht
  subst hs
  obtain ⟨as, R⟩ := R
  refine x_lamOut R.tab fun H1 e1 t1 => ?_
  have R1 := R.lam hT e1 t1
  refine q _ _ H1 (fun Cx fs H2 σ2 ws2 cs2 sl2 st2 hE R2 => ?_) H1 σ [] R1.within _ fun x cs2 v H2 h2 R2 => ?_
  · obtain ⟨g, hx, tg, v, ht, hv, d, hd, hk⟩ := hE
    refine use_hitO g hx ht hv fun p H3 np e3 hp => k _ _ _ _ hk ?_
    have R3 := (R1.back R2).2.ex e3
    exact ⟨as, R3.one (.tup hp ((R1.back R2).2.fresh np).1 (Nat.le_of_ble_eq_true rfl) (.cons (.str _) (.cons (hd _ _ _ _) .nil)))⟩
  · obtain ⟨d, rfl, h2⟩ := datk_of h2
    refine z_tup fun p np => ?_
    refine k _ _ _ _ h2 ?_
    have R3 := (R1.back R2).2
    obtain ⟨as2, R2⟩ := R2
    have hd : Dv K C (Av ⟨K, C, fr, rg, H0, TT⟩ as cs) H2 v d := R2.st.1.step (fun _ _ q _ _ => q) fun b o q _ => .inl q
    exact new_tup (vs := [.str "", v]) (ds := [.str "", d]) ⟨as, R3.all (.cons (.str _) (.cons hd .nil))⟩ rfl (Nat.le_of_ble_eq_true rfl) np
end
end R

/-! # LB: the law's beginning -/
namespace R
open PySem PySem.Spec PyProof.Rows L2 L2H LamX
section
variable {K : PySem.W.Frag} {C : Addr} {TT : List (Addr × Str)}
/-- the law: the source is made, then the rest -/
abbrev deL : DE := { nx := fun _ _ => False, rt := fun sd _ => sd = .d (.bl true) }
theorem rtl {cs : Cs} : deL.rt (.d (.bl true)) cs := rfl
theorem law_begin {H : Hp} {a : Addr} {ns : List Int} {Q : VK} {E : XK} {rest : TS} {n : Nat} {nx : L2.St → Hp → Prop} (hS : SqL K H a (ns.map V.int)) (hT : Tabs TT H) (k : ∀ H', Q (.bl true) H')
    (q : ∀ (rl : Addr × Addr) (H0 : Hp), wS ⟨K, C, fun _ => False, some rl, H0, TT⟩ rest [] (none :: some .r :: List.replicate n none) [] deL) : tSeq (tAsg (tCall (spSource K) [] E (tCons (tVar 0) tNil)) (gName 1)) rest { nx := nx, rt := Q } (some (.ref a) :: none :: List.replicate n none) H := by
  refine x_seq (x_asg (x_call (x_cons (x_var rfl (x_nil ⟨a, ns, rfl, hS, fun H1 r l e1 nr nl R1 => ?_⟩)))))
  refine q (r, l) H1 H1 _ [] ⟨[], rfl, List.nodup_nil, fun _ h => absurd h List.not_mem_nil, fun _ h => h.elim, fun _ _ _ h _ => h, fun p hp => ?_, hT.ext e1, fun i _ _ h => by simp at h, ?_, trivial⟩ _ ⟨fun _ _ _ _ h => h.elim, fun sd cs v H' σ ws sl st h R => ?_, fun _ _ _ _ h => h.elim, fun _ _ _ _ h => h.elim⟩
  · cases hp
    exact ⟨fun h => h, R1⟩
  · refine ⟨⟨_, rfl, (r, l), rfl, rfl⟩, ?_⟩
    have : ∀ (P : V → Sd → Prop) (n : Nat), SlOk P (List.replicate n none) (List.replicate n none) := fun P n => by
      induction n with
      | zero => exact trivial
      | succ n ih => exact ih
    exact this _ n
  · cases h
    obtain rfl := R.bl
    exact k H'
end
end R

/-! # WS: the reading over data as one word, "wx" -/
local macro_rules | `(tactic| walk_at "gt") => `(tactic| first
  | (apply R.gt_name; decide)
  | (apply R.gt_tup; walk_at "gt")
  | (apply R.gt_cons; (walk_at "gt"); walk_at "gt")
  | exact R.gt_nil)
local macro_rules | `(tactic| walk_at "wE") => `(tactic| first
  | with_reducible refine R.w_pickC ?_
  | with_reducible refine R.w_dnew ?_
  | with_reducible refine R.w_cI ?_
  | with_reducible refine R.w_cS ?_
  | with_reducible refine R.w_cB ?_
  | with_reducible refine R.w_cN ?_
  | ((with_reducible apply R.w_dix); (exact rfl); (exact Nat.le_of_ble_eq_true rfl))
  | ((with_reducible apply R.w_var); exact rfl)
  | ((with_reducible apply R.w_lenSc); (first | (simp only [R.wipeS, List.map_cons, List.map_nil, List.set_cons_succ, List.set_cons_zero]; done) | (simp only [R.wipeS, List.map_cons, List.map_nil, List.set_cons_succ, List.set_cons_zero]; exact rfl) | exact rfl); (rotate_left; (walk_at "gt")))
  | with_reducible refine R.w_own ?_
  | with_reducible refine R.w_op ?_
  | with_reducible refine R.w_callS (by first | assumption | exact R.eok0) ?_
  | with_reducible refine R.w_call (by first | assumption | exact R.eok0) ?_
  | with_reducible refine R.w_callR ?_
  | with_reducible refine R.w_isi ?_
  | with_reducible refine R.w_isiT ?_
  | with_reducible refine R.w_cb ?_
  | with_reducible refine R.w_tup ?_
  | with_reducible refine R.w_revT ?_
  | ((with_reducible apply R.w_fld1); assumption)
  | ((with_reducible apply R.w_fld2); assumption)
  | ((with_reducible apply R.w_fld3); assumption)
  | ((with_reducible apply R.w_fld4); assumption)
  | with_reducible refine R.w_newLc ?_
  | with_reducible refine R.w_newLc2 ?_
  | with_reducible refine R.w_newLst ?_
  | with_reducible refine R.w_newLrg ?_
  | with_reducible refine R.w_meth (by first | assumption | exact R.eok0) ?_
  | with_reducible refine R.w_callN (by first | assumption | exact R.eok0) ?_
  | ((with_reducible apply R.w_callD); (first | exact R.scall1I | exact R.scall1N); (first | assumption | exact R.eok0))
  | ((with_reducible apply R.w_lamTag); (exact rfl); (first | (simp only [R.slD]; done) | (simp only [R.slD]; exact rfl) | exact rfl); (exact List.cons_ne_nil _ _); intros)
  | ((with_reducible apply R.w_lamOut); (exact rfl); (first | (simp only [R.slD]; done) | (simp only [R.slD]; exact rfl) | exact rfl); (exact List.cons_ne_nil _ _); intros)
  | ((with_reducible apply R.w_callT); (exact rfl))
  | with_reducible refine R.w_dsetdT ?_
  | with_reducible refine R.w_dgetH ?_
  | with_reducible refine R.w_dnewT ?_
  | with_reducible refine R.w_dgetT ?_
  | with_reducible refine R.w_dninT ?_
  | with_reducible refine R.w_disp1T ?_
  | with_reducible refine R.w_dgetC ?_
  | with_reducible refine R.w_dget2C ?_
  | with_reducible refine R.w_dinC ?_
  | with_reducible refine R.w_dninC ?_
  | with_reducible refine R.w_disp1 ?_
  | ((with_reducible apply R.w_cget); assumption)
  | with_reducible refine R.w_if ?_
  | with_reducible refine R.w_andV ?_
  | with_reducible refine R.w_orV ?_
  | with_reducible refine R.w_notV ?_
  | with_reducible refine R.w_chain ?_
  | with_reducible refine R.w_un ?_
  | with_reducible refine R.w_bmT ?_
  | with_reducible refine R.w_bm ?_
  | with_reducible refine R.w_bm0 ?_
  | with_reducible refine R.w_m1 ?_
  | with_reducible refine R.w_sl ?_)
local macro_rules | `(tactic| walk_at "wS") => `(tactic| first
  | with_reducible refine R.w_seq ?_
  | with_reducible refine R.w_asgT ?_
  | with_reducible refine R.w_asg ?_
  | with_reducible refine R.w_ifS ?_
  | with_reducible refine R.w_ret ?_
  | with_reducible refine R.w_drop ?_
  | with_reducible refine R.w_next ?_
  | with_reducible refine R.w_par ?_
  | with_reducible refine R.w_par3 ?_
  | with_reducible refine R.w_for ?_
  | ((with_reducible apply R.w_rs0); assumption)
  | ((with_reducible apply R.w_rs1); assumption)
  | ((with_reducible apply R.w_augI); exact rfl)
  | with_reducible refine R.w_brk ?_
  | with_reducible refine R.w_cont ?_
  | with_reducible refine R.w_retN ?_
  | with_reducible refine R.w_dput ?_
  | with_reducible refine R.w_dputT ?_)
local macro_rules | `(tactic| walk_at "wA") => `(tactic| first
  | with_reducible refine R.w_cons ?_
  | with_reducible refine R.w_nil ?_)
local macro_rules | `(tactic| walk_at "wO") => `(tactic| first
  | with_reducible refine R.o_addI ?_
  | with_reducible refine R.o_sub ?_
  | ((with_reducible refine R.o_pow ?_ ?_); decide)
  | ((with_reducible refine R.o_mod ?_ ?_); omega)
  | ((with_reducible refine R.o_div ?_ ?_ ?_); omega; omega)
  | ((with_reducible refine R.o_mulR ?_ ?_); omega)
  | ((with_reducible refine R.o_mulL ?_ ?_); omega)
  | with_reducible refine R.o_lt ?_
  | with_reducible refine R.o_le ?_
  | with_reducible refine R.o_gt ?_
  | with_reducible refine R.o_ge ?_
  | with_reducible refine R.o_eqI ?_
  | with_reducible refine R.o_neI ?_
  | with_reducible refine R.o_eqS ?_
  | with_reducible refine R.o_neS ?_
  | with_reducible refine R.o_eqB ?_
  | with_reducible refine R.o_neB ?_
  | with_reducible refine R.o_is ?_
  | with_reducible refine R.o_isnot ?_
  | with_reducible refine R.o_isB ?_
  | with_reducible refine R.o_isnotB ?_
  | with_reducible refine R.o_inC ?_
  | with_reducible refine R.o_ninC ?_)
local macro_rules | `(tactic| walk_at "wC") => `(tactic| first
  | with_reducible refine R.o_len (ds := _) ?_ rfl
  | ((with_reducible refine R.o_divmod ?_ ?_); omega)
  | with_reducible refine R.o_intI ?_
  | with_reducible refine R.o_intB ?_
  | with_reducible refine R.o_strS ?_
  | with_reducible refine R.o_abs ?_
  | with_reducible refine R.o_min2 ?_
  | with_reducible refine R.o_max2 ?_
  | with_reducible refine R.o_tupleK ?_
  | with_reducible refine R.o_tupleN (ts := _) ?_ rfl
  | with_reducible refine R.o_tuple (ds := _) ?_ rfl
  | with_reducible refine R.o_listD (ds := _) ?_ rfl)
local macro_rules | `(tactic| walk_at "wT") => `(tactic| first
  | with_reducible refine R.w_test ?_
  | with_reducible refine R.w_tB ?_
  | with_reducible refine R.w_and ?_
  | with_reducible refine R.w_or ?_
  | with_reducible refine R.w_not ?_
  | with_reducible refine R.w_yes ?_)
local macro_rules | `(tactic| walk_at "wG") => `(tactic| first
  | ((with_reducible apply R.w_name); (first | (simp only [List.set_cons_succ, List.set_cons_zero]; done) | (simp only [List.set_cons_succ, List.set_cons_zero]; exact rfl) | exact rfl))
  | ((with_reducible apply R.w_gtup); (exact rfl))
  | with_reducible refine R.w_sub ?_)
local macro_rules | `(tactic| walk_at "wN") => `(tactic| first
  | with_reducible refine R.w_lst ?_
  | with_reducible refine R.w_lrg1 ?_
  | ((with_reducible apply R.w_lc); (first | (simp only [R.wipeS, List.map_cons, List.map_nil, List.set_cons_succ, List.set_cons_zero]; done) | (simp only [R.wipeS, List.map_cons, List.map_nil, List.set_cons_succ, List.set_cons_zero]; exact rfl) | exact rfl); (rotate_left; (walk_at "gt")))
  | ((with_reducible apply R.w_lc2); (first | (simp only [R.wipeS, List.map_cons, List.map_nil, List.set_cons_succ, List.set_cons_zero]; done) | (simp only [R.wipeS, List.map_cons, List.map_nil, List.set_cons_succ, List.set_cons_zero]; exact rfl) | exact rfl); (rotate_left; (focus (walk_at "gt")); (focus (walk_at "gt"))))
  | with_reducible refine R.w_cbN ?_
  | with_reducible refine R.w_opN ?_
  | with_reducible refine R.w_callNO (by first | assumption | exact R.eok0) ?_
  | with_reducible refine R.w_callO (by first | assumption | exact R.eok0) ?_
  | with_reducible refine R.w_callRO ?_
  | with_reducible refine R.w_methO (by first | assumption | exact R.eok0) ?_
  | with_reducible refine R.w_slN ?_)
local macro_rules | `(tactic| walk_at "wI") => `(tactic| first
  | with_reducible refine R.w_iS ?_
  | with_reducible refine R.w_r1 ?_
  | with_reducible refine R.w_r2 ?_
  | with_reducible refine R.w_enum ?_
  | with_reducible refine R.w_zip ?_
  | with_reducible refine R.w_zipM ?_
  | with_reducible refine R.w_zipR ?_)
local macro_rules | `(tactic| walk_at "wX") => `(tactic| first
  | ((with_reducible apply R.atk); (exact rfl); (exact Nat.le_of_ble_eq_true rfl))
  | ((with_reducible apply R.argc_cons); exact rfl)
  | with_reducible refine R.argc_nil ?_
  | ((with_reducible apply R.rts_d); exact rfl)
  | with_reducible refine R.ad_cons ?_
  | with_reducible refine R.ad_nil ?_
  | with_reducible refine R.ad_r ?_
  | with_reducible refine R.w_len (Nat.le_of_ble_eq_true rfl) ?_
  | ((with_reducible apply R.kw01); exact rfl; exact rfl)
  | ((with_reducible apply R.kw11); exact rfl; exact rfl)
  | ((with_reducible apply R.kw21); exact rfl; exact rfl)
  | with_reducible refine R.w_blk ?_
  | with_reducible refine R.eqk ?_
  | with_reducible refine R.datk ?_
  | with_reducible refine R.mack ?_
  | with_reducible refine R.tupk ?_
  | with_reducible refine R.m1k ?_
  | with_reducible refine R.rtk_d ?_
  | with_reducible refine R.rtk_n ?_
  | with_reducible refine R.rtn ?_
  | with_reducible refine R.rtf_d ?_
  | with_reducible refine R.rtf_c rfl ?_
  | with_reducible refine R.w_two ?_
  | with_reducible refine R.w_thr ?_
  | ((with_reducible apply R.w_setk); (first | (simp only [List.set_cons_succ, List.set_cons_zero]; done) | (simp only [List.set_cons_succ, List.set_cons_zero]; exact rfl) | exact rfl))
  | with_reducible refine R.w_gconsD ?_
  | with_reducible refine R.w_gnilD ?_
  | with_reducible refine R.w_gcons ?_
  | with_reducible refine R.w_gnil ?_
  | with_reducible refine R.r1k ?_
  | with_reducible refine R.r2k ?_
  | with_reducible refine R.e1k ?_
  | with_reducible refine R.e1kt ?_
  | with_reducible refine R.e1kk ?_
  | with_reducible refine R.z2k ?_
  | with_reducible refine R.z2kt ?_
  | with_reducible refine R.z2kk ?_
  | with_reducible refine R.z3k ?_
  | with_reducible refine R.z3kt ?_
  | with_reducible refine R.w_nopart ?_
  | with_reducible refine R.w_part ?_
  | with_reducible refine R.tya_c rfl ?_
  | with_reducible refine R.tya_l ?_
  | with_reducible refine R.tya_s ?_
  | with_reducible refine R.ktk ?_
  | with_reducible refine R.m_countN ?_
  | with_reducible refine R.o_negI ?_
  | with_reducible refine R.o_list (ds := _) ?_ rfl
  | with_reducible refine R.m_clear ?_ rfl rfl
  | ((with_reducible apply R.isi); (exact rfl); (walk_at "ki"))
  | ((with_reducible apply R.isiT); (exact rfl); (walk_at "ki"); (walk_at "ki"))
  | with_reducible refine R.o_lenDT rfl ?_
  | with_reducible refine R.y_yesD ?_
  | with_reducible refine R.y_neR ?_
  | ((with_reducible refine R.y_noD ?_ ?_); focus (intro z; cases z; done))
  | with_reducible refine R.y_ff ?_
  | with_reducible refine R.y_tx ?_
  | with_reducible refine R.y_ft ?_
  | with_reducible refine R.y_nt ?_
  | with_reducible refine R.y_nf ?_
  | with_reducible refine R.y_dyes ?_
  | with_reducible refine R.y_dno ?_)
local macro_rules | `(tactic| walk_at "wx") => `(tactic| repeat (first
  | with_reducible refine L2.iteT ?_
  | with_reducible refine L2.iteF ?_
  | ((with_reducible refine R.hdE ?_); walk_at "wE")
  | ((with_reducible refine R.hdS ?_); walk_at "wS")
  | ((with_reducible refine R.hdA ?_); walk_at "wA")
  | ((with_reducible refine R.hdO ?_); walk_at "wO")
  | ((with_reducible refine R.hdC ?_); walk_at "wC")
  | ((with_reducible refine R.hdT ?_); walk_at "wT")
  | ((with_reducible refine R.hdG ?_); walk_at "wG")
  | ((with_reducible refine R.hdN ?_); walk_at "wN")
  | ((with_reducible refine R.hdI ?_); walk_at "wI")
  | walk_at "wX"))

/-! # WD: the law's draws, over data -/
namespace R
open PySem PySem.Spec PyProof.Rows L2
section
variable {P : Program} {w : World} {K : PySem.W.Frag} {mg : Str → Option Value} {base : Heap}
def dDraw : List D → (Rt → Prop) → Prop := fun ds Q => ∃ m : Int, ds = [.int m] ∧ 0 < m ∧ m < 2 ^ 200 ∧ ∀ n : Int, 0 ≤ n → n < m → Q (.d (.int n))
theorem okd_draw (T : Txt K mg) : Ok P w K mg base 1 T.draw (liftR K T.mC dDraw) := FnOk.weaken (ok_draw T) fun vs H Q E h => by
  obtain ⟨r, l, vs', av, ds, Qd, rfl, hR, h0, h1, ⟨m, rfl, m0, m1, k⟩, h3⟩ := h
  cases h1 with
  | cons a b =>
    cases a
    cases b
    exact ⟨r, l, m, rfl, hR, m0, m1, fun n H' n0 n1 kp R => h3 _ _ H' (k n n0 n1) kp R (.int n)⟩
theorem use_dDraw {Q : Rt → Prop} {m : Int} (k : ∀ n : Int, 0 ≤ n → n < m → Q (.d (.int n))) (h : 0 < m ∧ m < 2 ^ 200 := by omega) : dDraw [.int m] Q := ⟨m, rfl, h.1, h.2, k⟩
theorem use_dDrawN {Q : Rt → Prop} {m : Int} (j : Nat) (k : ∀ n : Nat, n < j → Q (.d (dn n))) (e : m = j := by omega) (h : 0 < j ∧ j ≤ 1000000 := by omega) : dDraw [.int m] Q := by
  subst e
  refine use_dDraw (fun n n0 n1 => ?_) (by omega)
  obtain ⟨i, rfl⟩ : ∃ i : Nat, n = i := ⟨n.toNat, by omega⟩
  exact k i (by omega)
def dPick : List D → (Rt → Prop) → Prop := fun ds Q => ∃ x items, ds = [x] ∧ (x = .lst items ∨ x = .tup items ∨ ∃ z : Str, x = .str z ∧ z.length ≤ 900000 ∧ items = z.cps.toList.map fun c => .str ⟨#[c]⟩) ∧ 0 < items.length ∧ items.length ≤ 900000 ∧ ∀ y ∈ items, Q (.d y)
theorem ati_lt {α : Type} {xs : List α} {i : Int} (h0 : 0 ≤ i) (h1 : i < (xs.length : Int)) : ∃ v, atI xs i = some v ∧ v ∈ xs := by
  obtain ⟨v, a, b⟩ := atN h0 h1
  exact ⟨v, b, List.mem_of_getElem? a⟩
theorem ok_pick (T : Txt K mg) : Ok P w K mg base 2 T.pick (liftR K T.mC dPick) := by
  have ok_draw := fun T : Txt K mg => okd_draw (P := P) (w := w) (base := base) T
  refine ok_R T.pick sc_pick (fun ds Q h => ?_) fun cdv A outer s H E ds Q fr rl hr h he => ?_
  · obtain ⟨x, items, rfl, _⟩ := h
    rfl
  · obtain ⟨x, items, rfl, hx, h0, hl, k⟩ := h
    refine ⟨_, ((pss_one (ps_ret (pe_ix ix_s (pv 1) (pcall T.draw (ok_draw T) (hr.mono (by omega)) passE (pa_cons (pv 0) (pa_cons (pe_callB call_sLen (by rfl) T.b_len (by decide +kernel) (pa_cons (pv 1) pa_nil)) pa_nil))) (fun _ _ => rfl))))), ?_⟩
    show wS _ _ [] [some .r, some (.d x)] [] _
    try dsimp only [L2.cxOf]
    rcases hx with rfl | rfl | ⟨z, rfl, hz, rfl⟩
    · walk_at "wx"
      refine use_dDraw (fun n n0 n1 => ?_)
      walk_at "wx"
      obtain ⟨v, hv, hm⟩ := ati_lt n0 n1
      refine o_ix hv ?_
      walk_at "wx"
      exact k v hm
    · walk_at "wx"
      refine use_dDraw (fun n n0 n1 => ?_)
      walk_at "wx"
      obtain ⟨v, hv, hm⟩ := ati_lt n0 n1
      refine o_ix hv ?_
      walk_at "wx"
      exact k v hm
    · walk_at "wx"
      have e : z.length = z.cps.toList.length := by simp [Str.length]
      rw [List.length_map] at h0
      refine o_lenS (by omega) ?_
      walk_at "wx"
      refine use_dDraw (fun n n0 n1 => ?_) (by omega)
      walk_at "wx"
      obtain ⟨c, hv, hm⟩ := ati_lt (xs := z.cps.toList) n0 (by omega)
      refine o_ixS (by omega) hv ?_
      walk_at "wx"
      exact k _ (List.mem_map.mpr ⟨c, hm, rfl⟩)
theorem use_dPick {Q : Rt → Prop} {items : List D} (k : ∀ y ∈ items, Q (.d y)) (h0 : 0 < items.length ∧ items.length ≤ 900000 := by exact ⟨Nat.le_of_ble_eq_true rfl, Nat.le_of_ble_eq_true rfl⟩) : dPick [.lst items] Q := ⟨_, items, rfl, .inl rfl, h0.1, h0.2, k⟩
theorem use_dPickT {Q : Rt → Prop} {items : List D} (k : ∀ y ∈ items, Q (.d y)) (h0 : 0 < items.length ∧ items.length ≤ 900000 := by exact ⟨Nat.le_of_ble_eq_true rfl, Nat.le_of_ble_eq_true rfl⟩) : dPick [.tup items] Q := ⟨_, items, rfl, .inr (.inl rfl), h0.1, h0.2, k⟩
theorem use_dPickS {Q : Rt → Prop} {z : Str} (k : ∀ c ∈ z.cps.toList, Q (.d (.str ⟨#[c]⟩))) (h0 : 0 < z.cps.toList.length ∧ z.cps.toList.length ≤ 900000) : dPick [.str z] Q := ⟨_, _, rfl, .inr (.inr ⟨z, rfl, by simpa [Str.length] using h0.2, rfl⟩), by rw [List.length_map]; exact h0.1, by rw [List.length_map]; exact h0.2, fun y hy => by
  obtain ⟨c, hc, rfl⟩ := List.mem_map.mp hy
  exact k c hc⟩
/-- x and y are the same data -/
def dSame (n : Nat) : DSp := fun ds Q _ => ∃ x, ds = [x, x] ∧ x.Ok n ∧ Q (.d (.bl true))
def dSameP : Nat → DSp
  | 0 => fun _ _ _ => False
  | n + 1 => dSame n
def D.subs : D → List D
  | .lst ds => ds
  | .tup ds => ds
  | _ => []
theorem ok_sub {n : Nat} : ∀ {ds : List D}, D.pls ds = true → PyData.canLayAll0 (D.pys ds) = true → PyData.depthAll (D.pys ds) ≤ n → ∀ d ∈ ds, D.Ok n d
  | [], _, _, _, d, h => absurd h List.not_mem_nil
  | x :: xs, h1, h2, h3, d, h => by
    rw [D.pls, Bool.and_eq_true] at h1
    rw [D.pys, PyData.canLayAll0, Bool.and_eq_true] at h2
    rw [D.pys, PyData.depthAll] at h3
    rcases List.mem_cons.mp h with rfl | h
    · exact ⟨h1.1, h2.1, by omega⟩
    · exact ok_sub h1.2 h2.2 (by omega) d h
theorem D.Ok.lst' {n : Nat} {ds : List D} (h : D.Ok n (.lst ds)) : ∃ m, n = m + 1 ∧ ∀ d ∈ ds, D.Ok m d := by
  obtain ⟨h1, h2, h3⟩ := h
  rw [D.py, PyData.depth] at h3
  rw [D.py, PyData.canLay0] at h2
  exact ⟨n - 1, by omega, ok_sub h1 h2 (by omega)⟩
theorem D.Ok.tup' {n : Nat} {ds : List D} (h : D.Ok n (.tup ds)) : ∃ m, n = m + 1 ∧ ∀ d ∈ ds, D.Ok m d := by
  obtain ⟨h1, h2, h3⟩ := h
  rw [D.py, PyData.depth] at h3
  rw [D.py, PyData.canLay0] at h2
  exact ⟨n - 1, by omega, ok_sub h1 h2 (by omega)⟩
theorem D.Ok.ktp' {n : Nat} {ts : List Nat} (h : D.Ok n (.ktp ts)) : ∃ m, n = m + 1 ∧ ∀ d ∈ ts.map dn, D.Ok m d := by
  obtain ⟨h1, h2, h3⟩ := h
  rw [D.py, PyData.depth] at h3
  exact ⟨n - 1, by omega, .map (fun x => .int _) ts⟩
theorem zip_self (ds : List D) : zipD ds ds = ds.map fun d => .tup [d, d] := by
  unfold zipD
  induction ds with
  | nil => rfl
  | cons d ds ih => rw [List.zipWith_cons_cons, ih]; rfl
theorem all_true {α : Type} (xs : List α) : (xs.map fun _ => true).all id = true := by simp
theorem step_same (T : Txt K mg) (n : Nat) (ih : Ok P w K mg base (n + 1) T.same (liftP K T.mC (dSameP n))) : Ok P w K mg base (n + 2) T.same (liftP K T.mC (dSame n)) := by
  have ok_same := fun (_ : Txt K mg) => ih
  refine ok_P T.same sc_same (fun ds Q Ed h => ?_) fun cdv A outer s H E ds Q Ed fr hr h he => ?_
  · obtain ⟨x, rfl, _⟩ := h
    rfl
  · obtain ⟨x, rfl, hx, k⟩ := h
    refine ⟨_, ((pss_cons (ps_if (PW.pt (pw_or (pt_cmpR op_sIs (pv 1) pe_non (nomark _)) (pw_or1 (pt_cmpR op_sIs (pv 0) pe_non (nomark _)))))
  (pss_one (ps_ret (pe_and (pe_cmpR op_sIs (pv 0) pe_non (nomark _)) (pe_one (pe_cmpR op_sIs (pv 1) pe_non (nomark _))))))
  pss_nil)
  (pss_cons (ps_if (pt_val (pe_callB call_isiT (by rfl) T.b_isinstance (by decide +kernel) (pa_cons (pv 1) (pa_cons (pe_tup (pa_cons (pe_bltn (v := .ty "list") (by rfl) T.b_list (by decide +kernel) rfl) (pa_cons (pe_bltn (v := .ty "tuple") (by rfl) T.b_tuple (by decide +kernel) rfl) pa_nil))) pa_nil))))
  (pss_cons (ps_if (PW.pt (pw_or (pt_cmpR (op_sNe hr.units) (pe_callB call_isi (by rfl) T.b_isinstance (by decide +kernel) (pa_cons (pv 0) (pa_cons (pe_bltn (v := .ty "list") (by rfl) T.b_list (by decide +kernel) rfl) pa_nil))) (pe_callB call_isi (by rfl) T.b_isinstance (by decide +kernel) (pa_cons (pv 1) (pa_cons (pe_bltn (v := .ty "list") (by rfl) T.b_list (by decide +kernel) rfl) pa_nil))) (nomark _)) (pw_or1 (pt_cmpR (op_sNe hr.units) (pe_callB call_isi (by rfl) T.b_isinstance (by decide +kernel) (pa_cons (pv 0) (pa_cons (pe_bltn (v := .ty "tuple") (by rfl) T.b_tuple (by decide +kernel) rfl) pa_nil))) (pe_callB call_isi (by rfl) T.b_isinstance (by decide +kernel) (pa_cons (pv 1) (pa_cons (pe_bltn (v := .ty "tuple") (by rfl) T.b_tuple (by decide +kernel) rfl) pa_nil))) (nomark _)))))
  (pss_one (ps_ret pe_bl))
  pss_nil)
  (pss_one (ps_ret (pe_and (pe_cmpR (op_sEq hr.units) (pe_callB call_sLen (by rfl) T.b_len (by decide +kernel) (pa_cons (pv 0) pa_nil)) (pe_callB call_sLen (by rfl) T.b_len (by decide +kernel) (pa_cons (pv 1) pa_nil)) (nomark _)) (pe_one (pe_callB (call_sAll (by rfl)) (by rfl) T.b_all (by decide +kernel) (pa_cons (pe_lc (own := [("_law_one", 2), ("_law_other", 3)]) (g := (gTup K 2 (gCons (gName 2) (gCons (gName 3) gNil)))) (tt := tYes) (te := (tCall _ [] E0 (tCons (tVar 2) (tCons (tVar 3) tNil)))) (by rfl) sc_same.nd (RZ.pi_zipA (by rfl) T.b_zip (pa_cons (pv 0) (pa_cons (pv 1) pa_nil))) (blkOk_by (own := [("_law_one", 2), ("_law_other", 3)]) (N := N_same) (sc := defScope s_same) (by decide +kernel)) (fun _ _ _ _ _ => by exact (pg_tup rfl (pgs_cons (pg_name (i := 2) sc_same.nd rfl (by first | exact Or.inl rfl | exact Or.inr rfl)) (pgs_cons (pg_name (i := 3) sc_same.nd rfl (by first | exact Or.inl rfl | exact Or.inr rfl)) pgs_nil)))) (fun _ _ _ _ _ => by exact pts_nil) (fun _ _ _ _ _ => by exact (pcall T.same (ok_same T) (hr.mono (by omega)) passL (pa_cons (pv 2) (pa_cons (pv 3) pa_nil))))) pa_nil)))))))
  pss_nil)
  (pss_cons (ps_if (PW.pt (pw_or (pt_cmpR (op_sNe hr.units) (pe_callB call_isi (by rfl) T.b_isinstance (by decide +kernel) (pa_cons (pv 0) (pa_cons (pe_bltn (v := .ty "bool") (by rfl) T.b_bool (by decide +kernel) rfl) pa_nil))) (pe_callB call_isi (by rfl) T.b_isinstance (by decide +kernel) (pa_cons (pv 1) (pa_cons (pe_bltn (v := .ty "bool") (by rfl) T.b_bool (by decide +kernel) rfl) pa_nil))) (nomark _)) (pw_or1 (pt_cmpR (op_sNe hr.units) (pe_callB call_isi (by rfl) T.b_isinstance (by decide +kernel) (pa_cons (pv 0) (pa_cons (pe_bltn (v := .ty "int") (by rfl) T.b_int (by decide +kernel) rfl) pa_nil))) (pe_callB call_isi (by rfl) T.b_isinstance (by decide +kernel) (pa_cons (pv 1) (pa_cons (pe_bltn (v := .ty "int") (by rfl) T.b_int (by decide +kernel) rfl) pa_nil))) (nomark _)))))
  (pss_one (ps_ret pe_bl))
  pss_nil)
  (pss_one (ps_ret (pe_and (pe_cmpR (op_sEq hr.units) (pe_callB call_isi (by rfl) T.b_isinstance (by decide +kernel) (pa_cons (pv 0) (pa_cons (pe_bltn (v := .ty "str") (by rfl) T.b_str (by decide +kernel) rfl) pa_nil))) (pe_callB call_isi (by rfl) T.b_isinstance (by decide +kernel) (pa_cons (pv 1) (pa_cons (pe_bltn (v := .ty "str") (by rfl) T.b_str (by decide +kernel) rfl) pa_nil))) (nomark _)) (pe_one (pe_cmpR (op_sEq hr.units) (pv 0) (pv 1) (nomark _)))))))))), ?_⟩
    show wS _ _ [] [some (.d x), some (.d x), none, none] [] _
    try dsimp only [L2.cxOf]
    cases x with
    | mac M => exact absurd (show false = true from hx.pl) (by decide)
    | htp ts => exact absurd (show false = true from hx.pl) (by decide)
    | non =>
      walk_at "wx"
      rw [decide_eq_true rfl]
      exact k
    | bl b =>
      walk_at "wx"
      rw [decide_eq_true rfl]
      exact k
    | int b =>
      walk_at "wx"
      rw [decide_eq_true rfl]
      exact k
    | str b =>
      walk_at "wx"
      rw [decide_eq_true rfl]
      exact k
    | lst es =>
      obtain ⟨m, rfl, hs⟩ := hx.lst'
      walk_at "wx"
      refine y_yes rfl ?_
      walk_at "wx"
      rw [zip_self]
      refine lck_map (fun _ => .bl true) (fun x ds st2 hm => ?_) ?_
      · unfold LcT
        walk_at "wx"
        refine ⟨x, rfl, hs x hm, ?_⟩
        walk_at "wx"
        rfl
      · walk_at "wx"
        refine o_all (bs := es.map fun _ => true) ?_ (by rw [List.map_map]; rfl)
        rw [all_true]
        walk_at "wx"
        exact k
    | tup es =>
      obtain ⟨m, rfl, hs⟩ := hx.tup'
      walk_at "wx"
      refine y_yes rfl ?_
      walk_at "wx"
      rw [zip_self]
      refine lck_map (fun _ => .bl true) (fun x ds st2 hm => ?_) ?_
      · unfold LcT
        walk_at "wx"
        refine ⟨x, rfl, hs x hm, ?_⟩
        walk_at "wx"
        rfl
      · walk_at "wx"
        refine o_all (bs := es.map fun _ => true) ?_ (by rw [List.map_map]; rfl)
        rw [all_true]
        walk_at "wx"
        exact k
    | ktp ts =>
      obtain ⟨m, rfl, hs⟩ := hx.ktp'
      walk_at "wx"
      refine y_yes rfl ?_
      walk_at "wx"
      rw [zip_self]
      refine lck_map (fun _ => .bl true) (fun x ds st2 hm => ?_) ?_
      · unfold LcT
        walk_at "wx"
        refine ⟨x, rfl, hs x hm, ?_⟩
        walk_at "wx"
        rfl
      · walk_at "wx"
        refine o_all (bs := (ts.map dn).map fun _ => true) ?_ (by rw [List.map_map, List.map_map, List.map_map]; rfl)
        rw [all_true]
        walk_at "wx"
        exact k
theorem ok_same (T : Txt K mg) : ∀ n, Ok P w K mg base (n + 2) T.same (liftP K T.mC (dSame n))
  | 0 => step_same T 0 ⟨fun _ _ _ _ ⟨_, _, _, _, _, _, h, _⟩ => h.elim, fun _ _ _ _ _ _ _ _ _ _ _ _ _ ⟨_, _, _, _, _, _, h, _⟩ => h.elim⟩
  | n + 1 => step_same T (n + 1) (ok_same T n)
theorem use_dSame {n : Nat} {x : D} {Q : Rt → Prop} {Ed : ErP} (hx : x.Ok n) (k : Q (.d (.bl true))) : dSame n [x, x] Q Ed := ⟨x, rfl, hx, k⟩
end
end R

/-! # KD: digits.py -/
namespace R
open PySem PySem.Spec PyProof.Rows L2
def isP (p : Nat) : Prop := p = 2 ∨ p = 3 ∨ p = 5
theorem isP.pos {p : Nat} (h : isP p) : 2 ≤ p ∧ p ≤ 5 := by unfold isP at h; omega
theorem isP.ok {p : Nat} (h : isP p) : okMod p = true := okMod_iff.mpr (by unfold isP at h; omega)
theorem okMod_isP {p : Int} (h : okMod p = true) : ∃ q : Nat, p = q ∧ isP q := by
  rcases okMod_iff.mp h with rfl | rfl | rfl
  · exact ⟨2, rfl, .inl rfl⟩
  · exact ⟨3, rfl, .inr (.inl rfl)⟩
  · exact ⟨5, rfl, .inr (.inr rfl)⟩
/-- a row's form -/
def okRow (ns : List Int) (p : Int) : Bool := decide (ns.length ≤ 80) && ns.all fun d => decide (0 ≤ d) && decide (d < p)
/-- a row's number: the first digit counts least -/
def numOf (p : Int) : List Int → Int
  | [] => 0
  | d :: ds => d + p * numOf p ds
/-- the row of a number -/
def rowOf (n p : Int) (k : Nat) : List Int := (List.range k).map fun i => n / p ^ i % p
theorem rowOf_len (n p : Int) (k : Nat) : (rowOf n p k).length = k := by simp [rowOf]
theorem rowOf_succ (n p : Int) (k : Nat) : rowOf n p (k + 1) = rowOf n p k ++ [n / p ^ k % p] := by
  unfold rowOf
  rw [List.range_succ, List.map_append]
  rfl
theorem div_pow_succ {n p : Int} (hp : 0 ≤ p) (k : Nat) : n / p ^ k / p = n / p ^ (k + 1) := by
  rw [Int.ediv_ediv_of_nonneg (Int.pow_nonneg hp), Int.pow_succ]
theorem numOf_fold (p : Int) (ns : List Int) : ns.reverse.foldl (fun r d => r * p + d) 0 = numOf p ns := by
  rw [List.foldl_reverse]
  induction ns with
  | nil => rfl
  | cons d ds ih =>
    rw [List.foldr_cons, ih]
    show numOf p ds * p + d = d + p * numOf p ds
    rw [Int.mul_comm, Int.add_comm]
abbrev errF (n : Str) : List (Str × V) := [("tag", .str n)]
section
variable {P : Program} {w : World} {K : PySem.W.Frag} {mg : Str → Option Value} {base : Heap}
def dCheckModulus (T : Txt K mg) : DSp := fun ds Q E => ∃ p : Int, ds = [.int p] ∧ (okMod p = true → Q (.d .non)) ∧ (okMod p = false → E T.e_InvalidModulus.C (errF "InvalidModulus"))
theorem okMod_dec (p : Int) : decide (p ∈ [2, 3, 5]) = okMod p := by
  rw [Bool.eq_iff_iff, okMod_iff, decide_eq_true_iff]
  simp
theorem ok_check_modulus (T : Txt K mg) : Ok P w K mg base 3 T.check_modulus (liftP K T.mC (dCheckModulus T)) := by
  refine ok_P T.check_modulus sc_check_modulus (fun ds Q E h => ?_) fun cdv A outer s H E ds Q Ed fr hr h he => ?_
  · obtain ⟨p, rfl, _⟩ := h
    rfl
  · obtain ⟨p, rfl, k1, k2⟩ := h
    refine ⟨_, ((pss_one (ps_if (pt_cmpR op_sNotIn (pv 0) (pglob T.c_MODULI (by rfl)) (by rfl))
  (pss_one (praise0 T.e_InvalidModulus (ei_InvalidModulus T) (hr.mono (by omega)) rfl (takes_of rfl rfl rfl rfl)))
  pss_nil))), ?_⟩
    show wS _ _ [] [some (.d (.int p))] [] _
    try dsimp only [L2.cxOf]
    walk_at "wx"
    refine w_cT T.t_MODULI (ds := [2, 3, 5].map D.int) ⟨scd_int 2, scd_int 3, scd_int 5, trivial⟩ (Nat.le_of_ble_eq_true rfl) ?_
    refine o_ninI (ns := [2, 3, 5]) ?_ rfl
    walk_at "wx"
    rw [okMod_dec]
    cases e : okMod p with
    | true =>
      walk_at "wx"
      exact k1 e
    | false =>
      walk_at "wx"
      exact k2 e
theorem use_okMod {T : Txt K mg} {p : Int} {Q : Rt → Prop} {E : ErP} (h : okMod p = true) (q : Q (.d .non)) : dCheckModulus T [.int p] Q E := ⟨p, rfl, fun _ => q, fun z => (by rw [h] at z; cases z)⟩
end
end R

/-! # KR: lists of rows -/
namespace R
open PySem PySem.Spec PyProof.Rows L2
/-- all rows of k digits, the last digit running fastest -/
def allRows (p : Nat) : Nat → List (List Int)
  | 0 => [[]]
  | k + 1 => (allRows p k).flatMap fun r => (List.range p).map fun (d : Nat) => r ++ [(d : Int)]
theorem range_mul (a b : Nat) : List.range (a * b) = (List.range a).flatMap fun q => (List.range b).map fun d => q * b + d := by
  induction a with
  | zero => rw [Nat.zero_mul]; rfl
  | succ a ih => rw [Nat.succ_mul, List.range_add, ih, List.range_succ, List.flatMap_append, List.flatMap_singleton]
theorem rowOf_rev (n p : Int) (hp : 0 ≤ p) (k : Nat) : (rowOf n p (k + 1)).reverse = (rowOf (n / p) p k).reverse ++ [n % p] := by
  have e : rowOf n p (k + 1) = n % p :: rowOf (n / p) p k := by
    unfold rowOf
    rw [List.range_succ_eq_map, List.map_cons, List.map_map, Int.pow_zero, Int.ediv_one]
    congr 1
    refine List.map_congr_left fun i _ => ?_
    show n / p ^ (i + 1) % p = n / p / p ^ i % p
    rw [Int.pow_succ', ← Int.ediv_ediv_of_nonneg hp]
  rw [e, List.reverse_cons]
theorem allRows_eq (p : Nat) (hp : 0 < p) : ∀ k : Nat, allRows p k = (List.range (p ^ k)).map fun (n : Nat) => (rowOf n p k).reverse
  | 0 => rfl
  | k + 1 => by
    rw [Nat.pow_succ, range_mul, List.map_flatMap]
    show (allRows p k).flatMap _ = _
    rw [allRows_eq p hp k, List.flatMap_map]
    congr 1
    funext q
    rw [List.map_map]
    refine List.map_congr_left fun d hd => ?_
    have hd := List.mem_range.mp hd
    show (rowOf q p k).reverse ++ [(d : Int)] = (rowOf ((q * p + d : Nat) : Int) p (k + 1)).reverse
    rw [rowOf_rev _ _ (by omega)]
    have e1 : ((q * p + d : Nat) : Int) / (p : Int) = q := by
      rw [← Int.natCast_ediv, Nat.mul_comm, Nat.mul_add_div hp, Nat.div_eq_of_lt hd, Nat.add_zero]
    have e2 : ((q * p + d : Nat) : Int) % (p : Int) = d := by
      rw [← Int.natCast_emod, Nat.mul_comm, Nat.mul_add_mod, Nat.mod_eq_of_lt hd]
    rw [e1, e2]
theorem flatMap_len {α β : Type} {f : α → List β} {k : Nat} (h : ∀ x, (f x).length = k) : ∀ xs : List α, (xs.flatMap f).length = xs.length * k
  | [] => (Nat.zero_mul k).symm
  | x :: xs => by rw [List.flatMap_cons, List.length_append, h, flatMap_len h xs, List.length_cons, Nat.succ_mul, Nat.add_comm]
theorem allRows_len (p : Nat) (hp : 0 < p) (k : Nat) : (allRows p k).length = p ^ k := by rw [allRows_eq p hp, List.length_map, List.length_range]
theorem allRows_row {p : Nat} : ∀ {k : Nat} {r : List Int}, r ∈ allRows p k → r.length = k
  | 0, r, h => by
    rw [List.mem_singleton.mp h]
    rfl
  | k + 1, r, h => by
    obtain ⟨q, hq, h⟩ := List.mem_flatMap.mp h
    obtain ⟨d, _, rfl⟩ := List.mem_map.mp h
    rw [List.length_append, allRows_row hq]
    rfl
/-- rows as data -/
def rowsL (rs : List (List Int)) : List D := rs.map fun r => .tup (r.map .int)
section
variable {P : Program} {w : World} {K : PySem.W.Frag} {mg : Str → Option Value} {base : Heap}
end
end R

/-! # LH: the law's helpers about digits -/
namespace R
open PySem PySem.Spec PyProof.Rows L2
theorem dr_int (ds : List Nat) : dr ds = .tup ((ds.map Int.ofNat).map .int) := by
  rw [List.map_map]
  rfl
theorem numOf_snoc (p : Int) : ∀ (ns : List Int) (d : Int), numOf p (ns ++ [d]) = numOf p ns + d * p ^ ns.length
  | [], d => by
    show d + p * 0 = 0 + d * p ^ 0
    simp
  | n :: ns, d => by
    rw [List.cons_append]
    show n + p * numOf p (ns ++ [d]) = n + p * numOf p ns + d * p ^ (ns.length + 1)
    rw [numOf_snoc p ns d, Int.mul_add, Int.pow_succ, Int.add_assoc]
    congr 2
    rw [Int.mul_left_comm, Int.mul_comm p (p ^ ns.length)]
theorem numOf_nn {p : Int} (hp : 0 ≤ p) : ∀ {ns : List Int}, (∀ d ∈ ns, 0 ≤ d) → 0 ≤ numOf p ns
  | [], _ => Int.le_refl 0
  | d :: ds, h => Int.add_nonneg (h d (.head _)) (Int.mul_nonneg hp (numOf_nn hp fun e he => h e (.tail _ he)))
/-- the row of a row's number is the row -/
theorem rowOf_num {p : Int} (hp : 0 < p) : ∀ {ns : List Int}, (∀ d ∈ ns, 0 ≤ d ∧ d < p) → rowOf (numOf p ns) p ns.length = ns
  | [], _ => rfl
  | d :: ds, h => by
    have h0 := h d (.head _)
    have ih := rowOf_num hp (ns := ds) fun e he => h e (.tail _ he)
    unfold rowOf at ih ⊢
    rw [List.length_cons, List.range_succ_eq_map, List.map_cons, List.map_map]
    show numOf p (d :: ds) / p ^ 0 % p :: _ = _
    have e1 : numOf p (d :: ds) / p = numOf p ds := by
      show (d + p * numOf p ds) / p = numOf p ds
      rw [Int.add_mul_ediv_left _ _ (by omega), Int.ediv_eq_zero_of_lt h0.1 h0.2, Int.zero_add]
    have e2 : numOf p (d :: ds) % p = d := by
      show (d + p * numOf p ds) % p = d
      rw [Int.add_mul_emod_self_left, Int.emod_eq_of_lt h0.1 h0.2]
    rw [Int.pow_zero, Int.ediv_one, e2]
    congr 1
    have e3 : ((fun i : Nat => numOf p (d :: ds) / p ^ i % p) ∘ Nat.succ) = fun i : Nat => numOf p ds / p ^ i % p := by
      funext i
      show numOf p (d :: ds) / p ^ (i + 1) % p = numOf p ds / p ^ i % p
      rw [Int.pow_succ', ← Int.ediv_ediv_of_nonneg (by omega), e1]
    rw [e3]
    exact ih
theorem okRow_nat {p : Nat} {ds : List Nat} (h : ∀ d ∈ ds, d < p) (hl : ds.length ≤ 80) : okRow (ds.map Int.ofNat) p = true := by
  unfold okRow
  rw [decide_eq_true (by simpa using hl), Bool.true_and, List.all_eq_true]
  intro x hx
  obtain ⟨d, hd, rfl⟩ := List.mem_map.mp hx
  have := h d hd
  simp only [Bool.and_eq_true, decide_eq_true_eq]
  exact ⟨Int.natCast_nonneg d, Int.ofNat_lt.mpr this⟩
section
variable {P : Program} {w : World} {K : PySem.W.Frag} {mg : Str → Option Value} {base : Heap}
def dModulus : List D → (Rt → Prop) → Prop := fun ds Q => ds = [] ∧ ∀ p, isP p → Q (.d (dn p))
theorem ok_modulus (T : Txt K mg) : Ok P w K mg base 3 T.modulus (liftR K T.mC dModulus) := by
  refine ok_R T.modulus sc_modulus (fun ds Q h => ?_) fun cdv A outer s H E ds Q fr rl hr h he => ?_
  · obtain ⟨rfl, _⟩ := h
    rfl
  · obtain ⟨rfl, k⟩ := h
    refine ⟨_, ((pss_one (ps_ret (pcall T.pick (ok_pick T) (hr.mono (by omega)) passE (pa_cons (pv 0) (pa_cons (pe_lst (pa_cons pe_int (pa_cons pe_int (pa_cons pe_int (pa_cons pe_int (pa_cons pe_int (pa_cons pe_int pa_nil))))))) pa_nil)))))), ?_⟩
    show wS _ _ [] [some .r] [] _
    try dsimp only [L2.cxOf]
    walk_at "wx"
    refine use_dPick fun y hy => ?_
    walk_at "wx"
    simp only [List.mem_cons, List.not_mem_nil, or_false] at hy
    rcases hy with rfl | rfl | rfl | rfl | rfl | rfl
    · exact k 2 (.inl rfl)
    · exact k 2 (.inl rfl)
    · exact k 2 (.inl rfl)
    · exact k 3 (.inr (.inl rfl))
    · exact k 3 (.inr (.inl rfl))
    · exact k 5 (.inr (.inr rfl))
end
end R

/-! # KF: fractions -/
namespace R
open PySem PySem.Spec PyProof.Rows L2
/-- the digit that a fraction ends with -/
def resD (a b p : Int) : Int := (((List.range p.toNat).map Int.ofNat).filter fun d => decide ((b * d - a) % p = 0)).headD 0
theorem resD_ok {a b p : Int} (hp : okMod p = true) (hb : b % p ≠ 0) : (((List.range p.toNat).map Int.ofNat).filter fun d => decide ((b * d - a) % p = 0)) ≠ [] := by
  have hp := okMod_iff.mp hp
  intro e
  rw [List.filter_eq_nil_iff] at e
  have e2 : ∀ d : Nat, d < p.toNat → ¬ (b * (d : Int) - a) % p = 0 := fun d hd h => e d (List.mem_map.mpr ⟨d, List.mem_range.mpr hd, rfl⟩) (decide_eq_true h)
  rcases hp with rfl | rfl | rfl
  · have h0 := e2 0 (by decide)
    have h1 := e2 1 (by decide)
    omega
  · have h0 := e2 0 (by decide)
    have h1 := e2 1 (by decide)
    have h2 := e2 2 (by decide)
    have : b % 3 = 1 ∨ b % 3 = 2 := by omega
    rcases this with h | h <;> omega
  · have h0 := e2 0 (by decide)
    have h1 := e2 1 (by decide)
    have h2 := e2 2 (by decide)
    have h3 := e2 3 (by decide)
    have h4 := e2 4 (by decide)
    have hb4 : b % 5 = 1 ∨ b % 5 = 2 ∨ b % 5 = 3 ∨ b % 5 = 4 := by omega
    have ha : a % 5 = 0 ∨ a % 5 = 1 ∨ a % 5 = 2 ∨ a % 5 = 3 ∨ a % 5 = 4 := by omega
    rcases hb4 with h | h | h | h <;> rcases ha with g | g | g | g | g <;> first | (exact h0 (by omega)) | (exact h1 (by omega)) | (exact h2 (by omega)) | (exact h3 (by omega)) | (exact h4 (by omega))
theorem resD_mem {a b p : Int} (hp : okMod p = true) (hb : b % p ≠ 0) : 0 ≤ resD a b p ∧ resD a b p < p ∧ (b * resD a b p - a) % p = 0 := by
  have h := resD_ok (a := a) hp hb
  have hm : resD a b p ∈ (((List.range p.toNat).map Int.ofNat).filter fun d => decide ((b * d - a) % p = 0)) := by
    unfold resD
    cases e : (((List.range p.toNat).map Int.ofNat).filter fun d => decide ((b * d - a) % p = 0)) with
    | nil => exact absurd e h
    | cons x xs => exact .head _
  rw [List.mem_filter, List.mem_map] at hm
  obtain ⟨⟨d, hd, e⟩, h2⟩ := hm
  have hd := List.mem_range.mp hd
  have hp := okMod_iff.mp hp
  refine ⟨?_, ?_, of_decide_eq_true h2⟩
  · rw [← e]
    exact Int.natCast_nonneg d
  · rw [← e]
    show (d : Int) < p
    omega
/-- the digits found so far, and what is left above -/
def frSt (b p a : Int) : Nat → List Int × Int
  | 0 => ([], a)
  | i + 1 => ((frSt b p a i).1 ++ [resD (frSt b p a i).2 b p], ((frSt b p a i).2 - b * resD (frSt b p a i).2 b p) / p)
def frRow (a b p : Int) (k : Nat) : List Int := (frSt b p a k).1
theorem frRow_len (a b p : Int) : ∀ k, (frRow a b p k).length = k
  | 0 => rfl
  | k + 1 => by
    have := frRow_len a b p k
    unfold frRow at this ⊢
    show ((frSt b p a k).1 ++ [_]).length = k + 1
    rw [List.length_append, this]
    rfl
def isFrac (a b : Int) : Bool := decide (0 < b ∧ b < 1000000 ∧ -1000000 < a ∧ a < 1000000) && decide (Nat.gcd a.natAbs b.natAbs = 1)
section
variable {P : Program} {w : World} {K : PySem.W.Frag} {mg : Str → Option Value} {base : Heap}
theorem o_absC {W : Wo} {cs : Cs} {sl : Sl} {st : List Sd} {Q : Sd → Cs → Prop} {i : Int} (q : Q (.d (.int (if i < 0 then -i else i))) cs) : wC W (fun xs H Q => ∃ i : Int, xs = [V.int i] ∧ Q (V.int (if i < 0 then -i else i)) H) [.d (.int i)] cs sl st Q := o_sc1 hv_int (scd_int _) (fun _ _ h => ⟨_, rfl, h⟩) q
def dGcd : DSp := fun ds Q _ => ∃ a b : Nat, ds = [dn a, dn b] ∧ Q (.d (dn (Nat.gcd a b)))
theorem ok_common_divisor (T : Txt K mg) : Ok P w K mg base 1 T.common_divisor (liftP K T.mC dGcd) := by
  refine ok_P T.common_divisor sc_common_divisor (fun ds Q E h => ?_) fun cdv A outer s H E ds Q Ed fr hr h he => ?_
  · obtain ⟨a, b, rfl, _⟩ := h
    rfl
  · obtain ⟨a, b, rfl, k⟩ := h
    refine ⟨_, ((pss_cons (ps_while ownE (pt_cmpR (op_sNe hr.units) (pv 1) pe_int (nomark _))
  (pss_one (ps_par (i := 0) (j := 1) (by rfl) sc_common_divisor.nd rfl rfl (by decide) rfl rfl (pa_cons (pv 1) (pa_cons (pe_op op_sMod (pv 0) (pv 1)) pa_nil)) (by rfl))))
  (pss_one (ps_ret (pv 0))))), ?_⟩
    show wS _ _ [] [some (.d (dn a)), some (.d (dn b))] [] _
    try dsimp only [L2.cxOf]
    walk_at "wx"
    refine w_while (fun m cs sl => cs = [] ∧ ∃ x, sl = [some (.d (dn x)), some (.d (dn m))] ∧ Nat.gcd x m = Nat.gcd a b) b ⟨rfl, a, rfl, rfl⟩ ?_
    rintro m cs1 sl1 ⟨rfl, x, rfl, hg⟩
    walk_at "wx"
    refine y_iteN (fun hm => ?_) fun hm => ?_
    · walk_at "wx"
      refine ⟨x % m, Nat.mod_lt _ (by omega), rfl, m, rfl, ?_⟩
      rw [← hg, Nat.gcd_comm m, ← Nat.gcd_rec, Nat.gcd_comm]
    · obtain rfl : m = 0 := by omega
      walk_at "wx"
      rw [Nat.gcd_zero_right] at hg
      rw [hg]
      exact k
def dIsFrac : DSp := fun ds Q _ => ∃ a b : Int, ds = [.tup [.int a, .int b]] ∧ Q (.d (.bl (isFrac a b)))
theorem ok_is_fraction (T : Txt K mg) : Ok P w K mg base 2 T.is_fraction (liftP K T.mC dIsFrac) := by
  refine ok_P T.is_fraction sc_is_fraction (fun ds Q E h => ?_) fun cdv A outer s H E ds Q Ed fr hr h he => ?_
  · obtain ⟨a, b, rfl, _⟩ := h
    rfl
  · obtain ⟨a, b, rfl, k⟩ := h
    refine ⟨_, ((pss_cons (ps_asg (pv 0) (pg_tup rfl (pgs_cons (pg_name (i := 1) sc_is_fraction.nd rfl (by first | exact Or.inl rfl | exact Or.inr rfl)) (pgs_cons (pg_name (i := 2) sc_is_fraction.nd rfl (by first | exact Or.inl rfl | exact Or.inr rfl)) pgs_nil))))
  (pss_cons (ps_if (PW.pt (pw_or (pt_not (pt_chain op_sLt op_sLt pe_int (pv 2) (pglob T.c_MAX_FRACTION (by rfl)))) (pw_or1 (pt_not (pt_chain op_sLt op_sLt (pe_un un_neg (pglob T.c_MAX_FRACTION (by rfl))) (pv 1) (pglob T.c_MAX_FRACTION (by rfl)))))))
  (pss_one (ps_ret pe_bl))
  pss_nil)
  (pss_one (ps_ret (pe_cmpR (op_sEq hr.units) (pcall T.common_divisor (ok_common_divisor T) (hr.mono (by omega)) passE (pa_cons (pe_callB call_abs (by rfl) T.b_abs (by decide +kernel) (pa_cons (pv 1) pa_nil)) (pa_cons (pv 2) pa_nil))) pe_int (nomark _))))))), ?_⟩
    show wS _ _ [] [some (.d (.tup [.int a, .int b])), none, none] [] _
    try dsimp only [L2.cxOf]
    walk_at "wx"
    have no : ¬ (0 < b ∧ b < 1000000 ∧ -1000000 < a ∧ a < 1000000) → Q (.d (.bl false)) := fun c => by
      unfold isFrac at k
      rw [decide_eq_false c] at k
      exact k
    refine y_ite (fun c1 => ?_) fun c1 => ?_
    · walk_at "wx"
      refine y_iteN (fun c2 => ?_) fun c2 => ?_
      · walk_at "wx"
        exact no (by omega)
      · walk_at "wx"
        refine y_ite (fun c3 => ?_) fun c3 => ?_
        · walk_at "wx"
          refine y_iteN (fun c4 => ?_) fun c4 => ?_
          · walk_at "wx"
            exact no (by omega)
          · walk_at "wx"
            refine o_absC ?_
            walk_at "wx"
            have ea : (if a < 0 then -a else a) = ((a.natAbs : Nat) : Int) := by split <;> omega
            have eb : b = ((b.natAbs : Nat) : Int) := by omega
            refine ⟨a.natAbs, b.natAbs, by rw [ea, eb]; rfl, ?_⟩
            walk_at "wx"
            have e : isFrac a b = decide (((Nat.gcd a.natAbs b.natAbs : Nat) : Int) = 1) := by
              unfold isFrac
              rw [decide_eq_true (by omega), Bool.true_and]
              exact decide_eq_decide.mpr ⟨fun h => by omega, fun h => by omega⟩
            rw [← e]
            exact k
        · walk_at "wx"
          exact no (by omega)
    · walk_at "wx"
      exact no (by omega)
end
end R

/-! # LF: the law's helpers about fractions -/
namespace R
open PySem PySem.Spec PyProof.Rows L2
theorem frRow_dig {a b p : Int} (hp : okMod p = true) (hb : b % p ≠ 0) : ∀ k, ∀ d ∈ frRow a b p k, 0 ≤ d ∧ d < p
  | 0, d, h => absurd h List.not_mem_nil
  | k + 1, d, h => by
    have ih := frRow_dig (a := a) hp hb k
    unfold frRow at ih h
    have h : d ∈ (frSt b p a k).1 ++ [resD (frSt b p a k).2 b p] := h
    rcases List.mem_append.mp h with h | h
    · exact ih d h
    · rw [List.mem_singleton.mp h]
      have := resD_mem (a := (frSt b p a k).2) hp hb
      exact ⟨this.1, this.2.1⟩
theorem frRow_num {a b p : Int} (hp : okMod p = true) (hb : b % p ≠ 0) : ∀ k : Nat, b * numOf p (frRow a b p k) + p ^ k * (frSt b p a k).2 = a
  | 0 => by
    show b * 0 + p ^ 0 * a = a
    rw [Int.pow_zero]
    omega
  | k + 1 => by
    have ih := frRow_num (a := a) hp hb k
    have hl := frRow_len a b p k
    have hd := resD_mem (a := (frSt b p a k).2) hp hb
    have hp2 := okMod_iff.mp hp
    show b * numOf p (frRow a b p k ++ [resD (frSt b p a k).2 b p]) + p ^ (k + 1) * (((frSt b p a k).2 - b * resD (frSt b p a k).2 b p) / p) = a
    rw [numOf_snoc, hl]
    generalize resD (frSt b p a k).2 b p = d at hd
    generalize (frSt b p a k).2 = x at *
    generalize numOf p (frRow a b p k) = n at *
    have hdv : p * ((x - b * d) / p) = x - b * d := Int.mul_ediv_cancel' (by
      have e : x - b * d = -(b * d - x) := by omega
      rw [e]
      exact Int.dvd_neg.mpr (Int.dvd_of_emod_eq_zero hd.2.2))
    rw [Int.pow_succ, Int.mul_assoc, hdv, ← ih, Int.mul_add, Int.mul_sub, ← Int.mul_assoc b d, Int.mul_comm (b * d)]
    omega
theorem frRow_mod {a b p : Int} (hp : okMod p = true) (hb : b % p ≠ 0) (k : Nat) : (b * numOf p (frRow a b p k) - a) % p ^ k = 0 := by
  have h := frRow_num (a := a) hp hb k
  have e : b * numOf p (frRow a b p k) - a = p ^ k * (-(frSt b p a k).2) := by
    rw [Int.mul_neg]
    omega
  rw [e, Int.mul_emod_right]
theorem isFrac_low {a : Int} {b : Nat} (ha : -1000000 < a ∧ a < 1000000) (hb : 0 < b ∧ b < 1000000) : isFrac (a / (Nat.gcd a.natAbs b : Nat)) ((b : Int) / (Nat.gcd a.natAbs b : Nat)) = true := by
  have hg : 0 < Nat.gcd a.natAbs b := Nat.gcd_pos_of_pos_right _ hb.1
  have h1 : ((Nat.gcd a.natAbs b : Nat) : Int) ∣ a := Int.ofNat_dvd_left.mpr (Nat.gcd_dvd_left _ _)
  have h2 : ((Nat.gcd a.natAbs b : Nat) : Int) ∣ (b : Int) := Int.ofNat_dvd.mpr (Nat.gcd_dvd_right _ _)
  have e1 : (a / (Nat.gcd a.natAbs b : Nat)).natAbs = a.natAbs / Nat.gcd a.natAbs b := by
    rw [Int.natAbs_ediv_of_dvd h1]
    rfl
  have e2 : ((b : Int) / (Nat.gcd a.natAbs b : Nat)).natAbs = b / Nat.gcd a.natAbs b := by
    rw [Int.natAbs_ediv_of_dvd h2]
    rfl
  have l1 : a.natAbs / Nat.gcd a.natAbs b ≤ a.natAbs := Nat.div_le_self _ _
  have l2 : b / Nat.gcd a.natAbs b ≤ b := Nat.div_le_self _ _
  have l3 : 0 < b / Nat.gcd a.natAbs b := Nat.div_pos (Nat.le_of_dvd hb.1 (Nat.gcd_dvd_right _ _)) hg
  have l4 : 0 ≤ (b : Int) / (Nat.gcd a.natAbs b : Nat) := Int.ediv_nonneg (by omega) (by omega)
  unfold isFrac
  rw [e1, e2, decide_eq_true (by omega), Bool.true_and]
  exact decide_eq_true (by rw [Nat.gcd_div (Nat.gcd_dvd_left _ _) (Nat.gcd_dvd_right _ _), Nat.div_self hg])
section
variable {P : Program} {w : World} {K : PySem.W.Frag} {mg : Str → Option Value} {base : Heap}
theorem ok_gcd (T : Txt K mg) : Ok P w K mg base 1 T.gcd (liftP K T.mC dGcd) := by
  refine ok_P T.gcd sc_gcd (fun ds Q E h => ?_) fun cdv A outer s H E ds Q Ed fr hr h he => ?_
  · obtain ⟨a, b, rfl, _⟩ := h
    rfl
  · obtain ⟨a, b, rfl, k⟩ := h
    refine ⟨_, ((pss_cons (ps_while ownE (pt_cmpR (op_sNe hr.units) (pv 1) pe_int (nomark _))
  (pss_one (ps_par (i := 0) (j := 1) (by rfl) sc_gcd.nd rfl rfl (by decide) rfl rfl (pa_cons (pv 1) (pa_cons (pe_op op_sMod (pv 0) (pv 1)) pa_nil)) (by rfl))))
  (pss_one (ps_ret (pv 0))))), ?_⟩
    show wS _ _ [] [some (.d (dn a)), some (.d (dn b))] [] _
    try dsimp only [L2.cxOf]
    walk_at "wx"
    refine w_while (fun m cs sl => cs = [] ∧ ∃ x, sl = [some (.d (dn x)), some (.d (dn m))] ∧ Nat.gcd x m = Nat.gcd a b) b ⟨rfl, a, rfl, rfl⟩ ?_
    rintro m cs1 sl1 ⟨rfl, x, rfl, hg⟩
    walk_at "wx"
    refine y_iteN (fun hm => ?_) fun hm => ?_
    · walk_at "wx"
      refine ⟨x % m, Nat.mod_lt _ (by omega), rfl, m, rfl, ?_⟩
      rw [← hg, Nat.gcd_comm m, ← Nat.gcd_rec, Nat.gcd_comm]
    · obtain rfl : m = 0 := by omega
      walk_at "wx"
      rw [Nat.gcd_zero_right] at hg
      rw [hg]
      exact k
def dLowest : DSp := fun ds Q _ => ∃ (a : Int) (b : Nat), ds = [.int a, dn b] ∧ 0 < b ∧ b < 1000000 ∧ Q (.d (.tup [.int (a / (Nat.gcd a.natAbs b : Nat)), .int ((b : Int) / (Nat.gcd a.natAbs b : Nat))]))
theorem ok_lowest (T : Txt K mg) : Ok P w K mg base 2 T.lowest (liftP K T.mC dLowest) := by
  refine ok_P T.lowest sc_lowest (fun ds Q E h => ?_) fun cdv A outer s H E ds Q Ed fr hr h he => ?_
  · obtain ⟨a, b, rfl, _⟩ := h
    rfl
  · obtain ⟨a, b, rfl, h0, h1, k⟩ := h
    have hg : 0 < Nat.gcd a.natAbs b := Nat.gcd_pos_of_pos_right _ h0
    have hg2 : Nat.gcd a.natAbs b ≤ b := Nat.le_of_dvd h0 (Nat.gcd_dvd_right _ _)
    refine ⟨_, ((pss_cons (ps_set (i := 2) sc_lowest.nd rfl (by first | exact Or.inl rfl | exact Or.inr rfl) (pcall T.gcd (ok_gcd T) (hr.mono (by omega)) passE (pa_cons (pe_callB call_abs (by rfl) T.b_abs (by decide +kernel) (pa_cons (pv 0) pa_nil)) (pa_cons (pv 1) pa_nil))))
  (pss_one (ps_ret (pe_tup (pa_cons (pe_op op_sDiv (pv 0) (pv 2)) (pa_cons (pe_op op_sDiv (pv 1) (pv 2)) pa_nil))))))), ?_⟩
    show wS _ _ [] [some (.d (.int a)), some (.d (dn b)), none] [] _
    try dsimp only [L2.cxOf]
    walk_at "wx"
    refine o_absC ?_
    walk_at "wx"
    have ea : (if a < 0 then -a else a) = ((a.natAbs : Nat) : Int) := by split <;> omega
    refine ⟨a.natAbs, b, by rw [ea], ?_⟩
    walk_at "wx"
    exact k
end
end R

/-! # LI: linear machines, plainly -/
namespace R
open PySem PySem.Spec PyProof.Rows L2 L2H LamX
abbrev Of := Int × Int
def lowP (a b : Int) : Of := (a / (Nat.gcd a.natAbs b.natAbs : Nat), b / (Nat.gcd a.natAbs b.natAbs : Nat))
theorem gcd_pos {a b : Int} (h : 0 < b) : 0 < Nat.gcd a.natAbs b.natAbs := Nat.gcd_pos_of_pos_right _ (by omega)
theorem gcd_dvd1 (a b : Int) : ((Nat.gcd a.natAbs b.natAbs : Nat) : Int) ∣ a := Int.ofNat_dvd_left.mpr (Nat.gcd_dvd_left _ _)
theorem gcd_dvd2 (a b : Int) : ((Nat.gcd a.natAbs b.natAbs : Nat) : Int) ∣ b := Int.ofNat_dvd_left.mpr (Nat.gcd_dvd_right _ _)
theorem gcd_le {a b : Int} (h : 0 < b) : ((Nat.gcd a.natAbs b.natAbs : Nat) : Int) ≤ b := Int.le_of_dvd h (gcd_dvd2 a b)
theorem lowP_pos {a b : Int} (h : 0 < b) : 0 < (lowP a b).2 := Int.ediv_pos_of_pos_of_dvd h (Int.natCast_nonneg _) (gcd_dvd2 a b)
theorem lowP_dvd (a b : Int) : (lowP a b).2 ∣ b := ⟨_, (Int.ediv_mul_cancel (gcd_dvd2 a b)).symm⟩
theorem lowP_eqs (a b : Int) : a = (Nat.gcd a.natAbs b.natAbs : Nat) * (lowP a b).1 ∧ b = (Nat.gcd a.natAbs b.natAbs : Nat) * (lowP a b).2 := ⟨(Int.mul_ediv_cancel' (gcd_dvd1 a b)).symm, (Int.mul_ediv_cancel' (gcd_dvd2 a b)).symm⟩
theorem lowP_cop {a b : Int} (h : 0 < b) : Nat.gcd (lowP a b).1.natAbs (lowP a b).2.natAbs = 1 := by
  have hg := gcd_pos (a := a) h
  obtain ⟨h1, h2⟩ := lowP_eqs a b
  have e : Nat.gcd a.natAbs b.natAbs = Nat.gcd a.natAbs b.natAbs * Nat.gcd (lowP a b).1.natAbs (lowP a b).2.natAbs := by
    rw [← Nat.gcd_mul_left]
    have e1 : Nat.gcd a.natAbs b.natAbs * (lowP a b).1.natAbs = a.natAbs := by
      conv => rhs; rw [h1, Int.natAbs_mul, Int.natAbs_natCast]
    have e2 : Nat.gcd a.natAbs b.natAbs * (lowP a b).2.natAbs = b.natAbs := by
      conv => rhs; rw [h2, Int.natAbs_mul, Int.natAbs_natCast]
    rw [e1, e2]
  exact (Nat.mul_eq_left (by omega)).mp e.symm
/-- what is multiplied away changes nothing -/
theorem lowP_mul {a b : Int} {c : Nat} (h : 0 < c) : lowP (c * a) (b * c) = lowP a b := by
  have e : Nat.gcd ((c : Int) * a).natAbs (b * (c : Int)).natAbs = c * Nat.gcd a.natAbs b.natAbs := by
    rw [Int.natAbs_mul, Int.natAbs_mul, Int.natAbs_natCast, Nat.mul_comm b.natAbs, Nat.gcd_mul_left]
  unfold lowP
  rw [e, Int.natCast_mul, Int.mul_comm b, Int.mul_ediv_mul_of_pos _ _ (by omega), Int.mul_ediv_mul_of_pos _ _ (by omega)]
theorem lowP_dvdL {a b L : Int} (h : 0 < b) (hd : b ∣ a * L) : (lowP a b).2 ∣ L := by
  obtain ⟨h1, h2⟩ := lowP_eqs a b
  have hg := gcd_pos (a := a) h
  have hc := lowP_cop (a := a) h
  obtain ⟨y, hy⟩ := hd
  have h3 : (lowP a b).1 * L = (lowP a b).2 * y := by
    refine Int.eq_of_mul_eq_mul_left (a := ((Nat.gcd a.natAbs b.natAbs : Nat) : Int)) (by omega) ?_
    rw [← Int.mul_assoc, ← Int.mul_assoc, ← h1, ← h2]
    exact hy
  have h4 : (lowP a b).2.natAbs ∣ (lowP a b).1.natAbs * L.natAbs := by
    rw [← Int.natAbs_mul, h3, Int.natAbs_mul]
    exact Nat.dvd_mul_right _ _
  have h5 := Nat.Coprime.dvd_of_dvd_mul_left (Nat.Coprime.symm hc) h4
  exact Int.natAbs_dvd_natAbs.mp h5
theorem ndvd_mul {p : Nat} (hp : isP p) {a b : Int} (ha : a % p ≠ 0) (hb : b % p ≠ 0) : (a * b) % p ≠ 0 := by
  rw [Int.mul_emod]
  rcases hp with rfl | rfl | rfl
  · have h1 : a % (2 : Nat) = 1 := by omega
    have h2 : b % (2 : Nat) = 1 := by omega
    rw [h1, h2]
    decide
  · have h1 : a % (3 : Nat) = 1 ∨ a % (3 : Nat) = 2 := by omega
    have h2 : b % (3 : Nat) = 1 ∨ b % (3 : Nat) = 2 := by omega
    rcases h1 with h1 | h1 <;> rcases h2 with h2 | h2 <;> rw [h1, h2] <;> decide
  · have h1 : a % (5 : Nat) = 1 ∨ a % (5 : Nat) = 2 ∨ a % (5 : Nat) = 3 ∨ a % (5 : Nat) = 4 := by omega
    have h2 : b % (5 : Nat) = 1 ∨ b % (5 : Nat) = 2 ∨ b % (5 : Nat) = 3 ∨ b % (5 : Nat) = 4 := by omega
    rcases h1 with h1 | h1 | h1 | h1 <;> rcases h2 with h2 | h2 | h2 | h2 <;> rw [h1, h2] <;> decide
theorem ndvd_of {p : Nat} {a b : Int} (h : b % p ≠ 0) (d : a ∣ b) : a % p ≠ 0 := fun e => h (Int.emod_eq_zero_of_dvd (Int.dvd_trans (Int.dvd_of_emod_eq_zero e) d))
/-- the residue is the same for any form of a fraction -/
theorem resD_eq {p : Nat} (hp : isP p) {a b c e : Int} (hb : b % p ≠ 0) (he : e % p ≠ 0) (h : a * e = c * b) : resD a b p = resD c e p := by
  obtain ⟨x0, x1, x2⟩ := resD_mem (a := a) hp.ok hb
  obtain ⟨y0, y1, y2⟩ := resD_mem (a := c) hp.ok he
  generalize resD a b p = x at *
  generalize resD c e p = y at *
  have h1 : (p : Int) ∣ e * (b * x - a) - b * (e * y - c) := Int.dvd_sub (Int.dvd_trans (Int.dvd_of_emod_eq_zero x2) (Int.dvd_mul_left _ _)) (Int.dvd_trans (Int.dvd_of_emod_eq_zero y2) (Int.dvd_mul_left _ _))
  have h2 : e * (b * x - a) - b * (e * y - c) = (e * b) * (x - y) := by
    rw [Int.mul_sub, Int.mul_sub, Int.mul_sub, ← Int.mul_assoc, ← Int.mul_assoc, Int.mul_comm b e, Int.mul_comm e a, h, Int.mul_comm b c]
    omega
  rw [h2] at h1
  have h3 : (x - y) % p = 0 := by
    refine Decidable.byContradiction fun hn => ndvd_mul hp (ndvd_mul hp he hb) hn (Int.emod_eq_zero_of_dvd h1)
  have hp2 := hp.pos
  rcases hp with rfl | rfl | rfl <;> omega
/-- what stands above and below at the value for one digit -/
def abv (f o : Of) (d : Int) : Int := f.1 * d * o.2 + o.1 * f.2
def blw (f o : Of) : Int := f.2 * o.2
def outO (f o : Of) (d : Int) (p : Nat) : Int := resD (lowP (abv f o d) (blw f o)).1 (lowP (abv f o d) (blw f o)).2 p
def nextO (f o : Of) (d : Int) (p : Nat) : Of := lowP (abv f o d - outO f o d p * blw f o) (blw f o * p)
structure GoodF (p : Nat) (f : Of) (L : Int) : Prop where
  hp : isP p
  f0 : 0 < f.2
  f1 : f.2 < 1000000
  fL : f.2 ∣ L
  L0 : 0 < L
  L1 : L < 1000000000000
  Lp : L % p ≠ 0
structure GoodO (L : Int) (o : Of) : Prop where
  o0 : 0 < o.2
  oL : o.2 ∣ L
section
variable {p : Nat} {f o : Of} {L : Int}
theorem GoodO.le (hf : GoodF p f L) (ho : GoodO L o) : o.2 < 1000000000000 := Int.lt_of_le_of_lt (Int.le_of_dvd hf.L0 ho.oL) hf.L1
theorem GoodO.np (hf : GoodF p f L) (ho : GoodO L o) : o.2 % p ≠ 0 := ndvd_of hf.Lp ho.oL
theorem GoodF.np (hf : GoodF p f L) : f.2 % p ≠ 0 := ndvd_of hf.Lp hf.fL
theorem blw_pos (hf : GoodF p f L) (ho : GoodO L o) : 0 < blw f o := Int.mul_pos hf.f0 ho.o0
theorem blw_np (hf : GoodF p f L) (ho : GoodO L o) : blw f o % p ≠ 0 := ndvd_mul hf.hp hf.np (ho.np hf)
theorem blw_lt (hf : GoodF p f L) (ho : GoodO L o) : blw f o < 1000000000000000000 := by
  have h1 := ho.le hf
  have h2 := hf.f1
  have h3 := hf.f0
  have h4 := ho.o0
  unfold blw
  calc f.2 * o.2 ≤ 1000000 * o.2 := Int.mul_le_mul_of_nonneg_right (by omega) (by omega)
    _ < 1000000000000000000 := by omega
theorem outO_mem (hf : GoodF p f L) (ho : GoodO L o) (d : Int) : 0 ≤ outO f o d p ∧ outO f o d p < p ∧ (blw f o * outO f o d p - abv f o d) % p = 0 := by
  have hb := ndvd_of (blw_np hf ho) (lowP_dvd (abv f o d) (blw f o))
  obtain ⟨h1, h2, h3⟩ := resD_mem (a := (lowP (abv f o d) (blw f o)).1) hf.hp.ok hb
  refine ⟨h1, h2, ?_⟩
  obtain ⟨e1, e2⟩ := lowP_eqs (abv f o d) (blw f o)
  show (blw f o * resD _ _ _ - abv f o d) % p = 0
  generalize resD (lowP (abv f o d) (blw f o)).1 (lowP (abv f o d) (blw f o)).2 p = w at *
  have h4 := Int.dvd_of_emod_eq_zero h3
  have h5 : blw f o * w - abv f o d = (Nat.gcd (abv f o d).natAbs (blw f o).natAbs : Nat) * ((lowP (abv f o d) (blw f o)).2 * w - (lowP (abv f o d) (blw f o)).1) := by
    rw [Int.mul_sub, ← Int.mul_assoc, ← e2, ← e1]
  rw [h5]
  exact Int.emod_eq_zero_of_dvd (Int.dvd_trans h4 (Int.dvd_mul_left _ _))
/-- the value less its digit, divided by the modulus -/
theorem nextO_eq (hf : GoodF p f L) (ho : GoodO L o) (d : Int) : nextO f o d p = lowP ((abv f o d - outO f o d p * blw f o) / p) (blw f o) := by
  have hp2 := hf.hp.pos
  have h := (outO_mem hf ho d).2.2
  have e : (p : Int) * ((abv f o d - outO f o d p * blw f o) / p) = abv f o d - outO f o d p * blw f o := Int.mul_ediv_cancel' (by
    have e2 : abv f o d - outO f o d p * blw f o = -(blw f o * outO f o d p - abv f o d) := by
      rw [Int.mul_comm]
      omega
    rw [e2]
    exact Int.dvd_neg.mpr (Int.dvd_of_emod_eq_zero h))
  unfold nextO
  conv => lhs; rw [← e]
  exact lowP_mul (by omega)
/-- offset d' with p (value of d') = value - digit -/
theorem nextO_val (hf : GoodF p f L) (ho : GoodO L o) (d : Int) : (nextO f o d p).1 * (p * blw f o) = (nextO f o d p).2 * (abv f o d - outO f o d p * blw f o) := by
  unfold nextO
  obtain ⟨e1, e2⟩ := lowP_eqs (abv f o d - outO f o d p * blw f o) (blw f o * p)
  generalize lowP (abv f o d - outO f o d p * blw f o) (blw f o * p) = q at *
  rw [Int.mul_comm (p : Int)]
  conv => lhs; rw [e2]
  conv => rhs; rw [e1]
  ac_rfl
theorem nextO_ok (hf : GoodF p f L) (ho : GoodO L o) (d : Int) : GoodO L (nextO f o d p) := by
  have hb := blw_pos hf ho
  have hbn := blw_np hf ho
  have hp2 := hf.hp.pos
  rw [nextO_eq hf ho d]
  refine ⟨lowP_pos hb, lowP_dvdL hb ?_⟩
  have h := (outO_mem hf ho d).2.2
  have e : (p : Int) * ((abv f o d - outO f o d p * blw f o) / p) = abv f o d - outO f o d p * blw f o := Int.mul_ediv_cancel' (by
    have e2 : abv f o d - outO f o d p * blw f o = -(blw f o * outO f o d p - abv f o d) := by
      rw [Int.mul_comm]
      omega
    rw [e2]
    exact Int.dvd_neg.mpr (Int.dvd_of_emod_eq_zero h))
  generalize outO f o d p = w at *
  generalize (abv f o d - w * blw f o) / (p : Int) = X at *
  obtain ⟨Lf, hLf⟩ := hf.fL
  obtain ⟨Lo, hLo⟩ := ho.oL
  have h1 : abv f o d * L = blw f o * (f.1 * d * Lf + o.1 * Lo) := by
    unfold abv blw
    rw [Int.add_mul, Int.mul_add]
    conv => lhs; lhs; rw [hLf]
    conv => lhs; rhs; rw [hLo]
    congr 1 <;> ac_rfl
  have h2 : (p : Int) * (X * L) = blw f o * (f.1 * d * Lf + o.1 * Lo - w * L) := by
    rw [← Int.mul_assoc, e, Int.sub_mul, Int.mul_sub, h1]
    congr 1
    ac_rfl
  generalize f.1 * d * Lf + o.1 * Lo - w * L = Y at h2
  have h3 : Y % p = 0 := Decidable.byContradiction fun hn => ndvd_mul hf.hp hbn hn (by rw [← h2]; exact Int.mul_emod_right _ _)
  obtain ⟨Z, rfl⟩ := Int.dvd_of_emod_eq_zero h3
  refine ⟨Z, Int.eq_of_mul_eq_mul_left (a := (p : Int)) (by omega) ?_⟩
  rw [h2]
  ac_rfl
end
/-! the tables -/
def digO (f o : Of) (p : Nat) (s : List Of × List Nat) (d : Nat) : List Of × List Nat :=
  ((if nextO f o d p ∈ s.1 then s.1 else s.1 ++ [nextO f o d p]), s.2 ++ [(if nextO f o d p ∈ s.1 then s.1 else s.1 ++ [nextO f o d p]).idxOf (nextO f o d p)])
def rowO (f o : Of) (p : Nat) (line : List Of) : Nat → List Of × List Nat
  | 0 => (line, [])
  | i + 1 => digO f o p (rowO f o p line i) i
def linGo (f : Of) (p : Nat) : Nat → List Of → List Nat → List (List Nat) → Option (List Nat × List (List Nat))
  | 0, _, _, _ => none
  | m + 1, line, ad, rows => match line[rows.length]? with
    | none => some (ad, rows)
    | some o => if 40 < (rowO f o p line p).1.length then none else linGo f p m (rowO f o p line p).1 (ad ++ [(resD o.1 o.2 p).toNat]) (rows ++ [(rowO f o p line p).2])
def linTab (f o : Of) (p : Nat) : Option (List Nat × List (List Nat)) := linGo f p 41 [o] [] []
theorem rowO_len (f o : Of) (p : Nat) (line : List Of) : ∀ i, (rowO f o p line i).2.length = i
  | 0 => rfl
  | i + 1 => by
    have := rowO_len f o p line i
    show (_ ++ [_]).length = i + 1
    rw [List.length_append, this]
    rfl
theorem rowO_grow (f o : Of) (p : Nat) (line : List Of) : ∀ i, line.length ≤ (rowO f o p line i).1.length ∧ (rowO f o p line i).1.length ≤ line.length + i
  | 0 => ⟨Nat.le_refl _, Nat.le_refl _⟩
  | i + 1 => by
    have := rowO_grow f o p line i
    show line.length ≤ (if nextO f o i p ∈ (rowO f o p line i).1 then (rowO f o p line i).1 else (rowO f o p line i).1 ++ [nextO f o i p]).length ∧ (if nextO f o i p ∈ (rowO f o p line i).1 then (rowO f o p line i).1 else (rowO f o p line i).1 ++ [nextO f o i p]).length ≤ _
    split
    · omega
    · rw [List.length_append]
      show _ ≤ _ + 1 ∧ _ + 1 ≤ _
      omega
theorem rowO_pre (f o : Of) (p : Nat) (line : List Of) : ∀ i, ∃ e, (rowO f o p line i).1 = line ++ e
  | 0 => ⟨[], (List.append_nil _).symm⟩
  | i + 1 => by
    obtain ⟨e, he⟩ := rowO_pre f o p line i
    show ∃ e', (if nextO f o i p ∈ (rowO f o p line i).1 then (rowO f o p line i).1 else (rowO f o p line i).1 ++ [nextO f o i p]) = _
    split
    · exact ⟨e, he⟩
    · exact ⟨e ++ [nextO f o i p], by rw [he, List.append_assoc]⟩
theorem rowO_lt (f o : Of) (p : Nat) (line : List Of) : ∀ i, ∀ t ∈ (rowO f o p line i).2, t < (rowO f o p line i).1.length
  | 0, t, h => absurd h List.not_mem_nil
  | i + 1, t, h => by
    have ih := rowO_lt f o p line i
    have hg : (rowO f o p line i).1.length ≤ (rowO f o p line (i + 1)).1.length := by
      show _ ≤ (if nextO f o i p ∈ (rowO f o p line i).1 then (rowO f o p line i).1 else (rowO f o p line i).1 ++ [nextO f o i p]).length
      split
      · omega
      · rw [List.length_append]
        omega
    have h : t ∈ (rowO f o p line i).2 ++ [((rowO f o p line (i + 1)).1).idxOf (nextO f o i p)] := h
    rcases List.mem_append.mp h with h | h
    · exact Nat.lt_of_lt_of_le (ih t h) hg
    · rw [List.mem_singleton.mp h]
      refine List.idxOf_lt_length_iff.mpr ?_
      show _ ∈ (if nextO f o i p ∈ (rowO f o p line i).1 then (rowO f o p line i).1 else (rowO f o p line i).1 ++ [nextO f o i p])
      split
      · assumption
      · exact List.mem_append_right _ (.head _)
theorem rowO_good {p : Nat} {f o : Of} {L : Int} (hf : GoodF p f L) (ho : GoodO L o) {line : List Of} (hl : ∀ q ∈ line, GoodO L q) : ∀ i, ∀ q ∈ (rowO f o p line i).1, GoodO L q
  | 0 => hl
  | i + 1 => fun q h => by
    have ih := rowO_good hf ho hl i
    have h : q ∈ (if nextO f o i p ∈ (rowO f o p line i).1 then (rowO f o p line i).1 else (rowO f o p line i).1 ++ [nextO f o i p]) := h
    split at h
    · exact ih q h
    · rcases List.mem_append.mp h with h | h
      · exact ih q h
      · rw [List.mem_singleton.mp h]
        exact nextO_ok hf ho i
/-- what holds of the tables on the way -/
structure LinI (p : Nat) (L : Int) (line : List Of) (ad : List Nat) (rows : List (List Nat)) : Prop where
  al : ad.length = rows.length
  rl : rows.length ≤ line.length
  l1 : 1 ≤ line.length
  l40 : line.length ≤ 40
  ap : ∀ a ∈ ad, a < p
  rp : ∀ ts ∈ rows, ts.length = p ∧ ∀ t ∈ ts, t < line.length
  good : ∀ q ∈ line, GoodO L q
theorem LinI.step {p : Nat} {f : Of} {L : Int} (hf : GoodF p f L) {line : List Of} {ad : List Nat} {rows : List (List Nat)} (h : LinI p L line ad rows) {o : Of} (e : line[rows.length]? = some o) (hl : ¬ 40 < (rowO f o p line p).1.length) : LinI p L (rowO f o p line p).1 (ad ++ [(resD o.1 o.2 p).toNat]) (rows ++ [(rowO f o p line p).2]) := by
  have ho := h.good o (List.mem_of_getElem? e)
  have hlt := (List.getElem?_eq_some_iff.mp e).1
  have hg := rowO_grow f o p line p
  have h1 := h.l1
  have hr := resD_mem (a := o.1) hf.hp.ok (ho.np hf)
  refine ⟨?_, ?_, by omega, by omega, fun a ha => ?_, fun ts hts => ?_, rowO_good hf ho h.good p⟩
  · rw [List.length_append, List.length_append, h.al]
    rfl
  · rw [List.length_append]
    show rows.length + 1 ≤ _
    omega
  · rcases List.mem_append.mp ha with ha | ha
    · exact h.ap a ha
    · rw [List.mem_singleton.mp ha]
      omega
  · rcases List.mem_append.mp hts with hts | hts
    · exact ⟨(h.rp ts hts).1, fun t ht => Nat.lt_of_lt_of_le ((h.rp ts hts).2 t ht) hg.1⟩
    · rw [List.mem_singleton.mp hts]
      exact ⟨rowO_len f o p line p, rowO_lt f o p line p⟩
theorem LinI.mac {p : Nat} {f : Of} {L : Int} (hf : GoodF p f L) {line : List Of} {ad : List Nat} {rows : List (List Nat)} (h : LinI p L line ad rows) (e : line.length ≤ rows.length) : Mac.Ok ⟨p, ad, rows, 0⟩ := by
  have h1 := h.al
  have h2 := h.rl
  have h3 := h.l1
  have h4 := h.l40
  refine ⟨hf.hp, ?_, ?_, ?_, ?_, h.ap, fun ts hts => ⟨(h.rp ts hts).1, fun t ht => ?_⟩⟩
  · show 1 ≤ ad.length
    omega
  · show ad.length ≤ 40
    omega
  · show rows.length = ad.length
    omega
  · show 0 < ad.length
    omega
  · have := (h.rp ts hts).2 t ht
    show t < ad.length
    omega
theorem linGo_ok {p : Nat} {f : Of} {L : Int} (hf : GoodF p f L) : ∀ (m : Nat) {line : List Of} {ad : List Nat} {rows : List (List Nat)}, LinI p L line ad rows → ∀ r, linGo f p m line ad rows = some r → Mac.Ok ⟨p, r.1, r.2, 0⟩
  | 0, _, _, _, _, _, e => by cases e
  | m + 1, line, ad, rows, h, r, e => by
    unfold linGo at e
    cases hg : line[rows.length]? with
    | none =>
      rw [hg] at e
      cases e
      exact h.mac hf (List.getElem?_eq_none_iff.mp hg)
    | some o =>
      rw [hg] at e
      simp only at e
      by_cases c : 40 < (rowO f o p line p).1.length
      · rw [if_pos c] at e
        cases e
      · rw [if_neg c] at e
        exact linGo_ok hf m (h.step hf hg c) r e
theorem LinI.one {p : Nat} {L : Int} {o : Of} (ho : GoodO L o) : LinI p L [o] [] [] := ⟨rfl, Nat.zero_le _, Nat.le_refl _, Nat.le_of_ble_eq_true rfl, fun _ h => absurd h List.not_mem_nil, fun _ h => absurd h List.not_mem_nil, fun q h => by rw [List.mem_singleton.mp h]; exact ho⟩
theorem linTab_ok {p : Nat} {f o : Of} {L : Int} (hf : GoodF p f L) (ho : GoodO L o) {r : List Nat × List (List Nat)} (e : linTab f o p = some r) : Mac.Ok ⟨p, r.1, r.2, 0⟩ := linGo_ok hf 41 (.one ho) r e
/-! the dict of the offsets' numbers -/
def oD (o : Of) : D := .tup [.int o.1, .int o.2]
def lineK : Nat → List Of → List (List Key × D)
  | _, [] => []
  | k, o :: r => (keyL [o.1, o.2], dn k) :: lineK (k + 1) r
theorem keyL_inj {a b : Of} (e : keyL [a.1, a.2] = keyL [b.1, b.2]) : a = b := by
  obtain ⟨a1, a2⟩ := a
  obtain ⟨b1, b2⟩ := b
  unfold keyL at e
  simp only [List.map_cons, List.map_nil, List.cons.injEq, Sum.inl.injEq, and_true] at e
  rw [e.1, e.2]
theorem lineK_len : ∀ (k : Nat) (l : List Of), (lineK k l).length = l.length
  | _, [] => rfl
  | k, _ :: r => congrArg Nat.succ (lineK_len (k + 1) r)
theorem lineK_lk (t : Of) : ∀ (k : Nat) (l : List Of), lkD (lineK k l) (keyL [t.1, t.2]) = if t ∈ l then some (dn (k + l.idxOf t)) else none
  | _, [] => rfl
  | k, o :: r => by
    show lkD ((keyL [o.1, o.2], dn k) :: lineK (k + 1) r) _ = _
    rw [lkD_cons, lineK_lk t (k + 1) r]
    by_cases e : o = t
    · subst e
      rw [if_pos rfl, if_pos (.head _), List.idxOf_cons_self]
      rfl
    · rw [if_neg (fun h => e (keyL_inj h)), List.idxOf_cons, beq_false_of_ne e, cond_false]
      by_cases h : t ∈ r
      · rw [if_pos h, if_pos (.tail _ h)]
        congr 2
        omega
      · rw [if_neg h, if_neg (fun h2 => (List.mem_cons.mp h2).elim (fun z => e z.symm) h)]
theorem lineK_snoc (t : Of) : ∀ (k : Nat) (l : List Of), lineK k (l ++ [t]) = lineK k l ++ [(keyL [t.1, t.2], dn (k + l.length))]
  | _, [] => rfl
  | k, o :: r => by
    show _ :: lineK (k + 1) (r ++ [t]) = _
    rw [lineK_snoc t (k + 1) r]
    show _ = (_, _) :: (lineK (k + 1) r ++ _)
    rw [List.length_cons, show k + 1 + r.length = k + (r.length + 1) by omega]
theorem lineK_put {t : Of} {l : List Of} (h : t ∉ l) : putD (lineK 0 l) (keyL [t.1, t.2]) (dn l.length) = lineK 0 (l ++ [t]) := by
  rw [lineK_snoc, Nat.zero_add]
  unfold putD
  rw [if_neg]
  intro e
  obtain ⟨kv, h1, h2⟩ := List.any_eq_true.mp e
  have h3 := lineK_lk t 0 l
  rw [if_neg h] at h3
  unfold lkD at h3
  have h4 := List.find?_eq_none.mp (Option.map_eq_none_iff.mp h3) kv h1
  exact h4 h2
end R

/-! # KL: linear machines -/
namespace R
open PySem PySem.Spec PyProof.Rows L2 L2H LamX
def isLin (f o : Of) (p : Int) : Bool := isFrac f.1 f.2 && isFrac o.1 o.2 && decide (f.2 % p ≠ 0) && decide (o.2 % p ≠ 0) && decide ((f.1 - f.2) % p = 0)
theorem isFrac_iff {a b : Int} : isFrac a b = true ↔ (0 < b ∧ b < 1000000 ∧ -1000000 < a ∧ a < 1000000) ∧ Nat.gcd a.natAbs b.natAbs = 1 := by
  unfold isFrac
  rw [Bool.and_eq_true_iff, decide_eq_true_iff, decide_eq_true_iff]
theorem isLin_iff {f o : Of} {p : Int} : isLin f o p = true ↔ isFrac f.1 f.2 = true ∧ isFrac o.1 o.2 = true ∧ f.2 % p ≠ 0 ∧ o.2 % p ≠ 0 ∧ (f.1 - f.2) % p = 0 := by
  unfold isLin
  rw [Bool.and_eq_true_iff, Bool.and_eq_true_iff, Bool.and_eq_true_iff, Bool.and_eq_true_iff, decide_eq_true_iff, decide_eq_true_iff, decide_eq_true_iff]
  exact ⟨fun ⟨⟨⟨⟨a, b⟩, c⟩, d⟩, e⟩ => ⟨a, b, c, d, e⟩, fun ⟨a, b, c, d, e⟩ => ⟨⟨⟨⟨a, b⟩, c⟩, d⟩, e⟩⟩
theorem isLin_good {f o : Of} {p : Nat} (hp : isP p) (h : isLin f o p = true) : GoodF p f (f.2 * o.2) ∧ GoodO (f.2 * o.2) o := by
  obtain ⟨h1, h2, h3, h4, _⟩ := isLin_iff.mp h
  have h1 := (isFrac_iff.mp h1).1
  have h2 := (isFrac_iff.mp h2).1
  have hm : f.2 * o.2 < 1000000000000 := by
    calc f.2 * o.2 ≤ 1000000 * o.2 := Int.mul_le_mul_of_nonneg_right (by omega) (by omega)
      _ < 1000000000000 := by omega
  exact ⟨⟨hp, h1.1, h1.2.1, Int.dvd_mul_right _ _, Int.mul_pos h1.1 h2.1, hm, ndvd_mul hp h3 h4⟩, h2.1, Int.dvd_mul_left _ _⟩
/-- the machine of a linear function, if it has one -/
def linM (f o : Of) (p : Nat) : Option Mac := (linTab f o p).map fun r => ⟨p, r.1, r.2, 0⟩
section
variable {P : Program} {w : World} {K : PySem.W.Frag} {mg : Str → Option Value} {base : Heap}
def dIsLin : DSp := fun ds Q _ => ∃ (f o : Of) (p : Int), ds = [oD f, oD o, .int p] ∧ 0 < p ∧ Q (.d (.bl (isLin f o p)))
theorem ok_is_linear (T : Txt K mg) : Ok P w K mg base 3 T.is_linear (liftP K T.mC dIsLin) := by
  refine ok_P T.is_linear sc_is_linear (fun ds Q E h => ?_) fun cdv A outer s H E ds Q Ed fr hr h he => ?_
  · obtain ⟨f, o, p, rfl, _⟩ := h
    rfl
  · obtain ⟨f, o, p, rfl, hp, k⟩ := h
    refine ⟨_, ((pss_cons (ps_if (PW.pt (pw_or (pt_not (pt_val (pcall T.is_fraction (ok_is_fraction T) (hr.mono (by omega)) passE (pa_cons (pv 0) pa_nil)))) (pw_or1 (pt_not (pt_val (pcall T.is_fraction (ok_is_fraction T) (hr.mono (by omega)) passE (pa_cons (pv 1) pa_nil)))))))
  (pss_one (ps_ret pe_bl))
  pss_nil)
  (pss_cons (ps_if (PW.pt (pw_or (pt_cmpR (op_sEq hr.units) (pe_op op_sMod (pe_ix ix_s (pv 0) pe_int (fun _ _ => rfl)) (pv 2)) pe_int (nomark _)) (pw_or1 (pt_cmpR (op_sEq hr.units) (pe_op op_sMod (pe_ix ix_s (pv 1) pe_int (fun _ _ => rfl)) (pv 2)) pe_int (nomark _)))))
  (pss_one (ps_ret pe_bl))
  pss_nil)
  (pss_one (ps_ret (pe_cmpR (op_sEq hr.units) (pe_op op_sMod (pe_op op_sSub (pe_ix ix_s (pv 0) pe_int (fun _ _ => rfl)) (pe_ix ix_s (pv 0) pe_int (fun _ _ => rfl))) (pv 2)) pe_int (nomark _))))))), ?_⟩
    show wS _ _ [] [some (.d (oD f)), some (.d (oD o)), some (.d (.int p))] [] _
    try dsimp only [L2.cxOf]
    have no : ¬ (isLin f o p = true) → Q (.d (.bl false)) := fun c => by
      rw [Bool.not_eq_true] at c
      rw [c] at k
      exact k
    walk_at "wx"
    refine ⟨f.1, f.2, rfl, ?_⟩
    walk_at "wx"
    cases h1 : isFrac f.1 f.2 with
    | false =>
      walk_at "wx"
      exact no fun c => by rw [(isLin_iff.mp c).1] at h1; cases h1
    | true =>
      walk_at "wx"
      refine ⟨o.1, o.2, rfl, ?_⟩
      walk_at "wx"
      cases h2 : isFrac o.1 o.2 with
      | false =>
        walk_at "wx"
        exact no fun c => by rw [(isLin_iff.mp c).2.1] at h2; cases h2
      | true =>
        walk_at "wx"
        refine o_ix (d := .int f.2) rfl ?_
        walk_at "wx"
        refine y_ite (fun h3 => ?_) fun h3 => ?_
        · walk_at "wx"
          exact no fun c => (isLin_iff.mp c).2.2.1 h3
        · walk_at "wx"
          refine o_ix (d := .int o.2) rfl ?_
          walk_at "wx"
          refine y_ite (fun h4 => ?_) fun h4 => ?_
          · walk_at "wx"
            exact no fun c => (isLin_iff.mp c).2.2.2.1 h4
          · walk_at "wx"
            refine o_ix (d := .int f.1) rfl ?_
            walk_at "wx"
            refine o_ix (d := .int f.2) rfl ?_
            walk_at "wx"
            unfold isLin at k
            rw [h1, h2, decide_eq_true h3, decide_eq_true h4] at k
            exact k
end
end R

/-! # HN: the law's helpers about linear functions -/
namespace R
open PySem PySem.Spec PyProof.Rows L2 L2H LamX
theorem lowP_frac {a b : Int} (ha : -1000000 < a ∧ a < 1000000) (hb : 0 < b ∧ b < 1000000) : isFrac (lowP a b).1 (lowP a b).2 = true := by
  have hg := gcd_pos (a := a) hb.1
  have h2 := Int.le_of_dvd hb.1 (lowP_dvd a b)
  have h3 := lowP_pos (a := a) hb.1
  have h4 : (lowP a b).1.natAbs ≤ a.natAbs := by
    have e : (lowP a b).1.natAbs = a.natAbs / Nat.gcd a.natAbs b.natAbs := by
      show (a / ((Nat.gcd a.natAbs b.natAbs : Nat) : Int)).natAbs = _
      rw [Int.natAbs_ediv_of_dvd (gcd_dvd1 a b)]
      rfl
    rw [e]
    exact Nat.div_le_self _ _
  exact isFrac_iff.mpr ⟨⟨h3, by omega, by omega, by omega⟩, lowP_cop hb.1⟩
theorem lowP_nat {a b : Int} : (lowP a b).1.natAbs ≤ a.natAbs := by
  have e : (lowP a b).1.natAbs = a.natAbs / Nat.gcd a.natAbs b.natAbs := by
    show (a / ((Nat.gcd a.natAbs b.natAbs : Nat) : Int)).natAbs = _
    rw [Int.natAbs_ediv_of_dvd (gcd_dvd1 a b)]
    rfl
  rw [e]
  exact Nat.div_le_self _ _
theorem lowP_abs {a b n : Int} (h : 0 < b) (h1 : -n < a) (h2 : a < n) : -n < (lowP a b).1 := by
  have := lowP_nat (a := a) (b := b)
  omega
theorem lowP_abs' {a b n : Int} (h : 0 < b) (h1 : -n < a) (h2 : a < n) : (lowP a b).1 < n := by
  have := lowP_nat (a := a) (b := b)
  omega
theorem lowP_lt {a b : Int} (h : 0 < b) (h2 : b < 10) : (lowP a b).2 < 10 := by
  have := Int.le_of_dvd h (lowP_dvd a b)
  omega
theorem lin_low {p : Nat} (hp : isP p) {b k a c : Int} (hb : 0 < b ∧ b < 10 ∧ b % p ≠ 0) (hk : -4 < k ∧ k < 4) (ha : -10 < a ∧ a < 10) (hc : 0 < c ∧ c < 10 ∧ c % p ≠ 0) : isLin (lowP (b + p * k) b) (lowP a c) p = true := by
  have hp2 := hp.pos
  have h1 : -1000 < p * k ∧ p * k < 1000 := by
    rcases hp with rfl | rfl | rfl <;> omega
  refine isLin_iff.mpr ⟨lowP_frac (by omega) (by omega), lowP_frac (by omega) (by omega), ndvd_of hb.2.2 (lowP_dvd _ _), ndvd_of hc.2.2 (lowP_dvd _ _), ?_⟩
  obtain ⟨e1, e2⟩ := lowP_eqs (b + p * k) b
  have hg := ndvd_of hb.2.2 (gcd_dvd2 (b + p * k) b)
  generalize ((Nat.gcd (b + p * k).natAbs b.natAbs : Nat) : Int) = g at *
  generalize lowP (b + p * k) b = q at *
  refine Decidable.byContradiction fun hn => ndvd_mul hp hg hn ?_
  have e : g * (q.1 - q.2) = p * k := by
    rw [Int.mul_sub, ← e1, ← e2]
    omega
  rw [e, Int.mul_emod_right]
section
variable {W : Wo} {cs : Cs} {sl : Sl} {st : List Sd} {Q : Sd → Cs → Prop}
/-- a text not in a constant tuple of texts -/
theorem o_ninSN {y : Sd} {i : Str} {ns : List Str} (q : Q (.d (.bl (!decide (i ∈ ns)))) cs) (h : rdQ cs y = some (ns.map .str) := by rfl) : wO W (sNotIn W.K) (.d (.str i)) y cs sl st Q := fun H σ vx vy ws R Q' k => by
  obtain rfl := R.drop1.str
  obtain ⟨as, R⟩ := R
  obtain ⟨a, xs, rfl, h1, h2, h3, h4⟩ := R.rq h
  have := h4.strs
  subst this
  exact ⟨_, h1, rfl, all_flat _ (fun _ => rfl) ns, by rw [inv_str]; exact k _ _ _ _ q ((Rep.drop1 (Rep.drop1 ⟨as, R⟩)).push (scd_bl _))⟩
end
section
variable {P : Program} {w : World} {K : PySem.W.Frag} {mg : Str → Option Value} {base : Heap}
theorem ok_l_is_fraction (T : Txt K mg) : Ok P w K mg base 2 T.l_is_fraction (liftP K T.mC dIsFrac) := by
  refine ok_P T.l_is_fraction sc_l_is_fraction (fun ds Q E h => ?_) fun cdv A outer s H E ds Q Ed fr hr h he => ?_
  · obtain ⟨a, b, rfl, _⟩ := h
    rfl
  · obtain ⟨a, b, rfl, k⟩ := h
    refine ⟨_, ((pss_cons (ps_if (PW.pt (pw_or (pt_not (pt_chain op_sLt op_sLt pe_int (pe_ix ix_s (pv 0) pe_int (fun _ _ => rfl)) (pe_op op_sPow pe_int pe_int))) (pw_or1 (pt_not (pt_cmpR op_sLt (pe_callB call_abs (by rfl) T.b_abs (by decide +kernel) (pa_cons (pe_ix ix_s (pv 0) pe_int (fun _ _ => rfl)) pa_nil)) (pe_op op_sPow pe_int pe_int) (nomark _))))))
  (pss_one (ps_ret pe_bl))
  pss_nil)
  (pss_one (ps_ret (pe_cmpR (op_sEq hr.units) (pcall T.gcd (ok_gcd T) (hr.mono (by omega)) passE (pa_cons (pe_callB call_abs (by rfl) T.b_abs (by decide +kernel) (pa_cons (pe_ix ix_s (pv 0) pe_int (fun _ _ => rfl)) pa_nil)) (pa_cons (pe_ix ix_s (pv 0) pe_int (fun _ _ => rfl)) pa_nil))) pe_int (nomark _)))))), ?_⟩
    show wS _ _ [] [some (.d (.tup [.int a, .int b]))] [] _
    try dsimp only [L2.cxOf]
    have no : ¬ (0 < b ∧ b < 1000000 ∧ -1000000 < a ∧ a < 1000000) → Q (.d (.bl false)) := fun c => by
      unfold isFrac at k
      rw [decide_eq_false c] at k
      exact k
    walk_at "wx"
    have e10 : (10 : Int) ^ (6 : Int).toNat = 1000000 := by decide +kernel
    refine o_ix (d := .int b) rfl ?_
    walk_at "wx"
    refine y_ite (fun c1 => ?_) fun c1 => ?_
    · walk_at "wx"
      rw [e10]
      refine y_iteN (fun c2 => ?_) fun c2 => ?_
      · walk_at "wx"
        exact no (by omega)
      · walk_at "wx"
        refine o_ix (d := .int a) rfl ?_
        walk_at "wx"
        refine o_absC ?_
        walk_at "wx"
        have ea : (if a < 0 then -a else a) = ((a.natAbs : Nat) : Int) := by split <;> omega
        refine y_iteN (fun c3 => ?_) fun c3 => ?_
        · walk_at "wx"
          exact no (by omega)
        · walk_at "wx"
          refine o_ix (d := .int a) rfl ?_
          walk_at "wx"
          refine o_absC ?_
          walk_at "wx"
          refine o_ix (d := .int b) rfl ?_
          walk_at "wx"
          have eb : b = ((b.natAbs : Nat) : Int) := by omega
          refine ⟨a.natAbs, b.natAbs, by rw [ea, eb]; rfl, ?_⟩
          walk_at "wx"
          have e : isFrac a b = decide (((Nat.gcd a.natAbs b.natAbs : Nat) : Int) = 1) := by
            unfold isFrac
            rw [decide_eq_true (by omega), Bool.true_and]
            exact decide_eq_decide.mpr ⟨fun h => by omega, fun h => by omega⟩
          rw [← e]
          exact k
    · walk_at "wx"
      exact no (by omega)
def dLinear : List D → (Rt → Prop) → Prop := fun ds Q => ∃ p : Nat, ds = [dn p] ∧ isP p ∧ ∀ f o : Of, isLin f o p = true → f.2 < 10 ∧ o.2 < 10 ∧ -25 < f.1 ∧ f.1 < 25 ∧ -10 < o.1 ∧ o.1 < 10 → Q (.d (.tup [oD f, oD o]))
theorem ok_linear (T : Txt K mg) : Ok P w K mg base 3 T.linear (liftR K T.mC dLinear) := by
  have ok_draw := fun T : Txt K mg => okd_draw (P := P) (w := w) (base := base) T
  refine ok_R T.linear sc_linear (fun ds Q h => ?_) fun cdv A outer s H E ds Q fr rl hr h he => ?_
  · obtain ⟨p, rfl, _⟩ := h
    rfl
  · obtain ⟨p, rfl, hp, k⟩ := h
    have hp2 := hp.pos
    refine ⟨_, ((pss_cons (ps_set (i := 2) sc_linear.nd rfl (by first | exact Or.inl rfl | exact Or.inr rfl) (pcall T.pick (ok_pick T) (hr.mono (by omega)) passE (pa_cons (pv 0) (pa_cons (pe_lc (own := [("_law_k", 3)]) (g := (gName 3)) (tt := (tTest (tOp (sNe K) (tOp sMod (tVar 3) (tVar 1)) (tC _)))) (te := (tVar 3)) (by rfl) sc_linear.nd (pi_range2 (by rfl) T.b_range (pa_cons pe_int (pa_cons pe_int pa_nil))) (blkOk_by (own := [("_law_k", 3)]) (N := N_linear) (sc := defScope s_linear) (by decide +kernel)) (fun _ _ _ _ _ => by exact (pg_name (i := 3) sc_linear.nd rfl (by first | exact Or.inl rfl | exact Or.inr rfl))) (fun _ _ _ _ _ => by exact (pts_one (pt_cmpR (op_sNe hr.units) (pe_op op_sMod (pv 3) (pv 1)) pe_int (nomark _)))) (fun _ _ _ _ _ => by exact (pv 3))) pa_nil))))
  (pss_cons (ps_set (i := 4) sc_linear.nd rfl (by first | exact Or.inl rfl | exact Or.inr rfl) (pcall T.pick (ok_pick T) (hr.mono (by omega)) passE (pa_cons (pv 0) (pa_cons (pe_op op_sAdd (pe_lst (pa_cons pe_int (pa_cons pe_int pa_nil))) (pe_lc (own := [("_law_k", 3)]) (g := (gName 3)) (tt := (tTest (tOp (sNe K) (tOp sMod (tVar 3) (tVar 1)) (tC _)))) (te := (tVar 3)) (by rfl) sc_linear.nd (pi_range2 (by rfl) T.b_range (pa_cons pe_int (pa_cons pe_int pa_nil))) (blkOk_by (own := [("_law_k", 3)]) (N := N_linear) (sc := defScope s_linear) (by decide +kernel)) (fun _ _ _ _ _ => by exact (pg_name (i := 3) sc_linear.nd rfl (by first | exact Or.inl rfl | exact Or.inr rfl))) (fun _ _ _ _ _ => by exact (pts_one (pt_cmpR (op_sNe hr.units) (pe_op op_sMod (pv 3) (pv 1)) pe_int (nomark _)))) (fun _ _ _ _ _ => by exact (pv 3)))) pa_nil))))
  (pss_cons (ps_set (i := 5) sc_linear.nd rfl (by first | exact Or.inl rfl | exact Or.inr rfl) (pcall T.lowest (ok_lowest T) (hr.mono (by omega)) passE (pa_cons (pe_op op_sAdd (pv 2) (pe_op op_sMul (pv 1) (pe_op op_sSub (pcall T.draw (ok_draw T) (hr.mono (by omega)) passE (pa_cons (pv 0) (pa_cons pe_int pa_nil))) pe_int))) (pa_cons (pv 2) pa_nil))))
  (pss_one (ps_ret (pe_tup (pa_cons (pv 5) (pa_cons (pcall T.lowest (ok_lowest T) (hr.mono (by omega)) passE (pa_cons (pe_op op_sSub (pcall T.draw (ok_draw T) (hr.mono (by omega)) passE (pa_cons (pv 0) (pa_cons pe_int pa_nil))) pe_int) (pa_cons (pv 4) pa_nil))) pa_nil))))))))), ?_⟩
    show wS _ _ [] [some .r, some (.d (dn p)), none, none, none, none] [] _
    try dsimp only [L2.cxOf]
    walk_at "wx"
    refine rg (by omega) ?_
    refine lck_filter (fun i : Nat => decide ((1 + (i : Int)) % p ≠ 0)) (fun i => .int (1 + (i : Int))) (fun x ds st2 hx => ?_) ?_
    · unfold LcT
      walk_at "wx"
      refine y_iteN (fun c => ?_) fun c => ?_
      · walk_at "wx"
        exact ⟨decide_eq_true c, rfl⟩
      · walk_at "wx"
        exact decide_eq_false (fun h => h c)
    walk_at "wx"
    have hlow : ∀ y ∈ (((List.range (10 - 1 : Int).toNat).filter fun i : Nat => decide ((1 + (i : Int)) % p ≠ 0)).map fun i : Nat => D.int (1 + (i : Int))), ∃ b : Int, y = .int b ∧ 0 < b ∧ b < 10 ∧ b % p ≠ 0 := fun y hy => by
      obtain ⟨i, hi, rfl⟩ := List.mem_map.mp hy
      obtain ⟨h1, h2⟩ := List.mem_filter.mp hi
      have h1 := List.mem_range.mp h1
      have h2 := of_decide_eq_true h2
      exact ⟨_, rfl, by omega, by omega, h2⟩
    have hne : 0 < (((List.range (10 - 1 : Int).toNat).filter fun i : Nat => decide ((1 + (i : Int)) % p ≠ 0)).map fun i : Nat => D.int (1 + (i : Int))).length ∧ (((List.range (10 - 1 : Int).toNat).filter fun i : Nat => decide ((1 + (i : Int)) % p ≠ 0)).map fun i : Nat => D.int (1 + (i : Int))).length ≤ 1000 := by
      rcases hp with rfl | rfl | rfl <;> decide +kernel
    refine use_dPick (fun y hy => ?_) ⟨hne.1, by omega⟩
    obtain ⟨b, rfl, hb⟩ := hlow y hy
    walk_at "wx"
    refine rg (by omega) ?_
    refine lck_filter (fun i : Nat => decide ((1 + (i : Int)) % p ≠ 0)) (fun i => .int (1 + (i : Int))) (fun x ds st2 hx => ?_) ?_
    · unfold LcT
      walk_at "wx"
      refine y_iteN (fun c => ?_) fun c => ?_
      · walk_at "wx"
        exact ⟨decide_eq_true c, rfl⟩
      · walk_at "wx"
        exact decide_eq_false (fun h => h c)
    generalize (((List.range (10 - 1 : Int).toNat).filter fun i : Nat => decide ((1 + (i : Int)) % p ≠ 0)).map fun i : Nat => D.int (1 + (i : Int))) = items at hlow hne ⊢
    walk_at "wx"
    refine w_newO (o_addL (by show 2 + items.length ≤ 900000; omega) ?_ rfl rfl)
    walk_at "wx"
    refine use_dPick (fun y hy => ?_) ⟨Nat.zero_lt_succ _, by rw [List.length_append]; show 2 + items.length ≤ 900000; omega⟩
    obtain ⟨c, rfl, hc⟩ : ∃ b : Int, y = .int b ∧ 0 < b ∧ b < 10 ∧ b % p ≠ 0 := by
      rcases List.mem_append.mp hy with hy | hy
      · have e : y = .int 1 := by
          rcases List.mem_cons.mp hy with rfl | hy
          · rfl
          · exact List.mem_singleton.mp hy
        exact ⟨1, e, by omega, by omega, by rcases hp with rfl | rfl | rfl <;> decide⟩
      · exact hlow y hy
    walk_at "wx"
    refine use_dDrawN 7 fun n hn => ?_
    walk_at "wx"
    refine ⟨_, b.toNat, by rw [show dn b.toNat = D.int b by show D.int _ = _; congr 1; omega], by omega, by omega, ?_⟩
    walk_at "wx"
    refine use_dDrawN 19 fun m hm => ?_
    walk_at "wx"
    refine ⟨_, c.toNat, by rw [show dn c.toNat = D.int c by show D.int _ = _; congr 1; omega], by omega, by omega, ?_⟩
    walk_at "wx"
    have e1 : ((b.toNat : Nat) : Int) = b := by omega
    have e2 : ((c.toNat : Nat) : Int) = c := by omega
    have h := k _ _ (lin_low hp hb (k := (n : Int) - 3) (by omega) (a := (m : Int) - 9) (by omega) hc) ⟨lowP_lt hb.1 hb.2.1, lowP_lt hc.1 hc.2.1, lowP_abs hb.1 (by rcases hp with rfl | rfl | rfl <;> omega) (by rcases hp with rfl | rfl | rfl <;> omega), lowP_abs' hb.1 (by rcases hp with rfl | rfl | rfl <;> omega) (by rcases hp with rfl | rfl | rfl <;> omega), lowP_abs hc.1 (by omega) (by omega), lowP_abs' hc.1 (by omega) (by omega)⟩
    unfold oD lowP at h
    rw [e1, e2, show b.toNat = b.natAbs by omega, show c.toNat = c.natAbs by omega]
    exact h
end
end R

/-! # LG: texts read, plainly -/
namespace R
open PySem PySem.Spec PyProof.Rows L2 L2H LamX
open SX (S S_len)
theorem slice_clip {a : List Nat} {i j : Int} (h : (a.length : Int) ≤ j) : Txt.slice (S a) (some i) (some j) = Txt.slice (S a) (some i) (some (a.length : Int)) := by
  have h0 : ¬ j < 0 := by omega
  have h1 : ¬ ((a.length : Int) < 0) := by omega
  have h2 : (1 : Int) > 0 := by decide
  unfold Txt.slice
  rw [S_len]
  simp only [Builtin.Str.strSliceIndices, h0, h1, h2, if_false, if_true, Int.min_eq_right h, Int.min_self]
theorem slice_clipL {a : List Nat} {i j : Int} (h : (a.length : Int) ≤ i) : Txt.slice (S a) (some i) (some j) = Txt.slice (S a) (some (a.length : Int)) (some j) := by
  have h0 : ¬ i < 0 := by omega
  have h1 : ¬ ((a.length : Int) < 0) := by omega
  have h2 : (1 : Int) > 0 := by decide
  unfold Txt.slice
  rw [S_len]
  simp only [Builtin.Str.strSliceIndices, h0, h1, h2, if_false, if_true, Int.min_eq_right h, Int.min_self]
/-- text[i:j] -/
def subL (a : List Nat) (i j : Nat) : List Nat := (a.drop i).take (j - i)
theorem slice_mid (a : List Nat) {i j : Nat} (h : i ≤ j) : Txt.slice (S a) (some (i : Int)) (some (j : Int)) = S (subL a i j) := by
  have core : ∀ i j : Nat, i ≤ j → j ≤ a.length → Txt.slice (S a) (some (i : Int)) (some (j : Int)) = S (subL a i j) := fun i j h hj => by
    have e := beq_iff_eq.mp (PyProof.Rows.slice_closesL (x := S a) (i := (i : Int)) (j := (j : Int)) (by omega) (by omega) (by rw [S_len]; omega))
    refine e.trans (TL.ext_tl ?_)
    show (a.drop (i : Int).toNat).take ((j : Int) - i).toNat = (a.drop i).take (j - i)
    rw [Int.toNat_natCast, show ((j : Int) - i).toNat = j - i by omega]
  by_cases hj : j ≤ a.length
  · exact core i j h hj
  · rw [slice_clip (by omega)]
    by_cases hi : i ≤ a.length
    · rw [core i a.length hi (Nat.le_refl _)]
      unfold subL
      rw [List.take_of_length_le (by rw [List.length_drop]; omega), List.take_of_length_le (by rw [List.length_drop]; omega)]
    · rw [slice_clipL (by omega), core a.length a.length (Nat.le_refl _) (Nat.le_refl _)]
      unfold subL
      rw [List.drop_of_length_le (Nat.le_refl _), List.drop_of_length_le (show a.length ≤ i by omega)]
      simp
/-- the character at i, or nothing -/
def chA (a : List Nat) (i : Nat) : List Nat := subL a i (i + 1)
theorem chA_some {a : List Nat} {i c : Nat} (h : a[i]? = some c) : chA a i = [c] := by
  obtain ⟨h1, h2⟩ := List.getElem?_eq_some_iff.mp h
  unfold chA subL
  rw [Nat.add_sub_cancel_left, List.drop_eq_getElem_cons h1, h2]
  rfl
theorem chA_none {a : List Nat} {i : Nat} (h : a.length ≤ i) : chA a i = [] := by
  unfold chA subL
  rw [List.drop_of_length_le h, List.take_nil]
theorem chA_iff {a : List Nat} {i c : Nat} : chA a i = [c] ↔ a[i]? = some c := by
  constructor
  · intro h
    by_cases hi : i < a.length
    · rw [chA_some (List.getElem?_eq_getElem hi)] at h
      rw [List.getElem?_eq_getElem hi]
      exact congrArg some (List.cons.inj h).1
    · rw [chA_none (by omega)] at h
      cases h
  · exact chA_some
/-- how many of the characters in front are of the set, lim at most -/
def runL (set : List Nat) : Nat → List Nat → Nat
  | 0, _ => 0
  | _ + 1, [] => 0
  | m + 1, c :: r => if c ∈ set then runL set m r + 1 else 0
theorem runL_le (set : List Nat) : ∀ (m : Nat) (l : List Nat), runL set m l ≤ m ∧ runL set m l ≤ l.length
  | 0, l => ⟨Nat.le_refl _, Nat.zero_le _⟩
  | m + 1, [] => ⟨Nat.zero_le _, Nat.zero_le _⟩
  | m + 1, c :: r => by
    have := runL_le set m r
    show (if c ∈ set then runL set m r + 1 else 0) ≤ _ ∧ (if c ∈ set then runL set m r + 1 else 0) ≤ r.length + 1
    split <;> omega
theorem runL_app {set : List Nat} : ∀ {m : Nat} {l r : List Nat}, (∀ c ∈ l, c ∈ set) → l.length ≤ m → (∀ c, r.head? = some c → c ∉ set) → runL set m (l ++ r) = l.length
  | 0, [], _, _, _, _ => rfl
  | 0, _ :: _, _, _, h, _ => by simp at h
  | m + 1, [], [], _, _, _ => rfl
  | m + 1, [], c :: r, _, _, h => if_neg (h c rfl)
  | m + 1, a :: l, r, h1, h2, h3 => by
    show (if a ∈ set then runL set m (l ++ r) + 1 else 0) = l.length + 1
    rw [if_pos (h1 a (.head _)), runL_app (fun c hc => h1 c (.tail _ hc)) (by simpa using h2) h3]
abbrev Rd (α : Type) := Except Nat α
def scanP (a : List Nat) (pos : Nat) (set : List Nat) (lim : Nat) : Rd Nat := if runL set lim (a.drop pos) = 0 then .error pos else .ok (pos + runL set lim (a.drop pos))
def expP (a : List Nat) : Nat → List Nat → Rd Nat
  | pos, [] => .ok pos
  | pos, c :: w => if chA a pos = [c] then expP a (pos + 1) w else .error pos
def DEC : List Nat := [48, 49, 50, 51, 52, 53, 54, 55, 56, 57]
def natP (a : List Nat) (pos lim : Nat) : Rd Nat := if chA a pos = [48] then .ok (pos + 1) else scanP a pos DEC lim
def valP (l : List Nat) : Nat := NumText.digitsVal l
def fracP (a : List Nat) (pos : Nat) (neg : Bool) : Rd ((Int × Int) × Nat) :=
  if neg = true ∧ chA a pos = [48] then .error pos else
  match natP a pos 6 with
  | .error e => .error e
  | .ok e => if chA a e = [47] then
      match natP a (e + 1) 6 with
      | .error e2 => .error e2
      | .ok l => .ok (((if neg then 0 - (valP (subL a pos e) : Int) else (valP (subL a pos e) : Int)), (if valP (subL a (e + 1) l) = 1 then 0 else (valP (subL a (e + 1) l) : Int))), l)
    else .ok (((if neg then 0 - (valP (subL a pos e) : Int) else (valP (subL a pos e) : Int)), 1), e)
def linP (a : List Nat) : Rd (((Int × Int) × (Int × Int)) × Nat) :=
  match fracP a (1 + (decide (chA a 1 = [45])).toNat) (decide (chA a 1 = [45])) with
  | .error e => .error e
  | .ok (f, p1) => match expP a p1 [42, 120] with
    | .error e => .error e
    | .ok p2 => if chA a p2 = [43] ∨ chA a p2 = [45] then
        match fracP a (p2 + 1) (decide (chA a p2 = [45])) with
        | .error e => .error e
        | .ok (o, p3) => match expP a p3 [125] with
          | .error e => .error e
          | .ok p4 => .ok ((f, o), p4)
      else .error p2
theorem runL_take {set : List Nat} : ∀ (m : Nat) (l : List Nat), ∀ c ∈ l.take (runL set m l), c ∈ set
  | 0, l, c, h => by simp [runL] at h
  | m + 1, [], c, h => by simp at h
  | m + 1, a :: l, c, h => by
    have h : c ∈ (a :: l).take (if a ∈ set then runL set m l + 1 else 0) := h
    by_cases ha : a ∈ set
    · rw [if_pos ha, List.take_succ_cons] at h
      rcases List.mem_cons.mp h with rfl | h
      · exact ha
      · exact runL_take m l c h
    · rw [if_neg ha] at h
      simp at h
def isDig (c : Nat) : Bool := decide (48 ≤ c) && decide (c ≤ 57)
theorem dec_dig {c : Nat} (h : c ∈ DEC) : isDig c = true := by
  unfold DEC at h
  simp only [List.mem_cons, List.not_mem_nil, or_false] at h
  rcases h with rfl | rfl | rfl | rfl | rfl | rfl | rfl | rfl | rfl | rfl <;> rfl
theorem natP_ok {a : List Nat} {pos lim e : Nat} (h : natP a pos lim = .ok e) : pos < e ∧ e ≤ pos + lim + 1 ∧ e ≤ a.length ∧ subL a pos e ≠ [] ∧ (subL a pos e).all isDig = true := by
  unfold natP at h
  by_cases c : chA a pos = [48]
  · rw [if_pos c] at h
    cases h
    have e : subL a pos (pos + 1) = [48] := c
    have := (List.getElem?_eq_some_iff.mp (chA_iff.mp c)).1
    rw [e]
    exact ⟨by omega, by omega, by omega, List.cons_ne_nil _ _, rfl⟩
  · rw [if_neg c] at h
    unfold scanP at h
    by_cases c2 : runL DEC lim (a.drop pos) = 0
    · rw [if_pos c2] at h
      cases h
    · rw [if_neg c2] at h
      cases h
      obtain ⟨h1, h2⟩ := runL_le DEC lim (a.drop pos)
      rw [List.length_drop] at h2
      have e : subL a pos (pos + runL DEC lim (a.drop pos)) = (a.drop pos).take (runL DEC lim (a.drop pos)) := by
        unfold subL
        rw [Nat.add_sub_cancel_left]
      rw [e]
      refine ⟨by omega, by omega, by omega, fun z => ?_, List.all_eq_true.mpr fun x hx => dec_dig (runL_take lim _ x hx)⟩
      have := congrArg List.length z
      rw [List.length_take, List.length_drop, List.length_nil] at this
      omega
theorem int_sub {a : List Nat} {i j : Nat} (h1 : subL a i j ≠ []) (h2 : (subL a i j).all isDig = true) (hl : a.length ≤ 600) : PySem.intText? (S (subL a i j)) = some (valP (subL a i j) : Int) ∧ (S (subL a i j)).length ≤ 640 := by
  have : (subL a i j).length ≤ 600 := by unfold subL; rw [List.length_take, List.length_drop]; omega
  exact ⟨SX.int_S h2 h1 (by omega), by rw [S_len]; omega⟩
end R

/-! # PG: language.py: reading texts -/
namespace R
open PySem PySem.Spec PyProof.Rows L2 L2H LamX
open SX (S S_len)
def errP (e : Nat) : List (Str × V) := [("position", .int (e : Int)), ("tag", .str "InvalidText")]
/-- what was read, or the place where the text is wrong -/
def RdK {K : PySem.W.Frag} {mg : Str → Option Value} (T : Txt K mg) {α : Type} (r : Rd α) (k : α → Prop) (E : ErP) : Prop := (∀ x, r = .ok x → k x) ∧ ∀ e, r = .error e → E T.e_InvalidText.C (errP e)
def frD (o : Int × Int) : D := .tup [.int o.1, .int o.2]
theorem S_dec {l m : List Nat} : decide (S l = S m) = decide (l = m) := decide_eq_decide.mpr ⟨SX.S_inj, fun h => by rw [h]⟩
theorem dec_S : ("0123456789" : Str) = S DEC := by decide +kernel
section
variable {W : Wo} {cs : Cs} {sl : Sl} {st : List Sd} {Q : Sd → Cs → Prop}
/-- a text not in a constant tuple of texts -/
theorem o_ninST {y : Sd} {i : Str} {ns : List Str} (q : Q (.d (.bl (!decide (i ∈ ns)))) cs) (h : rdQ cs y = some (ns.map .str) := by rfl) : wO W (sNotIn W.K) (.d (.str i)) y cs sl st Q := fun H σ vx vy ws R Q' k => by
  obtain rfl := R.drop1.str
  obtain ⟨as, R⟩ := R
  obtain ⟨a, xs, rfl, h1, h2, h3, h4⟩ := R.rq h
  have := h4.strs
  subst this
  exact ⟨_, h1, rfl, all_flat _ (fun _ => rfl) ns, by rw [inv_str]; exact k _ _ _ _ q ((Rep.drop1 (Rep.drop1 ⟨as, R⟩)).push (scd_bl _))⟩
end
section
variable {P : Program} {w : World} {K : PySem.W.Frag} {mg : Str → Option Value} {base : Heap}
def dCharAt : DSp := fun ds Q _ => ∃ (a : List Nat) (i : Nat), ds = [.str (S a), dn i] ∧ a.length ≤ 900000 ∧ Q (.d (.str (S (chA a i))))
theorem ok_char_at (T : Txt K mg) : Ok P w K mg base 1 T.char_at (liftP K T.mC dCharAt) := by
  refine ok_P T.char_at sc_char_at (fun ds Q E h => ?_) fun cdv A outer s H E ds Q Ed fr hr h he => ?_
  · obtain ⟨a, i, rfl, _⟩ := h
    rfl
  · obtain ⟨a, i, rfl, hl, k⟩ := h
    refine ⟨_, ((pss_one (ps_ret (pe_slice sl_s (pv 0) (po_some (pv 1)) (po_some (pe_op op_sAdd (pv 1) pe_int)))))), ?_⟩
    show wS _ _ [] [some (.d (.str (S a))), some (.d (dn i))] [] _
    try dsimp only [L2.cxOf]
    walk_at "wx"
    refine l_str (by rw [S_len]; omega) ?_
    rw [show ((i : Int) + 1) = ((i + 1 : Nat) : Int) from rfl, slice_mid a (Nat.le_succ i)]
    walk_at "wx"
    exact k
def dScan (T : Txt K mg) : DSp := fun ds Q E => ∃ (a set : List Nat) (pos lim : Nat), ds = [.str (S a), dn pos, .str (S set), dn lim] ∧ a.length ≤ 900000 ∧ RdK T (scanP a pos set lim) (fun e => Q (.d (dn e))) E
theorem ok_scan (T : Txt K mg) : Ok P w K mg base 3 T.scan (liftP K T.mC (dScan T)) := by
  refine ok_P T.scan sc_scan (fun ds Q E h => ?_) fun cdv A outer s H E ds Q Ed fr hr h he => ?_
  · obtain ⟨a, set, pos, lim, rfl, _⟩ := h
    rfl
  · obtain ⟨a, set, pos, lim, rfl, hl, k1, k2⟩ := h
    refine ⟨_, ((pss_cons (ps_set (i := 4) sc_scan.nd rfl (by first | exact Or.inl rfl | exact Or.inr rfl) (pv 1))
  (pss_cons (ps_while ownE (PW.pt (pw_and (pt_cmpR op_sLt (pv 4) (pe_op op_sAdd (pv 1) (pv 3)) (nomark _)) (pw_and (pt_cmpR op_sLt (pv 4) (pe_callB call_sLen (by rfl) T.b_len (by decide +kernel) (pa_cons (pv 0) pa_nil)) (nomark _)) (pw_and1 (pt_cmpR op_sIn (pe_ix ix_s (pv 0) (pv 4) (fun _ _ => rfl)) (pv 2) (by rfl))))))
  (pss_one (ps_aug (i := 4) sc_scan.nd rfl (by first | exact Or.inl rfl | exact Or.inr rfl) pe_int ip_add)))
  (pss_cons (ps_if (pt_cmpR (op_sEq hr.units) (pv 4) (pv 1) (nomark _))
  (pss_one (praise T.e_InvalidText (ei_InvalidText T) (hr.mono (by omega)) rfl (takes_of rfl rfl rfl rfl) (by exact (pa_cons (pv 1) pa_nil))))
  pss_nil)
  (pss_one (ps_ret (pv 4))))))), ?_⟩
    show wS _ _ [] [some (.d (.str (S a))), some (.d (dn pos)), some (.d (.str (S set))), some (.d (dn lim)), none] [] _
    try dsimp only [L2.cxOf]
    walk_at "wx"
    refine w_while (fun m cs sl => ∃ k : Nat, k + m = lim ∧ runL set lim (a.drop pos) = k + runL set m (a.drop (pos + k)) ∧ cs = [] ∧ sl = [some (.d (.str (S a))), some (.d (dn pos)), some (.d (.str (S set))), some (.d (dn lim)), some (.d (dn (pos + k)))]) lim ⟨0, by omega, by rw [Nat.zero_add]; rfl, rfl, rfl⟩ ?_
    rintro m cs1 sl1 ⟨k, hkm, hrun, rfl, rfl⟩
    walk_at "wx"
    refine y_ite (fun c1 => ?_) fun c1 => ?_
    · walk_at "wx"
      refine o_lenS (by rw [S_len]; omega) ?_
      rw [S_len]
      walk_at "wx"
      refine y_ite (fun c2 => ?_) fun c2 => ?_
      · obtain ⟨c, hc⟩ : ∃ c, a[pos + k]? = some c := ⟨_, List.getElem?_eq_getElem (by omega)⟩
        have hcl := (List.getElem?_eq_some_iff.mp hc)
        obtain ⟨hcl, hcv⟩ := hcl
        have hdr : a.drop (pos + k) = c :: a.drop (pos + (k + 1)) := by rw [List.drop_eq_getElem_cons hcl, hcv]; rfl
        obtain ⟨m, rfl⟩ : ∃ m', m = m' + 1 := ⟨m - 1, by omega⟩
        rw [hdr] at hrun
        have hrun : runL set lim (a.drop pos) = k + (if c ∈ set then runL set m (a.drop (pos + (k + 1))) + 1 else 0) := hrun
        walk_at "wx"
        refine o_ixS (c := c) (by rw [S_len]; omega) (atI_nat hc) ?_
        walk_at "wx"
        rw [show (S set).cps.toList = set from rfl]
        refine y_ite (fun c3 => ?_) fun c3 => ?_
        · rw [if_pos c3] at hrun
          walk_at "wx"
          exact ⟨m, by omega, k + 1, by omega, by omega, rfl, rfl⟩
        · rw [if_neg c3] at hrun
          rw [Nat.add_zero] at hrun
          walk_at "wx"
          refine y_ite (fun c4 => ?_) fun c4 => ?_
          · walk_at "wx"
            exact ⟨.int (pos : Int), rfl, k2 pos (by unfold scanP; rw [hrun, if_pos (by omega)])⟩
          · walk_at "wx"
            exact k1 _ (by unfold scanP; rw [hrun, if_neg (by omega)])
      · have hz : runL set m (a.drop (pos + k)) = 0 := by
          rw [List.drop_of_length_le (by omega)]
          cases m <;> rfl
        rw [hz] at hrun
        rw [Nat.add_zero] at hrun
        walk_at "wx"
        refine y_ite (fun c4 => ?_) fun c4 => ?_
        · walk_at "wx"
          exact ⟨.int (pos : Int), rfl, k2 pos (by unfold scanP; rw [hrun, if_pos (by omega)])⟩
        · walk_at "wx"
          exact k1 _ (by unfold scanP; rw [hrun, if_neg (by omega)])
    · have hz : runL set m (a.drop (pos + k)) = 0 := by
        obtain rfl : m = 0 := by omega
        rfl
      rw [hz] at hrun
      rw [Nat.add_zero] at hrun
      walk_at "wx"
      refine y_ite (fun c4 => ?_) fun c4 => ?_
      · walk_at "wx"
        exact ⟨.int (pos : Int), rfl, k2 pos (by unfold scanP; rw [hrun, if_pos (by omega)])⟩
      · walk_at "wx"
        exact k1 _ (by unfold scanP; rw [hrun, if_neg (by omega)])
def dExpect (T : Txt K mg) : DSp := fun ds Q E => ∃ (a wd : List Nat) (pos : Nat), ds = [.str (S a), dn pos, .str (S wd)] ∧ a.length ≤ 900000 ∧ wd.length ≤ 1000 ∧ RdK T (expP a pos wd) (fun e => Q (.d (dn e))) E
theorem ok_expect (T : Txt K mg) : Ok P w K mg base 3 T.expect (liftP K T.mC (dExpect T)) := by
  refine ok_P T.expect sc_expect (fun ds Q E h => ?_) fun cdv A outer s H E ds Q Ed fr hr h he => ?_
  · obtain ⟨a, wd, pos, rfl, _⟩ := h
    rfl
  · obtain ⟨a, wd, pos, rfl, hl, hw, k1, k2⟩ := h
    refine ⟨_, ((pss_cons (ps_for ownE rfl (pi_s (pv 2)) (pg_name (i := 3) sc_expect.nd rfl (by first | exact Or.inl rfl | exact Or.inr rfl))
  (pss_cons (ps_if (pt_cmpR (op_sNe hr.units) (pcall T.char_at (ok_char_at T) (hr.mono (by omega)) passE (pa_cons (pv 0) (pa_cons (pv 1) pa_nil))) (pv 3) (nomark _))
  (pss_one (praise T.e_InvalidText (ei_InvalidText T) (hr.mono (by omega)) rfl (takes_of rfl rfl rfl rfl) (by exact (pa_cons (pv 1) pa_nil))))
  pss_nil)
  (pss_one (ps_aug (i := 1) sc_expect.nd rfl (by first | exact Or.inl rfl | exact Or.inr rfl) pe_int ip_add))))
  (pss_one (ps_ret (pv 1))))), ?_⟩
    show wS _ _ [] [some (.d (.str (S a))), some (.d (dn pos)), some (.d (.str (S wd))), none] [] _
    try dsimp only [L2.cxOf]
    walk_at "wx"
    refine ⟨by show (S wd).length ≤ _; rw [S_len]; omega, ?_⟩
    rw [show (S wd).cps.toList = wd from rfl]
    refine for_k (fun i cs sl => expP a pos wd = expP a (pos + i) (wd.drop i) ∧ ∃ u : Option Sd, cs = [] ∧ sl = [some (.d (.str (S a))), some (.d (dn (pos + i))), some (.d (.str (S wd))), u]) ⟨rfl, none, rfl, rfl⟩ ?_ ?_
    · rintro i x cs2 sl2 st2 hx ⟨he, u, rfl, rfl⟩
      rw [List.getElem?_map] at hx
      obtain ⟨c, hc, rfl⟩ := Option.map_eq_some_iff.mp hx
      obtain ⟨hcl, hcv⟩ := List.getElem?_eq_some_iff.mp hc
      have hdr : wd.drop i = c :: wd.drop (i + 1) := by rw [List.drop_eq_getElem_cons hcl, hcv]
      rw [hdr] at he
      have he : expP a pos wd = if chA a (pos + i) = [c] then expP a (pos + i + 1) (wd.drop (i + 1)) else .error (pos + i) := he
      walk_at "wx"
      refine ⟨a, pos + i, rfl, hl, ?_⟩
      walk_at "wx"
      refine y_iteN (fun c1 => ?_) fun c1 => ?_
      · walk_at "wx"
        rw [if_neg (fun z => c1 (by rw [z]))] at he
        exact ⟨.int ((pos + i : Nat) : Int), rfl, k2 _ he⟩
      · walk_at "wx"
        have c1 : chA a (pos + i) = [c] := SX.S_inj (b := [c]) c1
        rw [if_pos c1] at he
        exact ⟨he, _, rfl, rfl⟩
    · rintro cs2 sl2 ⟨he, u, rfl, rfl⟩
      rw [List.length_map] at he ⊢
      rw [List.drop_of_length_le (Nat.le_refl _)] at he
      walk_at "wx"
      exact k1 _ he
def dScanN (T : Txt K mg) : DSp := fun ds Q E => ∃ (a : List Nat) (pos lim : Nat), ds = [.str (S a), dn pos, dn lim] ∧ a.length ≤ 900000 ∧ RdK T (natP a pos lim) (fun e => Q (.d (dn e))) E
theorem ok_scan_natural (T : Txt K mg) : Ok P w K mg base 4 T.scan_natural (liftP K T.mC (dScanN T)) := by
  refine ok_P T.scan_natural sc_scan_natural (fun ds Q E h => ?_) fun cdv A outer s H E ds Q Ed fr hr h he => ?_
  · obtain ⟨a, pos, lim, rfl, _⟩ := h
    rfl
  · obtain ⟨a, pos, lim, rfl, hl, k⟩ := h
    unfold natP at k
    refine ⟨_, ((pss_cons (ps_if (pt_cmpR (op_sEq hr.units) (pcall T.char_at (ok_char_at T) (hr.mono (by omega)) passE (pa_cons (pv 0) (pa_cons (pv 1) pa_nil))) pe_str (nomark _))
  (pss_one (ps_ret (pe_op op_sAdd (pv 1) pe_int)))
  pss_nil)
  (pss_one (ps_ret (pcall T.scan (ok_scan T) (hr.mono (by omega)) passE (pa_cons (pv 0) (pa_cons (pv 1) (pa_cons (pglob T.c_DECIMALS (by rfl)) (pa_cons (pv 2) pa_nil))))))))), ?_⟩
    show wS _ _ [] [some (.d (.str (S a))), some (.d (dn pos)), some (.d (dn lim))] [] _
    try dsimp only [L2.cxOf]
    walk_at "wx"
    refine ⟨a, pos, rfl, hl, ?_⟩
    walk_at "wx"
    refine y_ite (fun c1 => ?_) fun c1 => ?_
    · have c1 : chA a pos = [48] := SX.S_inj (b := [48]) c1
      rw [if_pos c1] at k
      walk_at "wx"
      exact k.1 _ rfl
    · rw [if_neg (fun z => c1 (by rw [z]; rfl))] at k
      walk_at "wx"
      rw [dec_S]
      refine ⟨a, DEC, pos, lim, rfl, hl, fun x hx => ?_, k.2⟩
      walk_at "wx"
      exact k.1 x hx
def dScanF (T : Txt K mg) : DSp := fun ds Q E => ∃ (a : List Nat) (pos : Nat) (neg : Bool), ds = [.str (S a), dn pos, .bl neg] ∧ a.length ≤ 600 ∧ RdK T (fracP a pos neg) (fun r => Q (.d (.tup [frD r.1, dn r.2]))) E
theorem ok_scan_fraction (T : Txt K mg) : Ok P w K mg base 5 T.scan_fraction (liftP K T.mC (dScanF T)) := by
  refine ok_P T.scan_fraction sc_scan_fraction (fun ds Q E h => ?_) fun cdv A outer s H E ds Q Ed fr hr h he => ?_
  · obtain ⟨a, pos, neg, rfl, _⟩ := h
    rfl
  · obtain ⟨a, pos, neg, rfl, hl, k⟩ := h
    unfold fracP at k
    refine ⟨_, ((C8.pss_cut (ps_if (PW.pt (pw_and (pt_val (pv 2)) (pw_and1 (pt_cmpR (op_sEq hr.units) (pcall T.char_at (ok_char_at T) (hr.mono (by omega)) passE (pa_cons (pv 0) (pa_cons (pv 1) pa_nil))) pe_str (nomark _)))))
  (pss_one (praise T.e_InvalidText (ei_InvalidText T) (hr.mono (by omega)) rfl (takes_of rfl rfl rfl rfl) (by exact (pa_cons (pv 1) pa_nil))))
  pss_nil)
  (pss_cons (ps_set (i := 3) sc_scan_fraction.nd rfl (by first | exact Or.inl rfl | exact Or.inr rfl) (pcall T.scan_natural (ok_scan_natural T) (hr.mono (by omega)) passE (pa_cons (pv 0) (pa_cons (pv 1) (pa_cons (pglob T.c_MAX_FIGURES (by rfl)) pa_nil)))))
  (pss_cons (ps_set (i := 4) sc_scan_fraction.nd rfl (by first | exact Or.inl rfl | exact Or.inr rfl) (pe_callTy call_sInt (by rfl) T.b_int (by decide +kernel) (pa_cons (pe_slice sl_s (pv 0) (po_some (pv 1)) (po_some (pv 3))) pa_nil)))
  (C8.pss_cut (ps_if (pt_val (pv 2))
  (pss_one (ps_set (i := 4) sc_scan_fraction.nd rfl (by first | exact Or.inl rfl | exact Or.inr rfl) (pe_op op_sSub pe_int (pv 4))))
  pss_nil)
  (pss_cons (ps_if (pt_cmpR (op_sNe hr.units) (pcall T.char_at (ok_char_at T) (hr.mono (by omega)) passE (pa_cons (pv 0) (pa_cons (pv 3) pa_nil))) pe_str (nomark _))
  (pss_one (ps_ret (pe_tup (pa_cons (pe_tup (pa_cons (pv 4) (pa_cons pe_int pa_nil))) (pa_cons (pv 3) pa_nil)))))
  pss_nil)
  (pss_cons (ps_set (i := 5) sc_scan_fraction.nd rfl (by first | exact Or.inl rfl | exact Or.inr rfl) (pcall T.scan_natural (ok_scan_natural T) (hr.mono (by omega)) passE (pa_cons (pv 0) (pa_cons (pe_op op_sAdd (pv 3) pe_int) (pa_cons (pglob T.c_MAX_FIGURES (by rfl)) pa_nil)))))
  (pss_cons (ps_set (i := 6) sc_scan_fraction.nd rfl (by first | exact Or.inl rfl | exact Or.inr rfl) (pe_callTy call_sInt (by rfl) T.b_int (by decide +kernel) (pa_cons (pe_slice sl_s (pv 0) (po_some (pe_op op_sAdd (pv 3) pe_int)) (po_some (pv 5))) pa_nil)))
  (pss_one (ps_ret (pe_tup (pa_cons (pe_tup (pa_cons (pv 4) (pa_cons (pe_ifExp (pt_cmpR (op_sNe hr.units) (pv 6) pe_int (nomark _)) (pv 6) pe_int) pa_nil))) (pa_cons (pv 5) pa_nil))))))))))))), ?_⟩
    show wS _ _ [] [some (.d (.str (S a))), some (.d (dn pos)), some (.d (.bl neg)), none, none, none, none] [] _
    try dsimp only [L2.cxOf]
    have hsub : ∀ i j, (subL a i j).length ≤ 600 := fun i j => by unfold subL; rw [List.length_take, List.length_drop]; omega
    have rest : ∀ (hn : ¬ (neg = true ∧ chA a pos = [48])), RdK T (match natP a pos 6 with | .error e => (.error e : Rd ((Int × Int) × Nat)) | .ok e => if chA a e = [47] then match natP a (e + 1) 6 with | .error e2 => .error e2 | .ok l => .ok (((if neg then 0 - (valP (subL a pos e) : Int) else (valP (subL a pos e) : Int)), (if valP (subL a (e + 1) l) = 1 then 0 else (valP (subL a (e + 1) l) : Int))), l) else .ok (((if neg then 0 - (valP (subL a pos e) : Int) else (valP (subL a pos e) : Int)), 1), e)) (fun r => Q (.d (.tup [frD r.1, dn r.2]))) Ed := fun hn => by
      rw [if_neg hn] at k
      exact k
    refine w_cutI (fun cs sl => ¬ (neg = true ∧ chA a pos = [48]) ∧ cs = [] ∧ sl = [some (.d (.str (S a))), some (.d (dn pos)), some (.d (.bl neg)), none, none, none, none]) ?_ ?_
    · walk_at "wx"
      cases neg with
      | false =>
        walk_at "wx"
        exact ⟨_, ⟨fun z => absurd z.1 Bool.false_ne_true, rfl, rfl⟩, by simp [SlLe]⟩
      | true =>
        walk_at "wx"
        refine ⟨a, pos, rfl, by omega, ?_⟩
        walk_at "wx"
        refine y_ite (fun c1 => ?_) fun c1 => ?_
        · have c1 : chA a pos = [48] := SX.S_inj (b := [48]) c1
          rw [if_pos ⟨rfl, c1⟩] at k
          walk_at "wx"
          exact ⟨.int (pos : Int), rfl, k.2 _ rfl⟩
        · walk_at "wx"
          exact ⟨_, ⟨fun z => c1 (by rw [z.2]; rfl), rfl, rfl⟩, by simp [SlLe]⟩
    rintro cs1 sl1 ⟨hn, rfl, rfl⟩
    have k := rest hn
    clear rest
    walk_at "wx"
    refine ⟨a, pos, 6, rfl, by omega, fun e hE => ?_, fun e hE => k.2 e (by rw [hE])⟩
    rw [hE] at k
    obtain ⟨n1, n2, n3, n4, n5⟩ := natP_ok hE
    obtain ⟨i1, i2⟩ := int_sub n4 n5 hl
    walk_at "wx"
    refine l_str (by rw [S_len]; omega) ?_
    rw [slice_mid a (Nat.le_of_lt n1)]
    walk_at "wx"
    refine o_intS i1 i2 ?_
    walk_at "wx"
    obtain ⟨ab, hab⟩ : ∃ ab : Int, (if neg then 0 - (valP (subL a pos e) : Int) else (valP (subL a pos e) : Int)) = ab := ⟨_, rfl⟩
    refine w_cutF [] [some (.d (.str (S a))), some (.d (dn pos)), some (.d (.bl neg)), some (.d (dn e)), some (.d (.int ab)), none, none] ?_ ?_
    · walk_at "wx"
      cases neg with
      | false =>
        walk_at "wx"
        exact ⟨rfl, by rw [← hab]; simp [SlLe]⟩
      | true =>
        walk_at "wx"
        exact ⟨rfl, by rw [← hab]; simp [SlLe]⟩
    simp only [hab] at k
    walk_at "wx"
    refine ⟨a, e, rfl, by omega, ?_⟩
    walk_at "wx"
    refine y_iteN (fun c2 => ?_) fun c2 => ?_
    · simp only [if_neg (show ¬ chA a e = [47] from fun z => c2 (by rw [z]; rfl))] at k
      walk_at "wx"
      exact k.1 _ rfl
    · have c2 : chA a e = [47] := SX.S_inj (b := [47]) c2
      simp only [if_pos c2] at k
      walk_at "wx"
      refine ⟨a, e + 1, 6, rfl, by omega, fun l hL => ?_, fun e2 hE2 => k.2 e2 (by rw [hE2])⟩
      rw [hL] at k
      obtain ⟨q1, q2, q3, q4, q5⟩ := natP_ok hL
      obtain ⟨j1, j2⟩ := int_sub q4 q5 hl
      walk_at "wx"
      refine l_str (by rw [S_len]; omega) ?_
      rw [show ((e : Int) + 1) = ((e + 1 : Nat) : Int) from rfl, slice_mid a (Nat.le_of_lt q1)]
      walk_at "wx"
      refine o_intS j1 j2 ?_
      walk_at "wx"
      refine y_iteN (fun c3 => ?_) fun c3 => ?_
      · walk_at "wx"
        have := k.1 _ rfl
        rw [if_neg (fun z => c3 (by rw [z]; rfl))] at this
        exact this
      · walk_at "wx"
        have := k.1 _ rfl
        rw [if_pos (show valP (subL a (e + 1) l) = 1 by omega)] at this
        exact this
def dParL (T : Txt K mg) : DSp := fun ds Q E => ∃ a : List Nat, ds = [.str (S a)] ∧ a.length ≤ 600 ∧ RdK T (linP a) (fun r => Q (.d (.tup [.tup [.str "linear", frD r.1.1, frD r.1.2], dn r.2]))) E
theorem ok_parse_linear (T : Txt K mg) : Ok P w K mg base 6 T.parse_linear (liftP K T.mC (dParL T)) := by
  refine ok_P T.parse_linear sc_parse_linear (fun ds Q E h => ?_) fun cdv A outer s H E ds Q Ed fr hr h he => ?_
  · obtain ⟨a, rfl, _⟩ := h
    rfl
  · obtain ⟨a, rfl, hl, k⟩ := h
    unfold linP at k
    refine ⟨_, ((pss_cons (ps_set (i := 1) sc_parse_linear.nd rfl (by first | exact Or.inl rfl | exact Or.inr rfl) (pe_cmpR (op_sEq hr.units) (pcall T.char_at (ok_char_at T) (hr.mono (by omega)) passE (pa_cons (pv 0) (pa_cons pe_int pa_nil))) pe_str (nomark _)))
  (pss_cons (ps_asg (pcall T.scan_fraction (ok_scan_fraction T) (hr.mono (by omega)) passE (pa_cons (pv 0) (pa_cons (pe_op op_sAdd pe_int (pe_callTy call_sInt (by rfl) T.b_int (by decide +kernel) (pa_cons (pv 1) pa_nil))) (pa_cons (pv 1) pa_nil)))) (pg_tup rfl (pgs_cons (pg_name (i := 2) sc_parse_linear.nd rfl (by first | exact Or.inl rfl | exact Or.inr rfl)) (pgs_cons (pg_name (i := 3) sc_parse_linear.nd rfl (by first | exact Or.inl rfl | exact Or.inr rfl)) pgs_nil))))
  (pss_cons (ps_set (i := 3) sc_parse_linear.nd rfl (by first | exact Or.inl rfl | exact Or.inr rfl) (pcall T.expect (ok_expect T) (hr.mono (by omega)) passE (pa_cons (pv 0) (pa_cons (pv 3) (pa_cons pe_str pa_nil)))))
  (pss_cons (ps_if (pt_cmpR op_sNotIn (pcall T.char_at (ok_char_at T) (hr.mono (by omega)) passE (pa_cons (pv 0) (pa_cons (pv 3) pa_nil))) (pe_tup (pa_cons pe_str (pa_cons pe_str pa_nil))) (by rfl))
  (pss_one (praise T.e_InvalidText (ei_InvalidText T) (hr.mono (by omega)) rfl (takes_of rfl rfl rfl rfl) (by exact (pa_cons (pv 3) pa_nil))))
  pss_nil)
  (pss_cons (ps_asg (pcall T.scan_fraction (ok_scan_fraction T) (hr.mono (by omega)) passE (pa_cons (pv 0) (pa_cons (pe_op op_sAdd (pv 3) pe_int) (pa_cons (pe_cmpR (op_sEq hr.units) (pe_ix ix_s (pv 0) (pv 3) (fun _ _ => rfl)) pe_str (nomark _)) pa_nil)))) (pg_tup rfl (pgs_cons (pg_name (i := 4) sc_parse_linear.nd rfl (by first | exact Or.inl rfl | exact Or.inr rfl)) (pgs_cons (pg_name (i := 5) sc_parse_linear.nd rfl (by first | exact Or.inl rfl | exact Or.inr rfl)) pgs_nil))))
  (pss_one (ps_ret (pe_tup (pa_cons (pe_tup (pa_cons pe_str (pa_cons (pv 2) (pa_cons (pv 4) pa_nil)))) (pa_cons (pcall T.expect (ok_expect T) (hr.mono (by omega)) passE (pa_cons (pv 0) (pa_cons (pv 5) (pa_cons pe_str pa_nil)))) pa_nil))))))))))), ?_⟩
    show wS _ _ [] [some (.d (.str (S a))), none, none, none, none, none] [] _
    try dsimp only [L2.cxOf]
    walk_at "wx"
    refine ⟨a, 1, rfl, by omega, ?_⟩
    walk_at "wx"
    rw [show ("-" : Str) = S [45] from by decide +kernel, S_dec]
    obtain ⟨ng, hng⟩ : ∃ ng, decide (chA a 1 = [45]) = ng := ⟨_, rfl⟩
    rw [hng] at k ⊢
    rw [show (1 + if ng = true then (1 : Int) else 0) = ((1 + ng.toNat : Nat) : Int) by cases ng <;> rfl]
    refine ⟨a, 1 + ng.toNat, ng, rfl, hl, fun r hr => ?_, fun e hE => k.2 e (by simp only [hE])⟩
    obtain ⟨f, p1⟩ := r
    simp only [hr] at k
    walk_at "wx"
    rw [show ("*x" : Str) = S [42, 120] from by decide +kernel]
    refine ⟨a, [42, 120], p1, rfl, by omega, by decide, fun p2 hp2 => ?_, fun e hE => k.2 e (by simp only [hE])⟩
    simp only [hp2] at k
    walk_at "wx"
    refine ⟨a, p2, rfl, by omega, ?_⟩
    walk_at "wx"
    refine o_ninST (ns := ["+", "-"]) ?_ rfl
    walk_at "wx"
    have hmem : S (chA a p2) ∈ (["+", "-"] : List Str) ↔ (chA a p2 = [43] ∨ chA a p2 = [45]) := by
      rw [show (["+", "-"] : List Str) = [S [43], S [45]] from by decide +kernel, List.mem_cons, List.mem_singleton]
      exact ⟨fun h => h.elim (fun h => .inl (SX.S_inj h)) fun h => .inr (SX.S_inj h), fun h => h.elim (fun h => .inl (by rw [h])) fun h => .inr (by rw [h])⟩
    refine y_iteN (fun c1 => ?_) fun c1 => ?_
    · simp only [if_neg (fun z => c1 (hmem.mpr z))] at k
      walk_at "wx"
      exact ⟨.int (p2 : Int), rfl, k.2 _ rfl⟩
    · have c2 := hmem.mp c1
      simp only [if_pos c2] at k
      obtain ⟨c, hc⟩ : ∃ c, a[p2]? = some c := by
        rcases c2 with c2 | c2
        · exact ⟨_, chA_iff.mp c2⟩
        · exact ⟨_, chA_iff.mp c2⟩
      walk_at "wx"
      refine o_ixS (c := c) (by rw [S_len]; omega) (atI_nat hc) ?_
      walk_at "wx"
      rw [show decide ((⟨#[c]⟩ : Str) = S [45]) = decide (chA a p2 = [45]) by rw [chA_some hc]; exact S_dec (l := [c])]
      refine ⟨a, p2 + 1, decide (chA a p2 = [45]), rfl, hl, fun r2 hr2 => ?_, fun e hE => k.2 e (by simp only [hE])⟩
      obtain ⟨o, p3⟩ := r2
      simp only [hr2] at k
      walk_at "wx"
      rw [show ("}" : Str) = S [125] from by decide +kernel]
      refine ⟨a, [125], p3, rfl, by omega, by decide, fun p4 hp4 => ?_, fun e hE => k.2 e (by simp only [hE])⟩
      simp only [hp4] at k
      walk_at "wx"
      exact k.1 _ rfl
end
end R

/-! # LG2: definitions read, plainly -/
namespace R
open PySem PySem.Spec PyProof.Rows L2 L2H LamX
open SX (S S_len)
def LET : List Nat := (List.range 26).map fun i => 97 + i
/-- a cell's references, each behind its word -/
def cellGo (a : List Nat) : List (List Nat) → Nat → List (List Nat) → Rd (List (List Nat) × Nat)
  | [], pos, refs => .ok (refs, pos)
  | w :: ws, pos, refs => match expP a pos w with
    | .error e => .error e
    | .ok p1 => match scanP a p1 LET 6 with
      | .error e => .error e
      | .ok e => cellGo a ws e (refs ++ [subL a p1 e])
def cellW (p : Nat) : List (List Nat) := [58, 32] :: List.replicate (p - 1) [44, 32]
def cellP (a : List Nat) (p : Nat) : Rd ((Nat × List (List Nat)) × Nat) := match a[1]? with
  | none => .error 1
  | some c => if c ∈ DEC.take p then match cellGo a (cellW p) 2 [] with
      | .error e => .error e
      | .ok (refs, pos) => match expP a pos [93] with
        | .error e => .error e
        | .ok e => .ok ((c - 48, refs), e)
    else .error 1
/-- the number of a text with or without a minus -/
def sgnP (l : List Nat) : Int := if l.head? = some 45 then 0 - (valP l.tail : Int) else (valP l : Int)
def expoP (a : List Nat) (pos : Nat) : Rd (Int × Nat) :=
  if chA a pos = [94] then
    if chA a (pos + 1 + (decide (chA a (pos + 1) = [45])).toNat) = [48] then .error (pos + 1 + (decide (chA a (pos + 1) = [45])).toNat) else
    match scanP a (pos + 1 + (decide (chA a (pos + 1) = [45])).toNat) DEC 30 with
    | .error e => .error e
    | .ok e => if subL a (pos + 1) e = [49] then .error e else .ok (sgnP (subL a (pos + 1) e), e)
  else .ok (1, pos)
/-- m: how many factors may still come -/
def prodGo (a : List Nat) : Nat → Nat → List (List Nat × Int) → Rd (List (List Nat × Int) × Nat)
  | 0, pos, _ => .error pos
  | m + 1, pos, fs => match scanP a pos LET 6 with
    | .error e => .error e
    | .ok e => match expoP a e with
      | .error e2 => .error e2
      | .ok (x, p2) => if m = 0 ∨ chA a p2 ≠ [32] then .ok (fs ++ [(subL a pos e, x)], p2) else prodGo a m (p2 + 1) (fs ++ [(subL a pos e, x)])
def prodP (a : List Nat) : Rd (List (List Nat × Int) × Nat) := prodGo a 12 0 []
inductive Defn where
  | cell (c : Nat) (refs : List (List Nat))
  | lin (f o : Int × Int)
  | prod (fs : List (List Nat × Int))
def bodyP (a : List Nat) (p : Nat) : Rd (Defn × Nat) :=
  if chA a 0 = [91] then match cellP a p with | .error e => .error e | .ok (x, e) => .ok (.cell x.1 x.2, e)
  else if chA a 0 = [123] then match linP a with | .error e => .error e | .ok (x, e) => .ok (.lin x.1 x.2, e)
  else match prodP a with | .error e => .error e | .ok (x, e) => .ok (.prod x, e)
def defP (a : List Nat) (p : Nat) : Rd Defn := match bodyP a p with
  | .error e => .error e
  | .ok (d, e) => if e < a.length then .error e else .ok d
def facD (x : List Nat × Int) : D := .tup [.str (S x.1), .int x.2]
def frD2 (o : Int × Int) : D := .tup [.int o.1, .int o.2]
def Defn.d : Defn → D
  | .cell c refs => .tup [.str "cell", dn c, .tup (refs.map fun r => .str (S r))]
  | .lin f o => .tup [.str "linear", frD2 f, frD2 o]
  | .prod fs => .tup [.str "product", .tup (fs.map facD)]
theorem scanP_ok {a set : List Nat} {pos lim e : Nat} (h : scanP a pos set lim = .ok e) : pos < e ∧ e ≤ pos + lim ∧ e ≤ a.length ∧ subL a pos e ≠ [] ∧ ∀ c ∈ subL a pos e, c ∈ set := by
  unfold scanP at h
  by_cases c2 : runL set lim (a.drop pos) = 0
  · rw [if_pos c2] at h
    cases h
  · rw [if_neg c2] at h
    cases h
    obtain ⟨h1, h2⟩ := runL_le set lim (a.drop pos)
    rw [List.length_drop] at h2
    have e : subL a pos (pos + runL set lim (a.drop pos)) = (a.drop pos).take (runL set lim (a.drop pos)) := by
      unfold subL
      rw [Nat.add_sub_cancel_left]
    rw [e]
    refine ⟨by omega, by omega, by omega, fun z => ?_, fun x hx => runL_take lim _ x hx⟩
    have := congrArg List.length z
    rw [List.length_take, List.length_drop, List.length_nil] at this
    omega
end R

/-! # PG2: language.py: exponents, products, cells, definitions -/
namespace R
open PySem PySem.Spec PyProof.Rows L2 L2H LamX
open SX (S S_len S_cat)
theorem let_S : ("abcdefghijklmnopqrstuvwxyz" : Str) = S LET := by decide +kernel
theorem int_sgn {a : List Nat} {i e : Nat} (h : ∃ b, (b = i ∨ (b = i + 1 ∧ a[i]? = some 45)) ∧ b < e ∧ subL a b e ≠ [] ∧ ∀ c ∈ subL a b e, c ∈ DEC) (hl : a.length ≤ 600) : PySem.intText? (S (subL a i e)) = some (sgnP (subL a i e)) ∧ (S (subL a i e)).length ≤ 640 := by
  have hlen : (subL a i e).length ≤ 600 := by unfold subL; rw [List.length_take, List.length_drop]; omega
  refine ⟨?_, by rw [S_len]; omega⟩
  obtain ⟨b, hb, hbe, hne, hd⟩ := h
  have hdig : (subL a b e).all isDig = true := List.all_eq_true.mpr fun c hc => dec_dig (hd c hc)
  rcases hb with rfl | ⟨rfl, hm⟩
  · have hh : (subL a b e).head? ≠ some 45 := fun z => by
      cases q : subL a b e with
      | nil => exact hne q
      | cons x xs =>
        rw [q] at z hd
        have : x = 45 := Option.some.inj z
        subst this
        exact absurd (hd 45 (.head _)) (by decide)
    unfold sgnP
    rw [if_neg hh]
    exact SX.int_S hdig hne (by omega)
  · have e1 : subL a i e = 45 :: subL a (i + 1) e := by
      obtain ⟨h1, h2⟩ := List.getElem?_eq_some_iff.mp hm
      unfold subL
      rw [List.drop_eq_getElem_cons h1, h2, show e - i = (e - (i + 1)) + 1 by omega, List.take_succ_cons]
    unfold sgnP
    rw [e1, if_pos (show (45 :: subL a (i + 1) e).head? = some 45 from rfl)]
    have hl2 : (subL a (i + 1) e).length ≤ 600 := by unfold subL; rw [List.length_take, List.length_drop]; omega
    have := PySem.intText_neg (x := S (45 :: subL a (i + 1) e)) (cs := subL a (i + 1) e) rfl (fun c hc => by
      have := dec_dig (hd c hc)
      unfold isDig at this
      rw [Bool.and_eq_true, decide_eq_true_eq, decide_eq_true_eq] at this
      exact this) hne (by rw [S_len, List.length_cons]; omega)
    rw [this]
    congr 1
    show -((NumText.digitsVal _ : Nat) : Int) = 0 - ((NumText.digitsVal _ : Nat) : Int)
    rw [Int.zero_sub]
    rfl
section
variable {P : Program} {w : World} {K : PySem.W.Frag} {mg : Str → Option Value} {base : Heap}
def dExpo (T : Txt K mg) : DSp := fun ds Q E => ∃ (a : List Nat) (pos : Nat), ds = [.str (S a), dn pos] ∧ a.length ≤ 600 ∧ RdK T (expoP a pos) (fun r => Q (.d (.tup [.int r.1, dn r.2]))) E
theorem ok_parse_exponent (T : Txt K mg) : Ok P w K mg base 4 T.parse_exponent (liftP K T.mC (dExpo T)) := by
  refine ok_P T.parse_exponent sc_parse_exponent (fun ds Q E h => ?_) fun cdv A outer s H E ds Q Ed fr hr h he => ?_
  · obtain ⟨a, pos, rfl, _⟩ := h
    rfl
  · obtain ⟨a, pos, rfl, hl, k⟩ := h
    unfold expoP at k
    refine ⟨_, ((pss_cons (ps_if (pt_cmpR (op_sNe hr.units) (pcall T.char_at (ok_char_at T) (hr.mono (by omega)) passE (pa_cons (pv 0) (pa_cons (pv 1) pa_nil))) pe_str (nomark _))
  (pss_one (ps_ret (pe_tup (pa_cons pe_int (pa_cons (pv 1) pa_nil)))))
  pss_nil)
  (pss_cons (ps_set (i := 2) sc_parse_exponent.nd rfl (by first | exact Or.inl rfl | exact Or.inr rfl) (pe_op op_sAdd (pe_op op_sAdd (pv 1) pe_int) (pe_callTy call_sInt (by rfl) T.b_int (by decide +kernel) (pa_cons (pe_cmpR (op_sEq hr.units) (pcall T.char_at (ok_char_at T) (hr.mono (by omega)) passE (pa_cons (pv 0) (pa_cons (pe_op op_sAdd (pv 1) pe_int) pa_nil))) pe_str (nomark _)) pa_nil))))
  (pss_cons (ps_if (pt_cmpR (op_sEq hr.units) (pcall T.char_at (ok_char_at T) (hr.mono (by omega)) passE (pa_cons (pv 0) (pa_cons (pv 2) pa_nil))) pe_str (nomark _))
  (pss_one (praise T.e_InvalidText (ei_InvalidText T) (hr.mono (by omega)) rfl (takes_of rfl rfl rfl rfl) (by exact (pa_cons (pv 2) pa_nil))))
  pss_nil)
  (pss_cons (ps_set (i := 3) sc_parse_exponent.nd rfl (by first | exact Or.inl rfl | exact Or.inr rfl) (pcall T.scan (ok_scan T) (hr.mono (by omega)) passE (pa_cons (pv 0) (pa_cons (pv 2) (pa_cons (pglob T.c_DECIMALS (by rfl)) (pa_cons (pglob T.c_MAX_EXPONENT_FIGURES (by rfl)) pa_nil))))))
  (pss_cons (ps_if (pt_cmpR (op_sEq hr.units) (pe_slice sl_s (pv 0) (po_some (pe_op op_sAdd (pv 1) pe_int)) (po_some (pv 3))) pe_str (nomark _))
  (pss_one (praise T.e_InvalidText (ei_InvalidText T) (hr.mono (by omega)) rfl (takes_of rfl rfl rfl rfl) (by exact (pa_cons (pv 3) pa_nil))))
  pss_nil)
  (pss_one (ps_ret (pe_tup (pa_cons (pe_callTy call_sInt (by rfl) T.b_int (by decide +kernel) (pa_cons (pe_slice sl_s (pv 0) (po_some (pe_op op_sAdd (pv 1) pe_int)) (po_some (pv 3))) pa_nil)) (pa_cons (pv 3) pa_nil))))))))))), ?_⟩
    show wS _ _ [] [some (.d (.str (S a))), some (.d (dn pos)), none, none] [] _
    try dsimp only [L2.cxOf]
    walk_at "wx"
    refine ⟨a, pos, rfl, by omega, ?_⟩
    walk_at "wx"
    rw [show ("^" : Str) = S [94] from by decide +kernel]
    refine y_iteN (fun c1 => ?_) fun c1 => ?_
    · rw [if_neg (fun z => c1 (by rw [z]))] at k
      walk_at "wx"
      exact k.1 _ rfl
    have c1 : chA a pos = [94] := SX.S_inj (b := [94]) c1
    rw [if_pos c1] at k
    walk_at "wx"
    refine ⟨a, pos + 1, rfl, by omega, ?_⟩
    walk_at "wx"
    rw [show ("-" : Str) = S [45] from by decide +kernel, S_dec]
    obtain ⟨ng, hng⟩ : ∃ ng, decide (chA a (pos + 1) = [45]) = ng := ⟨_, rfl⟩
    rw [hng] at k ⊢
    rw [show ((pos : Int) + 1 + if ng = true then (1 : Int) else 0) = ((pos + 1 + ng.toNat : Nat) : Int) by cases ng <;> rfl]
    obtain ⟨b, hb⟩ : ∃ b, pos + 1 + ng.toNat = b := ⟨_, rfl⟩
    rw [hb] at k ⊢
    walk_at "wx"
    refine ⟨a, b, rfl, by omega, ?_⟩
    walk_at "wx"
    rw [show ("0" : Str) = S [48] from by decide +kernel]
    refine y_ite (fun c2 => ?_) fun c2 => ?_
    · have c2 : chA a b = [48] := SX.S_inj (b := [48]) c2
      rw [if_pos c2] at k
      walk_at "wx"
      exact ⟨.int (b : Int), rfl, k.2 _ rfl⟩
    rw [if_neg (fun z => c2 (by rw [z]))] at k
    walk_at "wx"
    rw [dec_S]
    refine ⟨a, DEC, b, 30, rfl, by omega, fun e hE => ?_, fun e hE => k.2 e (by simp only [hE])⟩
    simp only [hE] at k
    obtain ⟨q1, q2, q3, q4, q5⟩ := scanP_ok hE
    have hpe : pos + 1 ≤ e := by omega
    have hint := int_sgn (a := a) (i := pos + 1) (e := e) ⟨b, by
      cases ng with
      | false => exact .inl (by rw [← hb]; rfl)
      | true => exact .inr ⟨by rw [← hb]; rfl, chA_iff.mp (of_decide_eq_true hng)⟩, q1, q4, q5⟩ hl
    walk_at "wx"
    refine l_str (by rw [S_len]; omega) ?_
    rw [show ((pos : Int) + 1) = ((pos + 1 : Nat) : Int) from rfl, slice_mid a hpe]
    walk_at "wx"
    rw [show ("1" : Str) = S [49] from by decide +kernel]
    refine y_ite (fun c3 => ?_) fun c3 => ?_
    · have c3 : subL a (pos + 1) e = [49] := SX.S_inj (b := [49]) c3
      rw [if_pos c3] at k
      walk_at "wx"
      exact ⟨.int (e : Int), rfl, k.2 _ rfl⟩
    · rw [if_neg (fun z => c3 (by rw [z]))] at k
      walk_at "wx"
      refine l_str (by rw [S_len]; omega) ?_
      rw [show ((pos : Int) + 1) = ((pos + 1 : Nat) : Int) from rfl, slice_mid a hpe]
      walk_at "wx"
      refine o_intS hint.1 hint.2 ?_
      walk_at "wx"
      exact k.1 _ rfl
def dProdT (T : Txt K mg) : DSp := fun ds Q E => ∃ (a : List Nat), ds = [.str (S a)] ∧ a.length ≤ 600 ∧ RdK T (prodP a) (fun r => Q (.d (.tup [.tup [.str "product", .tup (r.1.map facD)], dn r.2]))) E
theorem ok_parse_product (T : Txt K mg) : Ok P w K mg base 5 T.parse_product (liftP K T.mC (dProdT T)) := by
  refine ok_P T.parse_product sc_parse_product (fun ds Q E h => ?_) fun cdv A outer s H E ds Q Ed fr hr h he => ?_
  · obtain ⟨a, rfl, _⟩ := h
    rfl
  · obtain ⟨a, rfl, hl, k⟩ := h
    refine ⟨_, ((pss_cons (ps_par (i := 1) (j := 2) (by rfl) sc_parse_product.nd rfl rfl (by decide) rfl rfl (pa_cons pe_int (pa_cons (pown (pe_lst pa_nil)) pa_nil)) (by rfl))
  (pss_one (ps_while ownE (pt_val pe_bl)
  (pss_cons (ps_set (i := 3) sc_parse_product.nd rfl (by first | exact Or.inl rfl | exact Or.inr rfl) (pcall T.scan (ok_scan T) (hr.mono (by omega)) passE (pa_cons (pv 0) (pa_cons (pv 1) (pa_cons (pglob T.c_LETTERS (by rfl)) (pa_cons (pglob T.c_MAX_NAME (by rfl)) pa_nil))))))
  (pss_cons (ps_set (i := 4) sc_parse_product.nd rfl (by first | exact Or.inl rfl | exact Or.inr rfl) (pe_slice sl_s (pv 0) (po_some (pv 1)) (po_some (pv 3))))
  (pss_cons (ps_asg (pcall T.parse_exponent (ok_parse_exponent T) (hr.mono (by omega)) passE (pa_cons (pv 0) (pa_cons (pv 3) pa_nil))) (pg_tup rfl (pgs_cons (pg_name (i := 5) sc_parse_product.nd rfl (by first | exact Or.inl rfl | exact Or.inr rfl)) (pgs_cons (pg_name (i := 1) sc_parse_product.nd rfl (by first | exact Or.inl rfl | exact Or.inr rfl)) pgs_nil))))
  (pss_cons (ps_expr (pe_bm PySem.F.plainAttrs_list PySem.F.slot_list_append PySem.F.type_list_append mt_append (pv 2) (pa_cons (pe_tup (pa_cons (pv 4) (pa_cons (pv 5) pa_nil))) pa_nil)))
  (pss_cons (ps_if (PW.pt (pw_or (pt_cmpR (op_sEq hr.units) (pe_callB call_sLen (by rfl) T.b_len (by decide +kernel) (pa_cons (pv 2) pa_nil)) (pglob T.c_MAX_PRODUCT (by rfl)) (nomark _)) (pw_or1 (pt_cmpR (op_sNe hr.units) (pcall T.char_at (ok_char_at T) (hr.mono (by omega)) passE (pa_cons (pv 0) (pa_cons (pv 1) pa_nil))) pe_str (nomark _)))))
  (pss_one (ps_ret (pe_tup (pa_cons (pe_tup (pa_cons pe_str (pa_cons (pe_callTy call_sTuple (by rfl) T.b_tuple (by decide +kernel) (pa_cons (pv 2) pa_nil)) pa_nil))) (pa_cons (pv 1) pa_nil)))))
  pss_nil)
  (pss_one (ps_aug (i := 1) sc_parse_product.nd rfl (by first | exact Or.inl rfl | exact Or.inr rfl) pe_int ip_add))))))))))), ?_⟩
    show wS _ _ [] [some (.d (.str (S a))), none, none, none, none, none] [] _
    try dsimp only [L2.cxOf]
    walk_at "wx"
    refine w_while (fun m cs sl => ∃ (pos : Nat) (fs : List (List Nat × Int)) (b1 b2 b3 : Option Sd), fs.length + (m + 1) = 12 ∧ prodGo a (m + 1) pos fs = prodP a ∧ cs = [some (.lst (fs.map facD))] ∧ sl = [some (.d (.str (S a))), some (.d (dn pos)), some (.c 0), b1, b2, b3]) 11 ⟨0, [], none, none, none, rfl, rfl, rfl, rfl⟩ ?_
    rintro m cs1 sl1 ⟨pos, fs, b1, b2, b3, hm, hgo, rfl, rfl⟩
    unfold prodGo at hgo
    walk_at "wx"
    rw [let_S]
    refine ⟨a, LET, pos, 6, rfl, by omega, fun e hE => ?_, fun e hE => k.2 e (by rw [← hgo]; simp only [hE])⟩
    simp only [hE] at hgo
    obtain ⟨q1, q2, q3, q4, q5⟩ := scanP_ok hE
    walk_at "wx"
    refine l_str (by rw [S_len]; omega) ?_
    rw [slice_mid a (Nat.le_of_lt q1)]
    walk_at "wx"
    refine ⟨a, e, rfl, hl, fun r hR => ?_, fun e2 hE2 => k.2 e2 (by rw [← hgo]; simp only [hE2])⟩
    obtain ⟨x, p2⟩ := r
    simp only [hR] at hgo
    walk_at "wx"
    refine m_append ?_ (by rw [List.length_map]; omega) rfl rfl
    rw [show fs.map facD ++ [.tup [.str (S (subL a pos e)), .int x]] = (fs ++ [(subL a pos e, x)]).map facD by rw [List.map_append]; rfl]
    walk_at "wx"
    rw [List.length_map, List.length_append]
    refine y_ite (fun c1 => ?_) fun c1 => ?_
    · have c1 : fs.length + 1 = 12 := by
        have : ((fs.length + 1 : Nat) : Int) = 12 := c1
        omega
      rw [if_pos (.inl (by omega))] at hgo
      walk_at "wx"
      exact k.1 _ hgo.symm
    · have c1 : ¬ fs.length + 1 = 12 := fun z => c1 (by show ((fs.length + 1 : Nat) : Int) = 12; omega)
      walk_at "wx"
      refine ⟨a, p2, rfl, by omega, ?_⟩
      walk_at "wx"
      rw [show (" " : Str) = S [32] from by decide +kernel]
      refine y_iteN (fun c2 => ?_) fun c2 => ?_
      · rw [if_pos (.inr fun z => c2 (by rw [z]))] at hgo
        walk_at "wx"
        exact k.1 _ hgo.symm
      · have c2 : chA a p2 = [32] := SX.S_inj (b := [32]) c2
        rw [if_neg (fun z => z.elim (fun z => by omega) fun z => z c2)] at hgo
        walk_at "wx"
        exact ⟨m - 1, by omega, p2 + 1, fs ++ [(subL a pos e, x)], _, _, _, by rw [List.length_append]; show fs.length + 1 + _ = 12; omega, by rw [show m - 1 + 1 = m by omega]; exact hgo, rfl, rfl⟩
def dCellT (T : Txt K mg) : DSp := fun ds Q E => ∃ (a : List Nat) (p : Nat), ds = [.str (S a), dn p] ∧ isP p ∧ a.length ≤ 600 ∧ RdK T (cellP a p) (fun r => Q (.d (.tup [.tup [.str "cell", dn r.1.1, .tup (r.1.2.map fun r => .str (S r))], dn r.2]))) E
theorem ok_parse_cell (T : Txt K mg) : Ok P w K mg base 4 T.parse_cell (liftP K T.mC (dCellT T)) := by
  refine ok_P T.parse_cell sc_parse_cell (fun ds Q E h => ?_) fun cdv A outer s H E ds Q Ed fr hr h he => ?_
  · obtain ⟨a, p, rfl, _⟩ := h
    rfl
  · obtain ⟨a, p, rfl, hp, hl, k⟩ := h
    have hp2 := hp.pos
    unfold cellP at k
    refine ⟨_, ((pss_cons (ps_if (PW.pt (pw_or (pt_cmpR (op_sEq hr.units) (pcall T.char_at (ok_char_at T) (hr.mono (by omega)) passE (pa_cons (pv 0) (pa_cons pe_int pa_nil))) pe_str (nomark _)) (pw_or1 (pt_cmpR op_sNotIn (pcall T.char_at (ok_char_at T) (hr.mono (by omega)) passE (pa_cons (pv 0) (pa_cons pe_int pa_nil))) (pe_slice sl_s (pglob T.c_DECIMALS (by rfl)) po_none (po_some (pv 1))) (by rfl)))))
  (pss_one (praise T.e_InvalidText (ei_InvalidText T) (hr.mono (by omega)) rfl (takes_of rfl rfl rfl rfl) (by exact (pa_cons pe_int pa_nil))))
  pss_nil)
  (pss_cons (ps_par (i := 2) (j := 3) (by rfl) sc_parse_cell.nd rfl rfl (by decide) rfl rfl (pa_cons pe_int (pa_cons (pown (pe_lst pa_nil)) pa_nil)) (by rfl))
  (pss_cons (ps_for ownE rfl (pi_s (pe_op op_sAdd (pe_lst (pa_cons pe_str pa_nil)) (pe_op op_sMul (pe_lst (pa_cons pe_str pa_nil)) (pe_op op_sSub (pv 1) pe_int)))) (pg_name (i := 4) sc_parse_cell.nd rfl (by first | exact Or.inl rfl | exact Or.inr rfl))
  (pss_cons (ps_set (i := 2) sc_parse_cell.nd rfl (by first | exact Or.inl rfl | exact Or.inr rfl) (pcall T.expect (ok_expect T) (hr.mono (by omega)) passE (pa_cons (pv 0) (pa_cons (pv 2) (pa_cons (pv 4) pa_nil)))))
  (pss_cons (ps_set (i := 5) sc_parse_cell.nd rfl (by first | exact Or.inl rfl | exact Or.inr rfl) (pcall T.scan (ok_scan T) (hr.mono (by omega)) passE (pa_cons (pv 0) (pa_cons (pv 2) (pa_cons (pglob T.c_LETTERS (by rfl)) (pa_cons (pglob T.c_MAX_NAME (by rfl)) pa_nil))))))
  (pss_cons (ps_expr (pe_bm PySem.F.plainAttrs_list PySem.F.slot_list_append PySem.F.type_list_append mt_append (pv 3) (pa_cons (pe_slice sl_s (pv 0) (po_some (pv 2)) (po_some (pv 5))) pa_nil)))
  (pss_one (ps_set (i := 2) sc_parse_cell.nd rfl (by first | exact Or.inl rfl | exact Or.inr rfl) (pv 5)))))))
  (pss_one (ps_ret (pe_tup (pa_cons (pe_tup (pa_cons pe_str (pa_cons (pe_callTy call_sInt (by rfl) T.b_int (by decide +kernel) (pa_cons (pe_ix ix_s (pv 0) pe_int (fun _ _ => rfl)) pa_nil)) (pa_cons (pe_callTy call_sTuple (by rfl) T.b_tuple (by decide +kernel) (pa_cons (pv 3) pa_nil)) pa_nil)))) (pa_cons (pcall T.expect (ok_expect T) (hr.mono (by omega)) passE (pa_cons (pv 0) (pa_cons (pv 2) (pa_cons pe_str pa_nil)))) pa_nil))))))))), ?_⟩
    show wS _ _ [] [some (.d (.str (S a))), some (.d (dn p)), none, none, none, none] [] _
    try dsimp only [L2.cxOf]
    walk_at "wx"
    refine ⟨a, 1, rfl, by omega, ?_⟩
    walk_at "wx"
    rw [show ("" : Str) = S [] from rfl]
    refine y_ite (fun c1 => ?_) fun c1 => ?_
    · have c1 : chA a 1 = [] := SX.S_inj (b := []) c1
      have hn : a[1]? = none := by
        cases h : a[1]? with
        | none => rfl
        | some c => rw [chA_some h] at c1; cases c1
      rw [hn] at k
      walk_at "wx"
      exact ⟨.int 1, rfl, k.2 1 rfl⟩
    obtain ⟨c, hc⟩ : ∃ c, a[1]? = some c := by
      cases h : a[1]? with
      | none => exact absurd (by rw [chA_none (List.getElem?_eq_none_iff.mp h)]) c1
      | some c => exact ⟨c, rfl⟩
    rw [hc] at k
    simp only at k
    walk_at "wx"
    refine ⟨a, 1, rfl, by omega, ?_⟩
    walk_at "wx"
    refine l_str (by decide) ?_
    rw [dec_S, SX.slice_to (by omega), Int.toNat_natCast, chA_some hc]
    walk_at "wx"
    rw [show (S (DEC.take p)).cps.toList = DEC.take p from rfl]
    refine y_iteN (fun c2 => ?_) fun c2 => ?_
    · rw [if_neg c2] at k
      walk_at "wx"
      exact ⟨.int 1, rfl, k.2 1 rfl⟩
    rw [if_pos c2] at k
    have hcd : c ∈ DEC := List.mem_of_mem_take c2
    walk_at "wx"
    rw [show (": " : Str) = S [58, 32] from by decide +kernel, show (", " : Str) = S [44, 32] from by decide +kernel]
    refine w_newO (o_mulLst (ds := [D.str (S [44, 32])]) ⟨by omega, by omega⟩ (by show _ * 1 ≤ _; omega) ?_ rfl)
    walk_at "wx"
    refine w_newO (o_addL (by rw [show (List.replicate ((p : Int) - 1).toNat [D.str (S [44, 32])]).flatten = List.replicate (p - 1) (D.str (S [44, 32])) by rcases hp with rfl | rfl | rfl <;> rfl, List.length_replicate]; show 1 + _ ≤ _; omega) ?_ rfl rfl)
    rw [show [D.str (S [58, 32])] ++ (List.replicate ((p : Int) - 1).toNat [D.str (S [44, 32])]).flatten = (cellW p).map fun w => D.str (S w) by rcases hp with rfl | rfl | rfl <;> rfl]
    walk_at "wx"
    refine for_k (fun i cs sl => ∃ (pos : Nat) (refs : List (List Nat)) (u v : Option Sd), cellGo a (cellW p) 2 [] = cellGo a ((cellW p).drop i) pos refs ∧ refs.length = i ∧ cs = [some (.lst (refs.map fun r => D.str (S r)))] ∧ sl = [some (.d (.str (S a))), some (.d (dn p)), some (.d (dn pos)), some (.c 0), u, v]) ⟨2, [], none, none, rfl, rfl, rfl, rfl⟩ ?_ ?_
    · rintro i x cs2 sl2 st2 hx ⟨pos, refs, u, v, hgo, hlr, rfl, rfl⟩
      rw [List.getElem?_map] at hx
      obtain ⟨wd, hwd, rfl⟩ := Option.map_eq_some_iff.mp hx
      obtain ⟨hwl, hwv⟩ := List.getElem?_eq_some_iff.mp hwd
      have hil : i < 6 := by
        have : (cellW p).length ≤ 5 := by rcases hp with rfl | rfl | rfl <;> decide
        omega
      have hwdl : wd.length ≤ 1000 := by
        have hm := List.mem_of_getElem? hwd
        have : ∀ y ∈ cellW p, y.length ≤ 1000 := by rcases hp with rfl | rfl | rfl <;> decide
        exact this wd hm
      rw [List.drop_eq_getElem_cons hwl, hwv] at hgo
      have hgo : cellGo a (cellW p) 2 [] = match expP a pos wd with | .error e => .error e | .ok p1 => match scanP a p1 LET 6 with | .error e => .error e | .ok e => cellGo a ((cellW p).drop (i + 1)) e (refs ++ [subL a p1 e]) := hgo
      walk_at "wx"
      refine ⟨a, wd, pos, rfl, by omega, hwdl, fun p1 h1 => ?_, fun e hE => k.2 e (by rw [hgo]; simp only [hE])⟩
      simp only [h1] at hgo
      walk_at "wx"
      rw [let_S]
      refine ⟨a, LET, p1, 6, rfl, by omega, fun e hE => ?_, fun e hE => k.2 e (by rw [hgo]; simp only [hE])⟩
      simp only [hE] at hgo
      obtain ⟨q1, q2, q3, q4, q5⟩ := scanP_ok hE
      walk_at "wx"
      refine l_str (by rw [S_len]; omega) ?_
      rw [slice_mid a (Nat.le_of_lt q1)]
      walk_at "wx"
      refine m_append ?_ (by rw [List.length_map]; omega) rfl rfl
      walk_at "wx"
      exact ⟨e, refs ++ [subL a p1 e], _, _, hgo, by rw [List.length_append, hlr]; rfl, by rw [List.map_append]; rfl, rfl⟩
    rintro cs2 sl2 ⟨pos, refs, u, v, hgo, hlr, rfl, rfl⟩
    rw [List.length_map, List.drop_of_length_le (Nat.le_refl _)] at hgo
    have hgo : cellGo a (cellW p) 2 [] = .ok (refs, pos) := hgo
    rw [hgo] at k
    simp only at k
    walk_at "wx"
    refine o_ixS (c := c) (by rw [S_len]; omega) (atI_nat hc) ?_
    walk_at "wx"
    have hv : valP [c] = c - 48 := by
      show 0 * 10 + (c - 48) = c - 48
      omega
    have hci : PySem.intText? (S [c]) = some ((c - 48 : Nat) : Int) := by
      have := SX.int_S (a := [c]) (by rw [List.all_cons]; show (isDig c && true) = true; rw [dec_dig hcd]; rfl) (List.cons_ne_nil _ _) (Nat.le_of_ble_eq_true rfl)
      rw [this, ← hv]
      rfl
    refine o_intS hci (by show 1 ≤ 640; decide) ?_
    walk_at "wx"
    rw [show ("]" : Str) = S [93] from by decide +kernel]
    refine ⟨a, [93], pos, rfl, by omega, by decide, fun e hE => ?_, fun e hE => k.2 e (by simp only [hE])⟩
    simp only [hE] at k
    walk_at "wx"
    exact k.1 _ rfl
/-- what a text of a definition means; p: the modulus -/
def DefK {K : PySem.W.Frag} {mg : Str → Option Value} (T : Txt K mg) (a : List Nat) (p : Nat) (k : D → Prop) (E : ErP) : Prop := (∀ d, defP a p = .ok d → (∀ f o, d = .lin f o → isLin f o p = true) → k d.d) ∧ (∀ f o, defP a p = .ok (.lin f o) → isLin f o p = false → E T.e_InvalidFraction.C (errF "InvalidFraction")) ∧ ∀ e, defP a p = .error e → E T.e_InvalidText.C (errP e)
def dDef (T : Txt K mg) : DSp := fun ds Q E => ∃ (a : List Nat) (p : Int), ds = [.str (S a), .int p] ∧ a.length ≤ 600 ∧ (∀ q : Nat, p = q → isP q → DefK T a q (fun d => Q (.d d)) E) ∧ (okMod p = false → E T.e_InvalidModulus.C (errF "InvalidModulus"))
theorem ok_parse_definition (T : Txt K mg) : FnOk P w K mg base (L2.CX P w) 7 T.parse_definition.f T.parse_definition.fd P_parse_definition (liftP K T.mC (dDef T)) := by
  refine okD_P T.parse_definition.F sc_parse_definition (fun ds Q E h => ?_) fun cdv A outer s H E ds Q Ed fr hr h he => ?_
  · obtain ⟨a, p, rfl, _⟩ := h
    rfl
  · obtain ⟨a, p, rfl, hl, k, k3⟩ := h
    refine ⟨_, ((pss_cons (ps_expr (pcall T.check_modulus (ok_check_modulus T) (hr.mono (by omega)) passE (pa_cons (pv 1) pa_nil)))
  (C8.pss_cut (ps_if (pt_cmpR (op_sEq hr.units) (pcall T.char_at (ok_char_at T) (hr.mono (by omega)) passE (pa_cons (pv 0) (pa_cons pe_int pa_nil))) pe_str (nomark _))
  (pss_one (ps_asg (pcall T.parse_cell (ok_parse_cell T) (hr.mono (by omega)) passE (pa_cons (pv 0) (pa_cons (pv 1) pa_nil))) (pg_tup rfl (pgs_cons (pg_name (i := 2) sc_parse_definition.nd rfl (by first | exact Or.inl rfl | exact Or.inr rfl)) (pgs_cons (pg_name (i := 3) sc_parse_definition.nd rfl (by first | exact Or.inl rfl | exact Or.inr rfl)) pgs_nil)))))
  (pss_one (ps_if (pt_cmpR (op_sEq hr.units) (pcall T.char_at (ok_char_at T) (hr.mono (by omega)) passE (pa_cons (pv 0) (pa_cons pe_int pa_nil))) pe_str (nomark _))
  (pss_one (ps_asg (pcall T.parse_linear (ok_parse_linear T) (hr.mono (by omega)) passE (pa_cons (pv 0) pa_nil)) (pg_tup rfl (pgs_cons (pg_name (i := 2) sc_parse_definition.nd rfl (by first | exact Or.inl rfl | exact Or.inr rfl)) (pgs_cons (pg_name (i := 3) sc_parse_definition.nd rfl (by first | exact Or.inl rfl | exact Or.inr rfl)) pgs_nil)))))
  (pss_one (ps_asg (pcall T.parse_product (ok_parse_product T) (hr.mono (by omega)) passE (pa_cons (pv 0) pa_nil)) (pg_tup rfl (pgs_cons (pg_name (i := 2) sc_parse_definition.nd rfl (by first | exact Or.inl rfl | exact Or.inr rfl)) (pgs_cons (pg_name (i := 3) sc_parse_definition.nd rfl (by first | exact Or.inl rfl | exact Or.inr rfl)) pgs_nil))))))))
  (pss_cons (ps_if (pt_cmpR op_sLt (pv 3) (pe_callB call_sLen (by rfl) T.b_len (by decide +kernel) (pa_cons (pv 0) pa_nil)) (nomark _))
  (pss_one (praise T.e_InvalidText (ei_InvalidText T) (hr.mono (by omega)) rfl (takes_of rfl rfl rfl rfl) (by exact (pa_cons (pv 3) pa_nil))))
  pss_nil)
  (pss_cons (ps_if (PW.pt (pw_and (pt_cmpR (op_sEq hr.units) (pe_ix ix_s (pv 2) pe_int (fun _ _ => rfl)) pe_str (nomark _)) (pw_and1 (pt_not (pt_val (pcall T.is_linear (ok_is_linear T) (hr.mono (by omega)) passE (pa_cons (pe_ix ix_s (pv 2) pe_int (fun _ _ => rfl)) (pa_cons (pe_ix ix_s (pv 2) pe_int (fun _ _ => rfl)) (pa_cons (pv 1) pa_nil)))))))))
  (pss_one (praise0 T.e_InvalidFraction (ei_InvalidFraction T) (hr.mono (by omega)) rfl (takes_of rfl rfl rfl rfl)))
  pss_nil)
  (pss_one (ps_ret (pv 2)))))))), ?_⟩
    show wS _ _ [] [some (.d (.str (S a))), some (.d (.int p)), none, none] [] _
    try dsimp only [L2.cxOf]
    walk_at "wx"
    refine ⟨p, rfl, fun hpo => ?_, k3⟩
    obtain ⟨q, rfl, hq⟩ := okMod_isP hpo
    have hq2 := hq.pos
    obtain ⟨k1, k2, k4⟩ := k q rfl hq
    walk_at "wx"
    refine w_cutI (fun cs sl => ∃ (d : Defn) (e : Nat), bodyP a q = .ok (d, e) ∧ cs = [] ∧ sl = [some (.d (.str (S a))), some (.d (dn q)), some (.d d.d), some (.d (dn e))]) ?_ ?_
    · walk_at "wx"
      refine ⟨a, 0, rfl, by omega, ?_⟩
      walk_at "wx"
      rw [show ("[" : Str) = S [91] from by decide +kernel]
      have hb : bodyP a q = if chA a 0 = [91] then match cellP a q with | .error e => .error e | .ok (x, e) => .ok (.cell x.1 x.2, e) else if chA a 0 = [123] then match linP a with | .error e => .error e | .ok (x, e) => .ok (.lin x.1 x.2, e) else match prodP a with | .error e => .error e | .ok (x, e) => .ok (.prod x, e) := rfl
      have ker : ∀ e, bodyP a q = .error e → Ed T.e_InvalidText.C (errP e) := fun e hE => k4 e (by unfold defP; rw [hE])
      refine y_ite (fun c1 => ?_) fun c1 => ?_
      · have c1 : chA a 0 = [91] := SX.S_inj (b := [91]) c1
        rw [if_pos c1] at hb
        walk_at "wx"
        refine ⟨a, q, rfl, hq, hl, fun r hr => ?_, fun e hE => ker e (by rw [hb]; simp only [hE])⟩
        obtain ⟨x, e⟩ := r
        simp only [hr] at hb
        walk_at "wx"
        exact ⟨_, ⟨_, e, hb, rfl, rfl⟩, by simp [SlLe, Defn.d]⟩
      · rw [if_neg (fun z => c1 (by rw [z]))] at hb
        walk_at "wx"
        refine ⟨a, 0, rfl, by omega, ?_⟩
        walk_at "wx"
        rw [show ("{" : Str) = S [123] from by decide +kernel]
        refine y_ite (fun c2 => ?_) fun c2 => ?_
        · have c2 : chA a 0 = [123] := SX.S_inj (b := [123]) c2
          rw [if_pos c2] at hb
          walk_at "wx"
          refine ⟨a, rfl, hl, fun r hr => ?_, fun e hE => ker e (by rw [hb]; simp only [hE])⟩
          obtain ⟨x, e⟩ := r
          simp only [hr] at hb
          walk_at "wx"
          exact ⟨_, ⟨_, e, hb, rfl, rfl⟩, by simp [SlLe, Defn.d]; exact ⟨rfl, rfl⟩⟩
        · rw [if_neg (fun z => c2 (by rw [z]))] at hb
          walk_at "wx"
          refine ⟨a, rfl, hl, fun r hr => ?_, fun e hE => ker e (by rw [hb]; simp only [hE])⟩
          obtain ⟨x, e⟩ := r
          simp only [hr] at hb
          walk_at "wx"
          exact ⟨_, ⟨_, e, hb, rfl, rfl⟩, by simp [SlLe, Defn.d]⟩
    rintro cs1 sl1 ⟨d, e, hb, rfl, rfl⟩
    have hd : defP a q = if e < a.length then .error e else .ok d := by
      unfold defP
      rw [hb]
    walk_at "wx"
    refine o_lenS (by rw [S_len]; omega) ?_
    rw [S_len]
    walk_at "wx"
    refine y_ite (fun c1 => ?_) fun c1 => ?_
    · rw [if_pos (by omega)] at hd
      walk_at "wx"
      exact ⟨.int (e : Int), rfl, k4 _ hd⟩
    rw [if_neg (by omega)] at hd
    walk_at "wx"
    cases d with
    | cell c refs =>
      unfold Defn.d
      walk_at "wx"
      refine o_ix (d := .str "cell") rfl ?_
      walk_at "wx"
      refine y_no (by decide +kernel) ?_
      walk_at "wx"
      exact k1 _ hd fun f o h => by cases h
    | prod fs =>
      unfold Defn.d
      walk_at "wx"
      refine o_ix (d := .str "product") rfl ?_
      walk_at "wx"
      refine y_no (by decide +kernel) ?_
      walk_at "wx"
      exact k1 _ hd fun f o h => by cases h
    | lin f o =>
      unfold Defn.d
      walk_at "wx"
      refine o_ix (d := .str "linear") rfl ?_
      walk_at "wx"
      refine y_yes rfl ?_
      walk_at "wx"
      refine o_ix (d := frD f) rfl ?_
      walk_at "wx"
      refine o_ix (d := frD o) rfl ?_
      walk_at "wx"
      refine ⟨f, o, q, rfl, by omega, ?_⟩
      walk_at "wx"
      cases hlo : isLin f o q with
      | false =>
        walk_at "wx"
        exact k2 f o hd hlo
      | true =>
        walk_at "wx"
        exact k1 _ hd fun f2 o2 h => by
          cases h
          exact hlo
end
end R

/-! # LT: fractions written and read, plainly -/
namespace R
open PySem PySem.Spec PyProof.Rows L2 L2H LamX
open SX (S S_len)
open TL (numL)
/-- a part as it is written -/
def wrL (n : Nat) : Option Nat → List Nat
  | none => numL n
  | some b => numL n ++ 47 :: numL b
def frB (neg : Bool) (n : Nat) (b : Option Nat) : Int × Int := ((if neg then 0 - (n : Int) else (n : Int)), match b with | none => 1 | some b => if b = 1 then 0 else (b : Int))
theorem subL_mid (p m r : List Nat) : subL (p ++ (m ++ r)) p.length (p.length + m.length) = m := by
  unfold subL
  rw [List.drop_left, Nat.add_sub_cancel_left, List.take_left]
theorem num_head : ∀ n : Nat, 0 < n → (numL n).head? ≠ some 48 := by
  intro n
  induction n using Nat.strongRecOn with
  | _ n ih =>
    intro h0
    by_cases h : n < 10
    · rw [TL.numL_lt h]
      intro e
      have : 48 + n = 48 := Option.some.inj e
      omega
    · have := ih (n / 10) (by omega) (by omega)
      rw [TL.numL_step (by omega)]
      cases e : numL (n / 10) with
      | nil => exact absurd e (TL.numL_ne _)
      | cons x xs =>
        rw [e] at this
        exact this
theorem num_dec {n c : Nat} (h : c ∈ numL n) : c ∈ DEC := by
  have := (TL.numL_digits n) c h
  unfold DEC
  simp only [List.mem_cons, List.not_mem_nil, or_false]
  omega
theorem natP_num {p r : List Nat} {n : Nat} (hn : n < 1000000) (hr : ∀ c, r.head? = some c → c ∉ DEC) : natP (p ++ (numL n ++ r)) p.length 6 = .ok (p.length + (numL n).length) := by
  unfold natP
  by_cases h0 : n = 0
  · subst h0
    have e : chA (p ++ (numL 0 ++ r)) p.length = [48] := by
      rw [TL.numL_lt (by decide)]
      exact subL_mid p [48] r
    rw [if_pos e, TL.numL_lt (by decide)]
    try rfl
  · have hne := TL.numL_ne n
    have hh := num_head n (by omega)
    have hl := TL.numL_len (k := 6) (by decide) hn
    have e : ¬ chA (p ++ (numL n ++ r)) p.length = [48] := by
      cases e : numL n with
      | nil => exact absurd e hne
      | cons x xs =>
        intro z
        have z2 : chA (p ++ ((x :: xs) ++ r)) p.length = [x] := subL_mid p [x] (xs ++ r)
        rw [z2] at z
        rw [e] at hh
        exact hh (by rw [(List.cons.inj z).1]; rfl)
    rw [if_neg e]
    unfold scanP
    rw [List.drop_left, runL_app (fun c hc => num_dec hc) hl hr, if_neg (fun z => hne (List.eq_nil_of_length_eq_zero z))]
theorem fracP_wr {p r : List Nat} {n : Nat} {b : Option Nat} {neg : Bool} (hn : n < 1000000) (hb : ∀ x, b = some x → x < 1000000) (h0 : neg = true → n ≠ 0) (hr : ∀ c, r.head? = some c → c ∉ DEC ∧ c ≠ 47) : fracP (p ++ (wrL n b ++ r)) p.length neg = .ok (frB neg n b, p.length + (wrL n b).length) := by
  have hc : ¬ (neg = true ∧ chA (p ++ (wrL n b ++ r)) p.length = [48]) := fun ⟨z1, z2⟩ => by
    have hne := TL.numL_ne n
    have hh := num_head n (by have := h0 z1; omega)
    have : ∃ xs, wrL n b ++ r = numL n ++ xs := by
      cases b with
      | none => exact ⟨r, rfl⟩
      | some x => exact ⟨47 :: numL x ++ r, List.append_assoc _ _ _⟩
    obtain ⟨xs, e⟩ := this
    rw [e] at z2
    cases e2 : numL n with
    | nil => exact absurd e2 hne
    | cons x ys =>
      rw [e2] at z2 hh
      have z3 : chA (p ++ ((x :: ys) ++ xs)) p.length = [x] := subL_mid p [x] (ys ++ xs)
      rw [z3] at z2
      exact hh (by rw [(List.cons.inj z2).1]; rfl)
  unfold fracP
  rw [if_neg hc]
  cases b with
  | none =>
    rw [show wrL n none = numL n from rfl]
    have e1 := natP_num (p := p) (r := r) hn fun c h => (hr c h).1
    have e2 : ¬ chA (p ++ (numL n ++ r)) (p.length + (numL n).length) = [47] := fun z => by
      have := chA_iff.mp z
      rw [List.getElem?_append_right (by omega), Nat.add_sub_cancel_left, List.getElem?_append_right (Nat.le_refl _), Nat.sub_self] at this
      exact (hr 47 (by rw [List.head?_eq_getElem?]; exact this)).2 rfl
    have e3 : valP (subL (p ++ (numL n ++ r)) p.length (p.length + (numL n).length)) = n := by
      rw [subL_mid]
      exact TL.numL_val n
    rw [e1]
    simp only [if_neg e2, e3]
    rfl
  | some x =>
    have hx := hb x rfl
    have eqn : wrL n (some x) ++ r = numL n ++ (47 :: (numL x ++ r)) := by
      show (numL n ++ 47 :: numL x) ++ r = _
      rw [List.append_assoc]
      rfl
    rw [eqn]
    have e1 := natP_num (p := p) (r := 47 :: (numL x ++ r)) hn fun c h => by
      have : 47 = c := Option.some.inj h
      subst this
      decide
    have e2 : chA (p ++ (numL n ++ (47 :: (numL x ++ r)))) (p.length + (numL n).length) = [47] := by
      have := subL_mid (p ++ numL n) [47] (numL x ++ r)
      rw [List.append_assoc, List.length_append] at this
      exact this
    have e3 : valP (subL (p ++ (numL n ++ (47 :: (numL x ++ r)))) p.length (p.length + (numL n).length)) = n := by
      rw [subL_mid]
      exact TL.numL_val n
    have a1 : (p ++ (numL n ++ [47])) ++ (numL x ++ r) = p ++ (numL n ++ (47 :: (numL x ++ r))) := by simp
    have a2 : (p ++ (numL n ++ [47])).length = p.length + (numL n).length + 1 := by
      rw [List.length_append, List.length_append, List.length_singleton]
      omega
    have e4 : natP (p ++ (numL n ++ (47 :: (numL x ++ r)))) (p.length + (numL n).length + 1) 6 = .ok (p.length + (numL n).length + 1 + (numL x).length) := by
      have := natP_num (p := p ++ (numL n ++ [47])) (r := r) hx fun c h => (hr c h).1
      rw [a1, a2] at this
      exact this
    have e5 : valP (subL (p ++ (numL n ++ (47 :: (numL x ++ r)))) (p.length + (numL n).length + 1) (p.length + (numL n).length + 1 + (numL x).length)) = x := by
      have := subL_mid (p ++ (numL n ++ [47])) (numL x) r
      rw [a1, a2] at this
      rw [this]
      exact TL.numL_val x
    rw [e1]
    simp only [if_pos e2, e3, e4, e5]
    refine congrArg Except.ok (Prod.ext rfl ?_)
    show _ = p.length + (numL n ++ 47 :: numL x).length
    simp
    omega
/-- the whole text -/
def txtL (neg : Bool) (n : Nat) (b : Option Nat) (und : Bool) (m : Nat) (c : Option Nat) : List Nat := [123] ++ (if neg then [45] else []) ++ wrL n b ++ [42, 120] ++ (if und then [45] else [43]) ++ wrL m c ++ [125]
theorem wr_len {n : Nat} {b : Option Nat} (hn : n < 1000000) (hb : ∀ x, b = some x → x < 1000000) : (wrL n b).length ≤ 13 := by
  have h1 := TL.numL_len (k := 6) (by decide) hn
  cases b with
  | none => show (numL n).length ≤ 13; omega
  | some x =>
    have h2 := TL.numL_len (k := 6) (by decide) (hb x rfl)
    show (numL n ++ 47 :: numL x).length ≤ 13
    rw [List.length_append, List.length_cons]
    omega
theorem dec_no {c : Nat} (h : c = 42 ∨ c = 125) : c ∉ DEC ∧ c ≠ 47 := by
  rcases h with rfl | rfl <;> decide
/-- reading what was written -/
theorem linP_txt {neg und : Bool} {n m : Nat} {b c : Option Nat} (hn : n < 1000000) (hb : ∀ x, b = some x → x < 1000000) (h0 : neg = true → n ≠ 0) (hm : m < 1000000) (hc : ∀ x, c = some x → x < 1000000) (h1 : und = true → m ≠ 0) :
    linP (txtL neg n b und m c) = .ok ((frB neg n b, frB und m c), (txtL neg n b und m c).length) ∧ chA (txtL neg n b und m c) 0 = [123] ∧ (txtL neg n b und m c).length ≤ 600 := by
  have l1 := wr_len hn hb
  have l2 := wr_len hm hc
  obtain ⟨p1, hp1⟩ : ∃ p1 : List Nat, [123] ++ (if neg then [45] else []) = p1 := ⟨_, rfl⟩
  obtain ⟨us, hus⟩ : ∃ us : List Nat, (if und then [45] else [43]) = us := ⟨_, rfl⟩
  have hp1l : p1.length = 1 + neg.toNat := by rw [← hp1]; cases neg <;> rfl
  have husl : us.length = 1 := by rw [← hus]; cases und <;> rfl
  have T1 : txtL neg n b und m c = p1 ++ (wrL n b ++ ([42, 120] ++ us ++ wrL m c ++ [125])) := by
    unfold txtL
    rw [hp1, hus]
    simp
  have T2 : txtL neg n b und m c = (p1 ++ wrL n b) ++ ([42, 120] ++ (us ++ wrL m c ++ [125])) := by
    rw [T1]
    simp
  have T3 : txtL neg n b und m c = (p1 ++ wrL n b ++ [42, 120]) ++ (us ++ (wrL m c ++ [125])) := by
    rw [T1]
    simp
  have T4 : txtL neg n b und m c = (p1 ++ wrL n b ++ [42, 120] ++ us) ++ (wrL m c ++ [125]) := by
    rw [T1]
    simp
  have T5 : txtL neg n b und m c = (p1 ++ wrL n b ++ [42, 120] ++ us ++ wrL m c) ++ ([125] ++ []) := by
    rw [T1]
    simp
  have hch1 : decide (chA (txtL neg n b und m c) 1 = [45]) = neg := by
    cases neg with
    | true =>
      rw [show txtL true n b und m c = [123] ++ ([45] ++ (wrL n b ++ ([42, 120] ++ us ++ wrL m c ++ [125]))) by rw [T1, ← hp1]; simp]
      exact decide_eq_true (subL_mid [123] [45] _)
    | false =>
      refine decide_eq_false fun z => ?_
      have hne := TL.numL_ne n
      have : ∃ x xs, wrL n b = x :: xs ∧ x ∈ DEC := by
        cases e : numL n with
        | nil => exact absurd e hne
        | cons x xs =>
          have hx : x ∈ DEC := num_dec (n := n) (by rw [e]; exact .head _)
          cases b with
          | none => exact ⟨x, xs, e, hx⟩
          | some y => exact ⟨x, xs ++ 47 :: numL y, by show numL n ++ _ = _; rw [e]; rfl, hx⟩
      obtain ⟨x, xs, e, hx⟩ := this
      rw [show txtL false n b und m c = [123] ++ ([x] ++ (xs ++ ([42, 120] ++ us ++ wrL m c ++ [125]))) by rw [T1, ← hp1, e]; simp] at z
      have := subL_mid [123] [x] (xs ++ ([42, 120] ++ us ++ wrL m c ++ [125]))
      have z2 : [x] = [45] := this.symm.trans z
      have : x = 45 := (List.cons.inj z2).1
      subst this
      exact absurd hx (by decide)
  have f1 : fracP (txtL neg n b und m c) (1 + neg.toNat) neg = .ok (frB neg n b, p1.length + (wrL n b).length) := by
    rw [T1, ← hp1l]
    exact fracP_wr hn hb h0 fun x hx => by
      have : 42 = x := Option.some.inj hx
      exact dec_no (.inl this.symm)
  have e1 : expP (txtL neg n b und m c) (p1.length + (wrL n b).length) [42, 120] = .ok (p1.length + (wrL n b).length + 1 + 1) := by
    have c1 : chA (txtL neg n b und m c) (p1.length + (wrL n b).length) = [42] := by
      rw [T2, ← List.length_append]
      exact subL_mid _ [42] ([120] ++ (us ++ wrL m c ++ [125]))
    have c2 : chA (txtL neg n b und m c) (p1.length + (wrL n b).length + 1) = [120] := by
      have := subL_mid (p1 ++ wrL n b ++ [42]) [120] (us ++ wrL m c ++ [125])
      rw [List.length_append, List.length_append, List.length_singleton] at this
      rw [show txtL neg n b und m c = (p1 ++ wrL n b ++ [42]) ++ ([120] ++ (us ++ wrL m c ++ [125])) by rw [T1]; simp]
      exact this
    unfold expP
    rw [if_pos c1]
    unfold expP
    rw [if_pos c2]
    rfl
  have L3 : (p1 ++ wrL n b ++ [42, 120]).length = p1.length + (wrL n b).length + 1 + 1 := by
    rw [List.length_append, List.length_append]
    rfl
  have c3 : chA (txtL neg n b und m c) (p1.length + (wrL n b).length + 1 + 1) = us := by
    rw [T3, ← L3]
    have := subL_mid (p1 ++ wrL n b ++ [42, 120]) us (wrL m c ++ [125])
    rw [husl] at this
    exact this
  have L4 : (p1 ++ wrL n b ++ [42, 120] ++ us).length = p1.length + (wrL n b).length + 1 + 1 + 1 := by
    rw [List.length_append, L3, husl]
  have f2 : fracP (txtL neg n b und m c) (p1.length + (wrL n b).length + 1 + 1 + 1) und = .ok (frB und m c, (p1 ++ wrL n b ++ [42, 120] ++ us).length + (wrL m c).length) := by
    rw [T4, ← L4]
    exact fracP_wr hm hc h1 fun x hx => by
      have : 125 = x := Option.some.inj hx
      exact dec_no (.inr this.symm)
  have L5 : (p1 ++ wrL n b ++ [42, 120] ++ us ++ wrL m c).length = (p1 ++ wrL n b ++ [42, 120] ++ us).length + (wrL m c).length := List.length_append
  have e2 : expP (txtL neg n b und m c) ((p1 ++ wrL n b ++ [42, 120] ++ us).length + (wrL m c).length) [125] = .ok ((p1 ++ wrL n b ++ [42, 120] ++ us).length + (wrL m c).length + 1) := by
    unfold expP
    rw [if_pos (by rw [T5, ← L5]; exact subL_mid _ [125] [])]
    rfl
  have hlen : (txtL neg n b und m c).length = (p1 ++ wrL n b ++ [42, 120] ++ us).length + (wrL m c).length + 1 := by
    rw [T5, List.length_append, L5]
    rfl
  refine ⟨?_, ?_, ?_⟩
  · unfold linP
    rw [hch1]
    simp only [f1, e1]
    rw [c3, if_pos (by rw [← hus]; cases und; exact .inl rfl; exact .inr rfl)]
    have : decide (us = [45]) = und := by rw [← hus]; cases und <;> rfl
    rw [this]
    simp only [f2, e2]
    rw [hlen]
  · rw [T1, ← hp1]
    rw [show [123] ++ (if neg then [45] else []) ++ (wrL n b ++ ([42, 120] ++ us ++ wrL m c ++ [125])) = [] ++ ([123] ++ ((if neg then [45] else []) ++ (wrL n b ++ ([42, 120] ++ us ++ wrL m c ++ [125])))) by simp]
    exact subL_mid [] [123] _
  · rw [hlen, L4, hp1l]
    cases neg <;> simp <;> omega
end R

/-! # HA: the law's allows, part, written, meant -/
namespace R
open PySem PySem.Spec PyProof.Rows L2 L2H LamX
open SX (S S_len S_cat)
open TL (numL)
def optN : Option Nat → D
  | none => .non
  | some b => dn b
def meantP (neg : Bool) (n : Nat) (b : Option Nat) : Int × Int := match b with
  | none => ((if neg then 0 - (n : Int) else (n : Int)), 1)
  | some x => if x = 1 then ((n : Int), 0) else ((if neg then 0 - (n : Int) else (n : Int)), (x : Int))
theorem meant_fr {neg : Bool} {n : Nat} {b : Option Nat} (h : b ≠ some 1) : meantP neg n b = frB neg n b := by
  cases b with
  | none => rfl
  | some x =>
    have hx : x ≠ 1 := fun e => h (by rw [e])
    unfold meantP frB
    simp only [if_neg hx]
theorem meant_two {neg : Bool} {n : Nat} {b : Option Nat} : (meantP neg n b).2 = (frB neg n b).2 := by
  cases b with
  | none => rfl
  | some x =>
    unfold meantP frB
    by_cases hx : x = 1
    · simp only [if_pos hx]
    · simp only [if_neg hx]
theorem two_zero {f o : Of} {p : Int} (h : f.2 = 0 ∨ o.2 = 0) : isLin f o p = false := by
  refine Bool.eq_false_iff.mpr fun e => ?_
  obtain ⟨h1, h2, _⟩ := isLin_iff.mp e
  have h1 := (isFrac_iff.mp h1).1
  have h2 := (isFrac_iff.mp h2).1
  omega
theorem lin_meant {neg und : Bool} {n m : Nat} {b c : Option Nat} {p : Int} : isLin (meantP neg n b) (meantP und m c) p = isLin (frB neg n b) (frB und m c) p ∧ (isLin (frB neg n b) (frB und m c) p = true → meantP neg n b = frB neg n b ∧ meantP und m c = frB und m c) := by
  by_cases hb : b = some 1
  · subst hb
    have e1 : (frB neg n (some 1)).2 = 0 := rfl
    have e2 : (meantP neg n (some 1)).2 = 0 := by rw [meant_two]; rfl
    rw [two_zero (.inl e1), two_zero (.inl e2)]
    exact ⟨rfl, fun h => by cases h⟩
  · by_cases hc : c = some 1
    · subst hc
      have e1 : (frB und m (some 1)).2 = 0 := rfl
      have e2 : (meantP und m (some 1)).2 = 0 := by rw [meant_two]; rfl
      rw [two_zero (.inr e1), two_zero (.inr e2)]
      exact ⟨rfl, fun h => by cases h⟩
    · rw [meant_fr hb, meant_fr hc]
      exact ⟨rfl, fun _ => ⟨rfl, rfl⟩⟩
theorem iteNoD {b : Bool} {A B : Prop} (h : b = false) (q : B) : if b = true then A else B := by
  rw [if_neg (by rw [h]; exact Bool.false_ne_true)]
  exact q
section
variable {P : Program} {w : World} {K : PySem.W.Frag} {mg : Str → Option Value} {base : Heap}
def dAllows : DSp := fun ds Q _ => ∃ (f o : Of) (p : Nat), ds = [oD f, oD o, dn p] ∧ 0 < p ∧ Q (.d (.bl (isLin f o p)))
theorem ok_allows (T : Txt K mg) : Ok P w K mg base 3 T.allows (liftP K T.mC dAllows) := by
  refine ok_P T.allows sc_allows (fun ds Q E h => ?_) fun cdv A outer s H E ds Q Ed fr hr h he => ?_
  · obtain ⟨f, o, p, rfl, _⟩ := h
    rfl
  · obtain ⟨f, o, p, rfl, hp, k⟩ := h
    refine ⟨_, ((pss_cons (ps_set (i := 3) sc_allows.nd rfl (by first | exact Or.inl rfl | exact Or.inr rfl) (pe_and (pcall T.l_is_fraction (ok_l_is_fraction T) (hr.mono (by omega)) passE (pa_cons (pv 0) pa_nil)) (pe_one (pcall T.l_is_fraction (ok_l_is_fraction T) (hr.mono (by omega)) passE (pa_cons (pv 1) pa_nil)))))
  (pss_one (ps_ret (pe_and (pv 3) (pe_and (pe_cmpR (op_sNe hr.units) (pe_op op_sMod (pe_ix ix_s (pv 0) pe_int (fun _ _ => rfl)) (pv 2)) pe_int (nomark _)) (pe_and (pe_cmpR (op_sNe hr.units) (pe_op op_sMod (pe_ix ix_s (pv 1) pe_int (fun _ _ => rfl)) (pv 2)) pe_int (nomark _)) (pe_one (pe_cmpR (op_sEq hr.units) (pe_op op_sMod (pe_op op_sSub (pe_ix ix_s (pv 0) pe_int (fun _ _ => rfl)) (pe_ix ix_s (pv 0) pe_int (fun _ _ => rfl))) (pv 2)) pe_int (nomark _)))))))))), ?_⟩
    show wS _ _ [] [some (.d (oD f)), some (.d (oD o)), some (.d (dn p)), none] [] _
    try dsimp only [L2.cxOf]
    walk_at "wx"
    refine ⟨f.1, f.2, rfl, ?_⟩
    walk_at "wx"
    have hsp : isLin f o p = (isFrac f.1 f.2 && isFrac o.1 o.2 && decide (f.2 % p ≠ 0) && decide (o.2 % p ≠ 0) && decide ((f.1 - f.2) % p = 0)) := rfl
    cases h1 : isFrac f.1 f.2 with
    | false =>
      rw [hsp, h1] at k
      walk_at "wx"
      exact k
    | true =>
      walk_at "wx"
      refine ⟨o.1, o.2, rfl, ?_⟩
      walk_at "wx"
      cases h2 : isFrac o.1 o.2 with
      | false =>
        rw [hsp, h1, h2] at k
        walk_at "wx"
        exact k
      | true =>
        rw [hsp, h1, h2] at k
        walk_at "wx"
        refine o_ix (d := .int f.2) rfl ?_
        walk_at "wx"
        refine y_iteN (fun h3 => ?_) fun h3 => ?_
        · rw [decide_eq_true h3] at k
          walk_at "wx"
          refine o_ix (d := .int o.2) rfl ?_
          walk_at "wx"
          refine y_iteN (fun h4 => ?_) fun h4 => ?_
          · rw [decide_eq_true h4] at k
            walk_at "wx"
            refine o_ix (d := .int f.1) rfl ?_
            walk_at "wx"
            refine o_ix (d := .int f.2) rfl ?_
            walk_at "wx"
            exact k
          · rw [decide_eq_false (fun z => z h4)] at k
            walk_at "wx"
            exact k
        · rw [decide_eq_false (fun z => z h3)] at k
          walk_at "wx"
          exact k
end
end R

/-! # HB: the law's own reader: at, skip, word, reference, natural, pair_of -/
namespace R
open PySem PySem.Spec PyProof.Rows L2 L2H LamX
open SX (S S_len S_cat)
/-- where a reading ends, and whether it is good -/
def rdP : Rd Nat → Nat
  | .ok e => e
  | .error e => e
def rdB (r : Rd Nat) : D := .tup [dn (rdP r), .bl (match r with | .ok _ => true | .error _ => false)]
section
variable {P : Program} {w : World} {K : PySem.W.Frag} {mg : Str → Option Value} {base : Heap}
def dAtL : DSp := fun ds Q _ => ∃ (a : List Nat) (i : Nat), ds = [.str (S a), dn i] ∧ a.length ≤ 900000 ∧ Q (.d (.str (S (chA a i))))
theorem ok_at_ (T : Txt K mg) : Ok P w K mg base 1 T.at_ (liftP K T.mC dAtL) := by
  refine ok_P T.at_ sc_at_ (fun ds Q E h => ?_) fun cdv A outer s H E ds Q Ed fr hr h he => ?_
  · obtain ⟨a, i, rfl, _⟩ := h
    rfl
  · obtain ⟨a, i, rfl, hl, k⟩ := h
    refine ⟨_, ((pss_one (ps_ret (pe_ifExp (pt_cmpR op_sLt (pv 1) (pe_callB call_sLen (by rfl) T.b_len (by decide +kernel) (pa_cons (pv 0) pa_nil)) (nomark _)) (pe_ix ix_s (pv 0) (pv 1) (fun _ _ => rfl)) pe_str)))), ?_⟩
    show wS _ _ [] [some (.d (.str (S a))), some (.d (dn i))] [] _
    try dsimp only [L2.cxOf]
    walk_at "wx"
    refine o_lenS (by rw [S_len]; omega) ?_
    rw [S_len]
    walk_at "wx"
    refine y_ite (fun c1 => ?_) fun c1 => ?_
    · obtain ⟨c, hc⟩ : ∃ c, a[i]? = some c := ⟨_, List.getElem?_eq_getElem (by omega)⟩
      rw [chA_some hc] at k
      walk_at "wx"
      refine o_ixS (c := c) (by rw [S_len]; omega) (atI_nat hc) ?_
      exact k
    · rw [chA_none (by omega)] at k
      walk_at "wx"
      exact k
def dSkip : DSp := fun ds Q _ => ∃ (a set : List Nat) (i m : Nat), ds = [.str (S a), dn i, .str (S set), dn m] ∧ a.length ≤ 900000 ∧ Q (.d (dn (i + runL set m (a.drop i))))
theorem ok_skip (T : Txt K mg) : Ok P w K mg base 2 T.skip (liftP K T.mC dSkip) := by
  refine ok_P T.skip sc_skip (fun ds Q E h => ?_) fun cdv A outer s H E ds Q Ed fr hr h he => ?_
  · obtain ⟨a, set, i, m, rfl, _⟩ := h
    rfl
  · obtain ⟨a, set, i, m, rfl, hl, k⟩ := h
    refine ⟨_, ((pss_cons (ps_while ownE (PW.pt (pw_and (pt_cmpR op_sGt (pv 3) pe_int (nomark _)) (pw_and (pt_cmpR (op_sNe hr.units) (pcall T.at_ (ok_at_ T) (hr.mono (by omega)) passE (pa_cons (pv 0) (pa_cons (pv 1) pa_nil))) pe_str (nomark _)) (pw_and1 (pt_cmpR op_sIn (pcall T.at_ (ok_at_ T) (hr.mono (by omega)) passE (pa_cons (pv 0) (pa_cons (pv 1) pa_nil))) (pv 2) (by rfl))))))
  (pss_one (ps_par (i := 1) (j := 3) (by rfl) sc_skip.nd rfl rfl (by decide) rfl rfl (pa_cons (pe_op op_sAdd (pv 1) pe_int) (pa_cons (pe_op op_sSub (pv 3) pe_int) pa_nil)) (by rfl))))
  (pss_one (ps_ret (pv 1))))), ?_⟩
    show wS _ _ [] [some (.d (.str (S a))), some (.d (dn i)), some (.d (.str (S set))), some (.d (dn m))] [] _
    try dsimp only [L2.cxOf]
    walk_at "wx"
    refine w_while (fun n cs sl => ∃ j : Nat, i + runL set m (a.drop i) = j + runL set n (a.drop j) ∧ cs = [] ∧ sl = [some (.d (.str (S a))), some (.d (dn j)), some (.d (.str (S set))), some (.d (dn n))]) m ⟨i, rfl, rfl, rfl⟩ ?_
    rintro n cs1 sl1 ⟨j, hrun, rfl, rfl⟩
    walk_at "wx"
    refine y_ite (fun c1 => ?_) fun c1 => ?_
    · obtain ⟨n, rfl⟩ : ∃ n', n = n' + 1 := ⟨n - 1, by omega⟩
      walk_at "wx"
      refine ⟨a, j, rfl, hl, ?_⟩
      walk_at "wx"
      rw [show ("" : Str) = S [] from rfl]
      refine y_iteN (fun c2 => ?_) fun c2 => ?_
      · obtain ⟨c, hc⟩ : ∃ c, a[j]? = some c := by
          cases h : a[j]? with
          | none => exact absurd (by rw [chA_none (List.getElem?_eq_none_iff.mp h)]) c2
          | some c => exact ⟨c, rfl⟩
        obtain ⟨hcl, hcv⟩ := List.getElem?_eq_some_iff.mp hc
        rw [List.drop_eq_getElem_cons hcl, hcv] at hrun
        have hrun : i + runL set m (a.drop i) = j + (if c ∈ set then runL set n (a.drop (j + 1)) + 1 else 0) := hrun
        walk_at "wx"
        refine ⟨a, j, rfl, hl, ?_⟩
        rw [chA_some hc]
        walk_at "wx"
        rw [show (S set).cps.toList = set from rfl]
        refine y_ite (fun c3 => ?_) fun c3 => ?_
        · rw [if_pos c3] at hrun
          walk_at "wx"
          exact ⟨n, by omega, j + 1, by omega, rfl, by rw [show (((n + 1 : Nat) : Int) - 1) = (n : Int) by omega]; rfl⟩
        · rw [if_neg c3] at hrun
          walk_at "wx"
          rw [hrun] at k
          exact k
      · have c2 : chA a j = [] := SX.S_inj (b := []) c2
        have hz : runL set (n + 1) (a.drop j) = 0 := by
          have : a.length ≤ j := Decidable.byContradiction fun z => by
            rw [chA_some (List.getElem?_eq_getElem (by omega))] at c2
            cases c2
          rw [List.drop_of_length_le this]
          rfl
        rw [hz] at hrun
        walk_at "wx"
        rw [hrun] at k
        exact k
    · obtain rfl : n = 0 := by omega
      have hrun : i + runL set m (a.drop i) = j + 0 := hrun
      walk_at "wx"
      rw [hrun] at k
      exact k
def dWord : DSp := fun ds Q _ => ∃ (a wd : List Nat) (i : Nat), ds = [.str (S a), dn i, .str (S wd)] ∧ a.length ≤ 900000 ∧ wd.length ≤ 1000 ∧ Q (.d (rdB (expP a i wd)))
theorem ok_word (T : Txt K mg) : Ok P w K mg base 2 T.word (liftP K T.mC dWord) := by
  refine ok_P T.word sc_word (fun ds Q E h => ?_) fun cdv A outer s H E ds Q Ed fr hr h he => ?_
  · obtain ⟨a, wd, i, rfl, _⟩ := h
    rfl
  · obtain ⟨a, wd, pos, rfl, hl, hw, k⟩ := h
    refine ⟨_, ((pss_cons (ps_for ownE rfl (pi_s (pv 2)) (pg_name (i := 3) sc_word.nd rfl (by first | exact Or.inl rfl | exact Or.inr rfl))
  (pss_cons (ps_if (pt_cmpR (op_sNe hr.units) (pcall T.at_ (ok_at_ T) (hr.mono (by omega)) passE (pa_cons (pv 0) (pa_cons (pv 1) pa_nil))) (pv 3) (nomark _))
  (pss_one (ps_ret (pe_tup (pa_cons (pv 1) (pa_cons pe_bl pa_nil)))))
  pss_nil)
  (pss_one (ps_set (i := 1) sc_word.nd rfl (by first | exact Or.inl rfl | exact Or.inr rfl) (pe_op op_sAdd (pv 1) pe_int)))))
  (pss_one (ps_ret (pe_tup (pa_cons (pv 1) (pa_cons pe_bl pa_nil))))))), ?_⟩
    show wS _ _ [] [some (.d (.str (S a))), some (.d (dn pos)), some (.d (.str (S wd))), none] [] _
    try dsimp only [L2.cxOf]
    walk_at "wx"
    refine ⟨by show (S wd).length ≤ _; rw [S_len]; omega, ?_⟩
    rw [show (S wd).cps.toList = wd from rfl]
    refine for_k (fun i cs sl => expP a pos wd = expP a (pos + i) (wd.drop i) ∧ ∃ u : Option Sd, cs = [] ∧ sl = [some (.d (.str (S a))), some (.d (dn (pos + i))), some (.d (.str (S wd))), u]) ⟨rfl, none, rfl, rfl⟩ ?_ ?_
    · rintro i x cs2 sl2 st2 hx ⟨he, u, rfl, rfl⟩
      rw [List.getElem?_map] at hx
      obtain ⟨c, hc, rfl⟩ := Option.map_eq_some_iff.mp hx
      obtain ⟨hcl, hcv⟩ := List.getElem?_eq_some_iff.mp hc
      have hdr : wd.drop i = c :: wd.drop (i + 1) := by rw [List.drop_eq_getElem_cons hcl, hcv]
      rw [hdr] at he
      have he : expP a pos wd = if chA a (pos + i) = [c] then expP a (pos + i + 1) (wd.drop (i + 1)) else .error (pos + i) := he
      walk_at "wx"
      refine ⟨a, pos + i, rfl, hl, ?_⟩
      walk_at "wx"
      refine y_iteN (fun c1 => ?_) fun c1 => ?_
      · walk_at "wx"
        rw [if_neg (fun z => c1 (by rw [z]))] at he
        rw [he] at k
        exact k
      · walk_at "wx"
        have c1 : chA a (pos + i) = [c] := SX.S_inj (b := [c]) c1
        rw [if_pos c1] at he
        exact ⟨he, _, rfl, rfl⟩
    · rintro cs2 sl2 ⟨he, u, rfl, rfl⟩
      rw [List.length_map] at he ⊢
      rw [List.drop_of_length_le (Nat.le_refl _)] at he
      have he : expP a pos wd = .ok (pos + wd.length) := he
      walk_at "wx"
      rw [he] at k
      exact k
def dLetters : DSp := fun ds Q _ => ds = [] ∧ Q (.d (.str (S LET)))
theorem ok_letters (T : Txt K mg) : Ok P w K mg base 1 T.letters (liftP K T.mC dLetters) := by
  refine ok_P T.letters sc_letters (fun ds Q E h => ?_) fun cdv A outer s H E ds Q Ed fr hr h he => ?_
  · obtain ⟨rfl, _⟩ := h
    rfl
  · obtain ⟨rfl, k⟩ := h
    refine ⟨_, ((pss_one (ps_ret pe_str))), ?_⟩
    show wS _ _ [] [] [] _
    try dsimp only [L2.cxOf]
    walk_at "wx"
    rw [let_S]
    exact k
def dRefL : DSp := fun ds Q _ => ∃ (a : List Nat) (i : Nat), ds = [.str (S a), dn i] ∧ a.length ≤ 900000 ∧ Q (.d (rdB (scanP a i LET 6)))
theorem ok_reference (T : Txt K mg) : Ok P w K mg base 3 T.reference (liftP K T.mC dRefL) := by
  refine ok_P T.reference sc_reference (fun ds Q E h => ?_) fun cdv A outer s H E ds Q Ed fr hr h he => ?_
  · obtain ⟨a, i, rfl, _⟩ := h
    rfl
  · obtain ⟨a, i, rfl, hl, k⟩ := h
    refine ⟨_, ((pss_cons (ps_set (i := 2) sc_reference.nd rfl (by first | exact Or.inl rfl | exact Or.inr rfl) (pcall T.skip (ok_skip T) (hr.mono (by omega)) passE (pa_cons (pv 0) (pa_cons (pv 1) (pa_cons (pcall0 T.letters (ok_letters T) (hr.mono (by omega)) passE) (pa_cons pe_int pa_nil))))))
  (pss_one (ps_ret (pe_tup (pa_cons (pv 2) (pa_cons (pe_cmpR op_sGt (pv 2) (pv 1) (nomark _)) pa_nil))))))), ?_⟩
    show wS _ _ [] [some (.d (.str (S a))), some (.d (dn i)), none] [] _
    try dsimp only [L2.cxOf]
    walk_at "wx"
    refine ⟨rfl, ?_⟩
    walk_at "wx"
    refine ⟨a, LET, i, 6, rfl, hl, ?_⟩
    walk_at "wx"
    unfold scanP at k
    by_cases c : runL LET 6 (a.drop i) = 0
    · rw [if_pos c] at k
      rw [c, show decide (((i + 0 : Nat) : Int) > (i : Int)) = false from decide_eq_false (by omega)]
      exact k
    · rw [if_neg c] at k
      rw [show decide (((i + runL LET 6 (a.drop i) : Nat) : Int) > (i : Int)) = true from decide_eq_true (by omega)]
      exact k
def dNatL : DSp := fun ds Q _ => ∃ (a : List Nat) (i m : Nat), ds = [.str (S a), dn i, dn m] ∧ a.length ≤ 900000 ∧ Q (.d (rdB (natP a i m)))
theorem ok_natural (T : Txt K mg) : Ok P w K mg base 3 T.natural (liftP K T.mC dNatL) := by
  refine ok_P T.natural sc_natural (fun ds Q E h => ?_) fun cdv A outer s H E ds Q Ed fr hr h he => ?_
  · obtain ⟨a, i, m, rfl, _⟩ := h
    rfl
  · obtain ⟨a, i, m, rfl, hl, k⟩ := h
    unfold natP at k
    refine ⟨_, ((pss_cons (ps_if (pt_cmpR (op_sEq hr.units) (pcall T.at_ (ok_at_ T) (hr.mono (by omega)) passE (pa_cons (pv 0) (pa_cons (pv 1) pa_nil))) pe_str (nomark _))
  (pss_one (ps_ret (pe_tup (pa_cons (pe_op op_sAdd (pv 1) pe_int) (pa_cons pe_bl pa_nil)))))
  pss_nil)
  (pss_cons (ps_set (i := 3) sc_natural.nd rfl (by first | exact Or.inl rfl | exact Or.inr rfl) (pcall T.skip (ok_skip T) (hr.mono (by omega)) passE (pa_cons (pv 0) (pa_cons (pv 1) (pa_cons pe_str (pa_cons (pv 2) pa_nil))))))
  (pss_one (ps_ret (pe_tup (pa_cons (pv 3) (pa_cons (pe_cmpR op_sGt (pv 3) (pv 1) (nomark _)) pa_nil)))))))), ?_⟩
    show wS _ _ [] [some (.d (.str (S a))), some (.d (dn i)), some (.d (dn m)), none] [] _
    try dsimp only [L2.cxOf]
    walk_at "wx"
    refine ⟨a, i, rfl, hl, ?_⟩
    walk_at "wx"
    rw [show ("0" : Str) = S [48] from by decide +kernel]
    refine y_ite (fun c1 => ?_) fun c1 => ?_
    · have c1 : chA a i = [48] := SX.S_inj (b := [48]) c1
      rw [if_pos c1] at k
      walk_at "wx"
      exact k
    · rw [if_neg (fun z => c1 (by rw [z]))] at k
      walk_at "wx"
      rw [dec_S]
      refine ⟨a, DEC, i, m, rfl, hl, ?_⟩
      walk_at "wx"
      unfold scanP at k
      by_cases c : runL DEC m (a.drop i) = 0
      · rw [if_pos c] at k
        rw [c, show decide (((i + 0 : Nat) : Int) > (i : Int)) = false from decide_eq_false (by omega)]
        exact k
      · rw [if_neg c] at k
        rw [show decide (((i + runL DEC m (a.drop i) : Nat) : Int) > (i : Int)) = true from decide_eq_true (by omega)]
        exact k
end
end R

/-! # HB2: the law's own reader: pair_of, cell_due, linear_due, product_due, due -/
namespace R
open PySem PySem.Spec PyProof.Rows L2 L2H LamX
open SX (S S_len S_cat)
def rdF (r : Rd ((Int × Int) × Nat)) : D := match r with
  | .ok (f, e) => .tup [dn e, .bl true, frD f]
  | .error e => .tup [dn e, .bl false, .non]
/-- a definition's due: where it ends, what it is -/
def rdD2 (r : Rd (Defn × Nat)) : D := match r with
  | .ok (d, e) => .tup [dn e, d.d]
  | .error e => .tup [dn e, .non]
theorem rdB_ok (e : Nat) : rdB (.ok e) = .tup [dn e, .bl true] := rfl
theorem rdB_er (e : Nat) : rdB (.error e) = .tup [dn e, .bl false] := rfl
theorem cellW_at {p i : Nat} (hp : isP p) (h : i < p) : (cellW p)[i]? = some (if i = 0 then [58, 32] else [44, 32]) ∧ (cellW p).length = p := by
  rcases hp with rfl | rfl | rfl
  · rcases (by omega : i = 0 ∨ i = 1) with rfl | rfl <;> exact ⟨rfl, rfl⟩
  · rcases (by omega : i = 0 ∨ i = 1 ∨ i = 2) with rfl | rfl | rfl <;> exact ⟨rfl, rfl⟩
  · rcases (by omega : i = 0 ∨ i = 1 ∨ i = 2 ∨ i = 3 ∨ i = 4) with rfl | rfl | rfl | rfl | rfl <;> exact ⟨rfl, rfl⟩
def cellB (a : List Nat) (p : Nat) : Rd (Defn × Nat) := match cellP a p with | .error e => .error e | .ok (x, e) => .ok (.cell x.1 x.2, e)
def linB2 (a : List Nat) : Rd (Defn × Nat) := match linP a with | .error e => .error e | .ok (x, e) => .ok (.lin x.1 x.2, e)
def prodB (a : List Nat) : Rd (Defn × Nat) := match prodP a with | .error e => .error e | .ok (x, e) => .ok (.prod x, e)
section
variable {P : Program} {w : World} {K : PySem.W.Frag} {mg : Str → Option Value} {base : Heap}
def dPairOf : DSp := fun ds Q _ => ∃ (a : List Nat) (pos : Nat) (neg : Bool), ds = [.str (S a), dn pos, .bl neg] ∧ a.length ≤ 600 ∧ Q (.d (rdF (fracP a pos neg)))
theorem ok_pair_of (T : Txt K mg) : Ok P w K mg base 4 T.pair_of (liftP K T.mC dPairOf) := by
  refine ok_P T.pair_of sc_pair_of (fun ds Q E h => ?_) fun cdv A outer s H E ds Q Ed fr hr h he => ?_
  · obtain ⟨a, pos, neg, rfl, _⟩ := h
    rfl
  · obtain ⟨a, pos, neg, rfl, hl, k⟩ := h
    unfold fracP at k
    refine ⟨_, ((C8.pss_cut (ps_if (PW.pt (pw_and (pt_val (pv 2)) (pw_and1 (pt_cmpR (op_sEq hr.units) (pcall T.at_ (ok_at_ T) (hr.mono (by omega)) passE (pa_cons (pv 0) (pa_cons (pv 1) pa_nil))) pe_str (nomark _)))))
  (pss_one (ps_ret (pe_tup (pa_cons (pv 1) (pa_cons pe_bl (pa_cons pe_non pa_nil))))))
  pss_nil)
  (pss_cons (ps_asg (pcall T.natural (ok_natural T) (hr.mono (by omega)) passE (pa_cons (pv 0) (pa_cons (pv 1) (pa_cons pe_int pa_nil)))) (pg_tup rfl (pgs_cons (pg_name (i := 3) sc_pair_of.nd rfl (by first | exact Or.inl rfl | exact Or.inr rfl)) (pgs_cons (pg_name (i := 4) sc_pair_of.nd rfl (by first | exact Or.inl rfl | exact Or.inr rfl)) pgs_nil))))
  (pss_cons (ps_if (pt_not (pt_val (pv 4)))
  (pss_one (ps_ret (pe_tup (pa_cons (pv 3) (pa_cons pe_bl (pa_cons pe_non pa_nil))))))
  pss_nil)
  (pss_cons (ps_set (i := 5) sc_pair_of.nd rfl (by first | exact Or.inl rfl | exact Or.inr rfl) (pe_callTy call_sInt (by rfl) T.b_int (by decide +kernel) (pa_cons (pe_slice sl_s (pv 0) (po_some (pv 1)) (po_some (pv 3))) pa_nil)))
  (C8.pss_cut (ps_if (pt_val (pv 2))
  (pss_one (ps_set (i := 5) sc_pair_of.nd rfl (by first | exact Or.inl rfl | exact Or.inr rfl) (pe_op op_sSub pe_int (pv 5))))
  pss_nil)
  (pss_cons (ps_if (pt_cmpR (op_sNe hr.units) (pcall T.at_ (ok_at_ T) (hr.mono (by omega)) passE (pa_cons (pv 0) (pa_cons (pv 3) pa_nil))) pe_str (nomark _))
  (pss_one (ps_ret (pe_tup (pa_cons (pv 3) (pa_cons pe_bl (pa_cons (pe_tup (pa_cons (pv 5) (pa_cons pe_int pa_nil))) pa_nil))))))
  pss_nil)
  (pss_cons (ps_asg (pcall T.natural (ok_natural T) (hr.mono (by omega)) passE (pa_cons (pv 0) (pa_cons (pe_op op_sAdd (pv 3) pe_int) (pa_cons pe_int pa_nil)))) (pg_tup rfl (pgs_cons (pg_name (i := 6) sc_pair_of.nd rfl (by first | exact Or.inl rfl | exact Or.inr rfl)) (pgs_cons (pg_name (i := 4) sc_pair_of.nd rfl (by first | exact Or.inl rfl | exact Or.inr rfl)) pgs_nil))))
  (pss_cons (ps_if (pt_not (pt_val (pv 4)))
  (pss_one (ps_ret (pe_tup (pa_cons (pv 6) (pa_cons pe_bl (pa_cons pe_non pa_nil))))))
  pss_nil)
  (pss_cons (ps_set (i := 7) sc_pair_of.nd rfl (by first | exact Or.inl rfl | exact Or.inr rfl) (pe_callTy call_sInt (by rfl) T.b_int (by decide +kernel) (pa_cons (pe_slice sl_s (pv 0) (po_some (pe_op op_sAdd (pv 3) pe_int)) (po_some (pv 6))) pa_nil)))
  (pss_one (ps_ret (pe_tup (pa_cons (pv 6) (pa_cons pe_bl (pa_cons (pe_tup (pa_cons (pv 5) (pa_cons (pe_ifExp (pt_cmpR (op_sNe hr.units) (pv 7) pe_int (nomark _)) (pv 7) pe_int) pa_nil))) pa_nil)))))))))))))))), ?_⟩
    show wS _ _ [] [some (.d (.str (S a))), some (.d (dn pos)), some (.d (.bl neg)), none, none, none, none, none] [] _
    try dsimp only [L2.cxOf]
    have rest : ∀ (hn : ¬ (neg = true ∧ chA a pos = [48])), Q (.d (rdF (match natP a pos 6 with | .error e => (.error e : Rd ((Int × Int) × Nat)) | .ok e => if chA a e = [47] then match natP a (e + 1) 6 with | .error e2 => .error e2 | .ok l => .ok (((if neg then 0 - (valP (subL a pos e) : Int) else (valP (subL a pos e) : Int)), (if valP (subL a (e + 1) l) = 1 then 0 else (valP (subL a (e + 1) l) : Int))), l) else .ok (((if neg then 0 - (valP (subL a pos e) : Int) else (valP (subL a pos e) : Int)), 1), e)))) := fun hn => by
      rw [if_neg hn] at k
      exact k
    walk_at "wx"
    refine w_cutI (fun cs sl => ¬ (neg = true ∧ chA a pos = [48]) ∧ cs = [] ∧ sl = [some (.d (.str (S a))), some (.d (dn pos)), some (.d (.bl neg)), none, none, none, none, none]) ?_ ?_
    · walk_at "wx"
      cases neg with
      | false =>
        walk_at "wx"
        exact ⟨_, ⟨fun z => absurd z.1 Bool.false_ne_true, rfl, rfl⟩, by simp [SlLe]⟩
      | true =>
        walk_at "wx"
        refine ⟨a, pos, rfl, by omega, ?_⟩
        walk_at "wx"
        rw [show ("0" : Str) = S [48] from by decide +kernel]
        refine y_ite (fun c1 => ?_) fun c1 => ?_
        · have c1 : chA a pos = [48] := SX.S_inj (b := [48]) c1
          rw [if_pos ⟨rfl, c1⟩] at k
          walk_at "wx"
          exact k
        · walk_at "wx"
          exact ⟨_, ⟨fun z => c1 (by rw [z.2]), rfl, rfl⟩, by simp [SlLe]⟩
    rintro cs1 sl1 ⟨hn, rfl, rfl⟩
    have k := rest hn
    clear rest
    walk_at "wx"
    refine ⟨a, pos, 6, rfl, by omega, ?_⟩
    cases hE : natP a pos 6 with
    | error e =>
      rw [hE] at k
      rw [rdB_er]
      walk_at "wx"
      exact k
    | ok e =>
      rw [hE] at k
      rw [rdB_ok]
      obtain ⟨n1, n2, n3, n4, n5⟩ := natP_ok hE
      obtain ⟨i1, i2⟩ := int_sub n4 n5 hl
      walk_at "wx"
      refine l_str (by rw [S_len]; omega) ?_
      rw [slice_mid a (Nat.le_of_lt n1)]
      walk_at "wx"
      refine o_intS i1 i2 ?_
      walk_at "wx"
      obtain ⟨ab, hab⟩ : ∃ ab : Int, (if neg then 0 - (valP (subL a pos e) : Int) else (valP (subL a pos e) : Int)) = ab := ⟨_, rfl⟩
      refine w_cutF [] [some (.d (.str (S a))), some (.d (dn pos)), some (.d (.bl neg)), some (.d (dn e)), none, some (.d (.int ab)), none, none] ?_ ?_
      · walk_at "wx"
        cases neg with
        | false =>
          walk_at "wx"
          exact ⟨rfl, by rw [← hab]; simp [SlLe]⟩
        | true =>
          walk_at "wx"
          exact ⟨rfl, by rw [← hab]; simp [SlLe]⟩
      simp only [hab] at k
      walk_at "wx"
      refine ⟨a, e, rfl, by omega, ?_⟩
      walk_at "wx"
      rw [show ("/" : Str) = S [47] from by decide +kernel]
      refine y_iteN (fun c2 => ?_) fun c2 => ?_
      · simp only [if_neg (show ¬ chA a e = [47] from fun z => c2 (by rw [z]))] at k
        walk_at "wx"
        exact k
      · have c2 : chA a e = [47] := SX.S_inj (b := [47]) c2
        simp only [if_pos c2] at k
        walk_at "wx"
        refine ⟨a, e + 1, 6, rfl, by omega, ?_⟩
        cases hL : natP a (e + 1) 6 with
        | error e2 =>
          rw [hL] at k
          rw [rdB_er]
          walk_at "wx"
          exact k
        | ok l =>
          rw [hL] at k
          rw [rdB_ok]
          obtain ⟨q1, q2, q3, q4, q5⟩ := natP_ok hL
          obtain ⟨j1, j2⟩ := int_sub q4 q5 hl
          walk_at "wx"
          refine l_str (by rw [S_len]; omega) ?_
          rw [show ((e : Int) + 1) = ((e + 1 : Nat) : Int) from rfl, slice_mid a (Nat.le_of_lt q1)]
          walk_at "wx"
          refine o_intS j1 j2 ?_
          walk_at "wx"
          refine y_iteN (fun c3 => ?_) fun c3 => ?_
          · walk_at "wx"
            simp only [if_neg (show ¬ valP (subL a (e + 1) l) = 1 from fun z => c3 (by rw [z]; rfl))] at k
            exact k
          · walk_at "wx"
            simp only [if_pos (show valP (subL a (e + 1) l) = 1 by omega)] at k
            exact k
def dCellDue : DSp := fun ds Q _ => ∃ (a : List Nat) (p : Nat), ds = [.str (S a), dn p] ∧ isP p ∧ a.length ≤ 600 ∧ Q (.d (rdD2 (cellB a p)))
theorem ok_cell_due (T : Txt K mg) : Ok P w K mg base 4 T.cell_due (liftP K T.mC dCellDue) := by
  refine ok_P T.cell_due sc_cell_due (fun ds Q E h => ?_) fun cdv A outer s H E ds Q Ed fr hr h he => ?_
  · obtain ⟨a, p, rfl, _⟩ := h
    rfl
  · obtain ⟨a, p, rfl, hp, hl, k⟩ := h
    have hp2 := hp.pos
    unfold cellB cellP at k
    refine ⟨_, ((pss_cons (ps_if (PW.pt (pw_or (pt_cmpR (op_sEq hr.units) (pcall T.at_ (ok_at_ T) (hr.mono (by omega)) passE (pa_cons (pv 0) (pa_cons pe_int pa_nil))) pe_str (nomark _)) (pw_or1 (pt_cmpR op_sNotIn (pcall T.at_ (ok_at_ T) (hr.mono (by omega)) passE (pa_cons (pv 0) (pa_cons pe_int pa_nil))) (pe_slice sl_s pe_str po_none (po_some (pv 1))) (by rfl)))))
  (pss_one (ps_ret (pe_tup (pa_cons pe_int (pa_cons pe_non pa_nil)))))
  pss_nil)
  (pss_cons (ps_par (i := 2) (j := 3) (by rfl) sc_cell_due.nd rfl rfl (by decide) rfl rfl (pa_cons pe_int (pa_cons (pown (pe_lst pa_nil)) pa_nil)) (by rfl))
  (pss_cons (ps_for ownE rfl (pi_range1 (by rfl) T.b_range (pa_cons (pv 1) pa_nil)) (pg_name (i := 4) sc_cell_due.nd rfl (by first | exact Or.inl rfl | exact Or.inr rfl))
  (pss_cons (ps_asg (pcall T.word (ok_word T) (hr.mono (by omega)) passE (pa_cons (pv 0) (pa_cons (pv 2) (pa_cons (pe_ifExp (pt_cmpR (op_sEq hr.units) (pv 4) pe_int (nomark _)) pe_str pe_str) pa_nil)))) (pg_tup rfl (pgs_cons (pg_name (i := 2) sc_cell_due.nd rfl (by first | exact Or.inl rfl | exact Or.inr rfl)) (pgs_cons (pg_name (i := 5) sc_cell_due.nd rfl (by first | exact Or.inl rfl | exact Or.inr rfl)) pgs_nil))))
  (pss_cons (ps_asg (pe_ifExp (pt_val (pv 5)) (pcall T.reference (ok_reference T) (hr.mono (by omega)) passE (pa_cons (pv 0) (pa_cons (pv 2) pa_nil))) (pe_tup (pa_cons (pv 2) (pa_cons pe_bl pa_nil)))) (pg_tup rfl (pgs_cons (pg_name (i := 6) sc_cell_due.nd rfl (by first | exact Or.inl rfl | exact Or.inr rfl)) (pgs_cons (pg_name (i := 7) sc_cell_due.nd rfl (by first | exact Or.inl rfl | exact Or.inr rfl)) pgs_nil))))
  (pss_cons (ps_if (pt_not (pt_val (pv 7)))
  (pss_one (ps_ret (pe_tup (pa_cons (pv 6) (pa_cons pe_non pa_nil)))))
  pss_nil)
  (pss_cons (ps_expr (pe_bm PySem.F.plainAttrs_list PySem.F.slot_list_append PySem.F.type_list_append mt_append (pv 3) (pa_cons (pe_slice sl_s (pv 0) (po_some (pv 2)) (po_some (pv 6))) pa_nil)))
  (pss_one (ps_set (i := 2) sc_cell_due.nd rfl (by first | exact Or.inl rfl | exact Or.inr rfl) (pv 6))))))))
  (pss_cons (ps_asg (pcall T.word (ok_word T) (hr.mono (by omega)) passE (pa_cons (pv 0) (pa_cons (pv 2) (pa_cons pe_str pa_nil)))) (pg_tup rfl (pgs_cons (pg_name (i := 2) sc_cell_due.nd rfl (by first | exact Or.inl rfl | exact Or.inr rfl)) (pgs_cons (pg_name (i := 5) sc_cell_due.nd rfl (by first | exact Or.inl rfl | exact Or.inr rfl)) pgs_nil))))
  (pss_one (ps_ret (pe_tup (pa_cons (pv 2) (pa_cons (pe_ifExp (pt_val (pv 5)) (pe_tup (pa_cons pe_str (pa_cons (pe_callTy call_sInt (by rfl) T.b_int (by decide +kernel) (pa_cons (pe_ix ix_s (pv 0) pe_int (fun _ _ => rfl)) pa_nil)) (pa_cons (pe_callTy call_sTuple (by rfl) T.b_tuple (by decide +kernel) (pa_cons (pv 3) pa_nil)) pa_nil)))) pe_non) pa_nil)))))))))), ?_⟩
    show wS _ _ [] [some (.d (.str (S a))), some (.d (dn p)), none, none, none, none, none, none] [] _
    try dsimp only [L2.cxOf]
    walk_at "wx"
    refine ⟨a, 1, rfl, by omega, ?_⟩
    walk_at "wx"
    rw [show ("" : Str) = S [] from rfl]
    refine y_ite (fun c1 => ?_) fun c1 => ?_
    · have c1 : chA a 1 = [] := SX.S_inj (b := []) c1
      have hn : a[1]? = none := by
        cases h : a[1]? with
        | none => rfl
        | some c => rw [chA_some h] at c1; cases c1
      rw [hn] at k
      walk_at "wx"
      exact k
    obtain ⟨c, hc⟩ : ∃ c, a[1]? = some c := by
      cases h : a[1]? with
      | none => exact absurd (by rw [chA_none (List.getElem?_eq_none_iff.mp h)]) c1
      | some c => exact ⟨c, rfl⟩
    rw [hc] at k
    simp only at k
    walk_at "wx"
    refine ⟨a, 1, rfl, by omega, ?_⟩
    walk_at "wx"
    refine l_str (by decide) ?_
    rw [show ("01234" : Str) = S [48, 49, 50, 51, 52] from by decide +kernel, SX.slice_to (by omega), Int.toNat_natCast, chA_some hc, show [48, 49, 50, 51, 52].take p = DEC.take p by rcases hp with rfl | rfl | rfl <;> rfl]
    walk_at "wx"
    rw [show (S (DEC.take p)).cps.toList = DEC.take p from rfl]
    refine y_iteN (fun c2 => ?_) fun c2 => ?_
    · rw [if_neg c2] at k
      walk_at "wx"
      exact k
    rw [if_pos c2] at k
    have hcd : c ∈ DEC := List.mem_of_mem_take c2
    walk_at "wx"
    refine rg (by omega) ?_
    rw [Int.toNat_natCast]
    refine for_k (fun i cs sl => i ≤ p ∧ ∃ (pos : Nat) (refs : List (List Nat)) (u v x y : Option Sd), cellGo a (cellW p) 2 [] = cellGo a ((cellW p).drop i) pos refs ∧ refs.length = i ∧ cs = [some (.lst (refs.map fun r => D.str (S r)))] ∧ sl = [some (.d (.str (S a))), some (.d (dn p)), some (.d (dn pos)), some (.c 0), u, v, x, y]) ⟨Nat.zero_le _, 2, [], none, none, none, none, rfl, rfl, rfl, rfl⟩ ?_ ?_
    · rintro i x cs2 sl2 st2 hx ⟨hi, pos, refs, u, v, z, y, hgo, hlr, rfl, rfl⟩
      obtain ⟨hi2, rfl⟩ : i < p ∧ x = dn i := by
        have h := List.getElem?_eq_some_iff.mp hx
        obtain ⟨h1, h2⟩ := h
        rw [List.length_map, List.length_range] at h1
        exact ⟨h1, by rw [← h2]; simp⟩
      obtain ⟨hwd, hwl⟩ := cellW_at hp hi2
      obtain ⟨hwl2, hwv⟩ := List.getElem?_eq_some_iff.mp hwd
      rw [List.drop_eq_getElem_cons hwl2, hwv] at hgo
      obtain ⟨wd, hwd2⟩ : ∃ wd : List Nat, (if i = 0 then [58, 32] else [44, 32]) = wd := ⟨_, rfl⟩
      rw [hwd2] at hgo
      have hwdl : wd.length ≤ 1000 := by
        rw [← hwd2]
        split <;> decide
      have hgo : cellGo a (cellW p) 2 [] = match expP a pos wd with | .error e => .error e | .ok p1 => match scanP a p1 LET 6 with | .error e => .error e | .ok e => cellGo a ((cellW p).drop (i + 1)) e (refs ++ [subL a p1 e]) := hgo
      have body : ∀ u : Option Sd, True := fun _ => trivial
      walk_at "wx"
      refine y_ite (fun d1 => ?_) fun d1 => ?_
      · rw [if_pos (by omega)] at hwd2
        subst hwd2
        walk_at "wx"
        rw [show (": " : Str) = S [58, 32] from by decide +kernel]
        refine ⟨a, [58, 32], pos, rfl, by omega, by decide, ?_⟩
        cases h1 : expP a pos [58, 32] with
        | error e =>
          rw [hgo] at k
          simp only [h1] at k
          rw [rdB_er]
          walk_at "wx"
          exact k
        | ok p1 =>
          simp only [h1] at hgo
          rw [rdB_ok]
          walk_at "wx"
          refine ⟨a, p1, rfl, by omega, ?_⟩
          cases h2 : scanP a p1 LET 6 with
          | error e =>
            rw [hgo] at k
            simp only [h2] at k
            rw [rdB_er]
            walk_at "wx"
            exact k
          | ok e =>
            simp only [h2] at hgo
            obtain ⟨q1, q2, q3, q4, q5⟩ := scanP_ok h2
            rw [rdB_ok]
            walk_at "wx"
            refine l_str (by rw [S_len]; omega) ?_
            rw [slice_mid a (Nat.le_of_lt q1)]
            walk_at "wx"
            refine m_append ?_ (by rw [List.length_map]; omega) rfl rfl
            walk_at "wx"
            exact ⟨by omega, e, refs ++ [subL a p1 e], _, _, _, _, hgo, by rw [List.length_append, hlr]; rfl, by rw [List.map_append]; rfl, rfl⟩
      · rw [if_neg (by omega)] at hwd2
        subst hwd2
        walk_at "wx"
        rw [show (", " : Str) = S [44, 32] from by decide +kernel]
        refine ⟨a, [44, 32], pos, rfl, by omega, by decide, ?_⟩
        cases h1 : expP a pos [44, 32] with
        | error e =>
          rw [hgo] at k
          simp only [h1] at k
          rw [rdB_er]
          walk_at "wx"
          exact k
        | ok p1 =>
          simp only [h1] at hgo
          rw [rdB_ok]
          walk_at "wx"
          refine ⟨a, p1, rfl, by omega, ?_⟩
          cases h2 : scanP a p1 LET 6 with
          | error e =>
            rw [hgo] at k
            simp only [h2] at k
            rw [rdB_er]
            walk_at "wx"
            exact k
          | ok e =>
            simp only [h2] at hgo
            obtain ⟨q1, q2, q3, q4, q5⟩ := scanP_ok h2
            rw [rdB_ok]
            walk_at "wx"
            refine l_str (by rw [S_len]; omega) ?_
            rw [slice_mid a (Nat.le_of_lt q1)]
            walk_at "wx"
            refine m_append ?_ (by rw [List.length_map]; omega) rfl rfl
            walk_at "wx"
            exact ⟨by omega, e, refs ++ [subL a p1 e], _, _, _, _, hgo, by rw [List.length_append, hlr]; rfl, by rw [List.map_append]; rfl, rfl⟩
    · rintro cs2 sl2 ⟨hi, pos, refs, u, v, z, y, hgo, hlr, rfl, rfl⟩
      have hpl : (cellW p).length = p := (cellW_at hp (show 0 < p by omega)).2
      rw [List.length_map, List.length_range] at hgo
      rw [List.drop_of_length_le (by omega)] at hgo
      have hgo : cellGo a (cellW p) 2 [] = .ok (refs, pos) := hgo
      rw [hgo] at k
      simp only at k
      walk_at "wx"
      rw [show ("]" : Str) = S [93] from by decide +kernel]
      refine ⟨a, [93], pos, rfl, by omega, by decide, ?_⟩
      cases h1 : expP a pos [93] with
      | error e =>
        simp only [h1] at k
        rw [rdB_er]
        walk_at "wx"
        exact k
      | ok e =>
        simp only [h1] at k
        rw [rdB_ok]
        walk_at "wx"
        refine o_ixS (c := c) (by rw [S_len]; omega) (atI_nat hc) ?_
        walk_at "wx"
        have hv : valP [c] = c - 48 := by
          show 0 * 10 + (c - 48) = c - 48
          omega
        have hci : PySem.intText? (S [c]) = some ((c - 48 : Nat) : Int) := by
          have := SX.int_S (a := [c]) (by rw [List.all_cons]; show (isDig c && true) = true; rw [dec_dig hcd]; rfl) (List.cons_ne_nil _ _) (Nat.le_of_ble_eq_true rfl)
          rw [this, ← hv]
          rfl
        refine o_intS hci (by show 1 ≤ 640; decide) ?_
        walk_at "wx"
        exact k
def dLinDue : DSp := fun ds Q _ => ∃ (a : List Nat), ds = [.str (S a)] ∧ a.length ≤ 600 ∧ Q (.d (rdD2 (linB2 a)))
theorem ok_linear_due (T : Txt K mg) : Ok P w K mg base 5 T.linear_due (liftP K T.mC dLinDue) := by
  refine ok_P T.linear_due sc_linear_due (fun ds Q E h => ?_) fun cdv A outer s H E ds Q Ed fr hr h he => ?_
  · obtain ⟨a, rfl, _⟩ := h
    rfl
  · obtain ⟨a, rfl, hl, k⟩ := h
    unfold linB2 linP at k
    refine ⟨_, ((pss_cons (ps_set (i := 1) sc_linear_due.nd rfl (by first | exact Or.inl rfl | exact Or.inr rfl) (pe_cmpR (op_sEq hr.units) (pcall T.at_ (ok_at_ T) (hr.mono (by omega)) passE (pa_cons (pv 0) (pa_cons pe_int pa_nil))) pe_str (nomark _)))
  (pss_cons (ps_asg (pcall T.pair_of (ok_pair_of T) (hr.mono (by omega)) passE (pa_cons (pv 0) (pa_cons (pe_op op_sAdd pe_int (pe_callTy call_sInt (by rfl) T.b_int (by decide +kernel) (pa_cons (pv 1) pa_nil))) (pa_cons (pv 1) pa_nil)))) (pg_tup rfl (pgs_cons (pg_name (i := 2) sc_linear_due.nd rfl (by first | exact Or.inl rfl | exact Or.inr rfl)) (pgs_cons (pg_name (i := 3) sc_linear_due.nd rfl (by first | exact Or.inl rfl | exact Or.inr rfl)) (pgs_cons (pg_name (i := 4) sc_linear_due.nd rfl (by first | exact Or.inl rfl | exact Or.inr rfl)) pgs_nil)))))
  (pss_cons (ps_if (pt_val (pv 3))
  (pss_one (ps_asg (pcall T.word (ok_word T) (hr.mono (by omega)) passE (pa_cons (pv 0) (pa_cons (pv 2) (pa_cons pe_str pa_nil)))) (pg_tup rfl (pgs_cons (pg_name (i := 2) sc_linear_due.nd rfl (by first | exact Or.inl rfl | exact Or.inr rfl)) (pgs_cons (pg_name (i := 3) sc_linear_due.nd rfl (by first | exact Or.inl rfl | exact Or.inr rfl)) pgs_nil)))))
  pss_nil)
  (pss_cons (ps_if (PW.pt (pw_and (pt_val (pv 3)) (pw_and1 (pt_cmpR op_sNotIn (pcall T.at_ (ok_at_ T) (hr.mono (by omega)) passE (pa_cons (pv 0) (pa_cons (pv 2) pa_nil))) (pe_tup (pa_cons pe_str (pa_cons pe_str pa_nil))) (by rfl)))))
  (pss_one (ps_set (i := 3) sc_linear_due.nd rfl (by first | exact Or.inl rfl | exact Or.inr rfl) pe_bl))
  pss_nil)
  (pss_cons (ps_if (pt_not (pt_val (pv 3)))
  (pss_one (ps_ret (pe_tup (pa_cons (pv 2) (pa_cons pe_non pa_nil)))))
  pss_nil)
  (pss_cons (ps_asg (pcall T.pair_of (ok_pair_of T) (hr.mono (by omega)) passE (pa_cons (pv 0) (pa_cons (pe_op op_sAdd (pv 2) pe_int) (pa_cons (pe_cmpR (op_sEq hr.units) (pe_ix ix_s (pv 0) (pv 2) (fun _ _ => rfl)) pe_str (nomark _)) pa_nil)))) (pg_tup rfl (pgs_cons (pg_name (i := 5) sc_linear_due.nd rfl (by first | exact Or.inl rfl | exact Or.inr rfl)) (pgs_cons (pg_name (i := 3) sc_linear_due.nd rfl (by first | exact Or.inl rfl | exact Or.inr rfl)) (pgs_cons (pg_name (i := 6) sc_linear_due.nd rfl (by first | exact Or.inl rfl | exact Or.inr rfl)) pgs_nil)))))
  (pss_cons (ps_if (pt_val (pv 3))
  (pss_one (ps_asg (pcall T.word (ok_word T) (hr.mono (by omega)) passE (pa_cons (pv 0) (pa_cons (pv 5) (pa_cons pe_str pa_nil)))) (pg_tup rfl (pgs_cons (pg_name (i := 5) sc_linear_due.nd rfl (by first | exact Or.inl rfl | exact Or.inr rfl)) (pgs_cons (pg_name (i := 3) sc_linear_due.nd rfl (by first | exact Or.inl rfl | exact Or.inr rfl)) pgs_nil)))))
  pss_nil)
  (pss_one (ps_ret (pe_tup (pa_cons (pv 5) (pa_cons (pe_ifExp (pt_val (pv 3)) (pe_tup (pa_cons pe_str (pa_cons (pv 4) (pa_cons (pv 6) pa_nil)))) pe_non) pa_nil))))))))))))), ?_⟩
    show wS _ _ [] [some (.d (.str (S a))), none, none, none, none, none, none] [] _
    try dsimp only [L2.cxOf]
    walk_at "wx"
    refine ⟨a, 1, rfl, by omega, ?_⟩
    walk_at "wx"
    rw [show ("-" : Str) = S [45] from by decide +kernel, S_dec]
    obtain ⟨ng, hng⟩ : ∃ ng, decide (chA a 1 = [45]) = ng := ⟨_, rfl⟩
    rw [hng] at k ⊢
    rw [show (1 + if ng = true then (1 : Int) else 0) = ((1 + ng.toNat : Nat) : Int) by cases ng <;> rfl]
    refine ⟨a, 1 + ng.toNat, ng, rfl, hl, ?_⟩
    cases h1 : fracP a (1 + ng.toNat) ng with
    | error e =>
      simp only [h1] at k
      rw [show rdF (.error e) = D.tup [dn e, .bl false, .non] from rfl]
      walk_at "wx"
      exact k
    | ok r =>
    obtain ⟨f, p1⟩ := r
    simp only [h1] at k
    rw [show rdF (.ok (f, p1)) = D.tup [dn p1, .bl true, frD f] from rfl]
    walk_at "wx"
    rw [show ("*x" : Str) = S [42, 120] from by decide +kernel]
    refine ⟨a, [42, 120], p1, rfl, by omega, by decide, ?_⟩
    cases h2 : expP a p1 [42, 120] with
    | error e =>
      simp only [h2] at k
      rw [rdB_er]
      walk_at "wx"
      exact k
    | ok p2 =>
    simp only [h2] at k
    rw [rdB_ok]
    walk_at "wx"
    refine ⟨a, p2, rfl, by omega, ?_⟩
    walk_at "wx"
    refine o_ninST (ns := ["+", "-"]) ?_ rfl
    walk_at "wx"
    have hmem : S (chA a p2) ∈ (["+", "-"] : List Str) ↔ (chA a p2 = [43] ∨ chA a p2 = [45]) := by
      rw [show (["+", "-"] : List Str) = [S [43], S [45]] from by decide +kernel, List.mem_cons, List.mem_singleton]
      exact ⟨fun h => h.elim (fun h => .inl (SX.S_inj h)) fun h => .inr (SX.S_inj h), fun h => h.elim (fun h => .inl (by rw [h])) fun h => .inr (by rw [h])⟩
    refine y_iteN (fun c1 => ?_) fun c1 => ?_
    · simp only [if_neg (fun z => c1 (hmem.mpr z))] at k
      walk_at "wx"
      exact k
    have c2 := hmem.mp c1
    simp only [if_pos c2] at k
    obtain ⟨c, hc⟩ : ∃ c, a[p2]? = some c := by
      rcases c2 with c2 | c2
      · exact ⟨_, chA_iff.mp c2⟩
      · exact ⟨_, chA_iff.mp c2⟩
    walk_at "wx"
    refine o_ixS (c := c) (by rw [S_len]; omega) (atI_nat hc) ?_
    walk_at "wx"
    rw [show decide ((⟨#[c]⟩ : Str) = S [45]) = decide (chA a p2 = [45]) by rw [chA_some hc]; exact S_dec (l := [c])]
    refine ⟨a, p2 + 1, decide (chA a p2 = [45]), rfl, hl, ?_⟩
    cases h3 : fracP a (p2 + 1) (decide (chA a p2 = [45])) with
    | error e =>
      simp only [h3] at k
      rw [show rdF (.error e) = D.tup [dn e, .bl false, .non] from rfl]
      walk_at "wx"
      exact k
    | ok r =>
    obtain ⟨o, p3⟩ := r
    simp only [h3] at k
    rw [show rdF (.ok (o, p3)) = D.tup [dn p3, .bl true, frD o] from rfl]
    walk_at "wx"
    rw [show ("}" : Str) = S [125] from by decide +kernel]
    refine ⟨a, [125], p3, rfl, by omega, by decide, ?_⟩
    cases h4 : expP a p3 [125] with
    | error e =>
      simp only [h4] at k
      rw [rdB_er]
      walk_at "wx"
      exact k
    | ok p4 =>
    simp only [h4] at k
    rw [rdB_ok]
    walk_at "wx"
    exact k
end
end R

/-! # HB3: the law's own reader: product_due, due -/
namespace R
open PySem PySem.Spec PyProof.Rows L2 L2H LamX
open SX (S S_len S_cat)
def endP (r : Rd (Defn × Nat)) : Nat := match r with
  | .ok (_, e) => e
  | .error e => e
def whatP (r : Rd (Defn × Nat)) : D := match r with
  | .ok (d, _) => d.d
  | .error _ => .non
theorem rdD2_eq (r : Rd (Defn × Nat)) : rdD2 r = .tup [dn (endP r), whatP r] := by
  cases r with
  | error e => rfl
  | ok x => rfl
/-- what the law says of a text -/
def dueD (a : List Nat) (p : Nat) : D := match defP a p with
  | .error e => .tup [.str "InvalidText", dn e]
  | .ok d => match d with
    | .lin f o => if isLin f o p = true then .tup [.str "", (Defn.lin f o).d] else .tup [.str "InvalidFraction", .non]
    | d => .tup [.str "", d.d]
section
variable {P : Program} {w : World} {K : PySem.W.Frag} {mg : Str → Option Value} {base : Heap}
def dProdDue : DSp := fun ds Q _ => ∃ (a : List Nat), ds = [.str (S a)] ∧ a.length ≤ 600 ∧ Q (.d (rdD2 (prodB a)))
theorem ok_product_due (T : Txt K mg) : Ok P w K mg base 4 T.product_due (liftP K T.mC dProdDue) := by
  refine ok_P T.product_due sc_product_due (fun ds Q E h => ?_) fun cdv A outer s H E ds Q Ed fr hr h he => ?_
  · obtain ⟨a, rfl, _⟩ := h
    rfl
  · obtain ⟨a, rfl, hl, k⟩ := h
    have ker : ∀ e, prodP a = .error e → Q (.d (.tup [dn e, .non])) := fun e hE => by
      unfold prodB at k
      simp only [hE] at k
      exact k
    have kok : ∀ fs e, prodP a = .ok (fs, e) → Q (.d (.tup [dn e, (Defn.prod fs).d])) := fun fs e hE => by
      unfold prodB at k
      simp only [hE] at k
      exact k
    clear k
    refine ⟨_, ((pss_cons (ps_par (i := 1) (j := 2) (by rfl) sc_product_due.nd rfl rfl (by decide) rfl rfl (pa_cons pe_int (pa_cons (pown (pe_lst pa_nil)) pa_nil)) (by rfl))
  (pss_one (ps_while ownE (pt_val pe_bl)
  (pss_cons (ps_asg (pcall T.reference (ok_reference T) (hr.mono (by omega)) passE (pa_cons (pv 0) (pa_cons (pv 1) pa_nil))) (pg_tup rfl (pgs_cons (pg_name (i := 3) sc_product_due.nd rfl (by first | exact Or.inl rfl | exact Or.inr rfl)) (pgs_cons (pg_name (i := 4) sc_product_due.nd rfl (by first | exact Or.inl rfl | exact Or.inr rfl)) pgs_nil))))
  (pss_cons (ps_if (pt_not (pt_val (pv 4)))
  (pss_one (ps_ret (pe_tup (pa_cons (pv 3) (pa_cons pe_non pa_nil)))))
  pss_nil)
  (pss_cons (ps_par3 (i := 5) (j := 6) (l := 1) (by rfl) sc_product_due.nd rfl rfl rfl (by decide) (by decide) (by decide) rfl rfl rfl (pa_cons (pe_slice sl_s (pv 0) (po_some (pv 1)) (po_some (pv 3))) (pa_cons pe_int (pa_cons (pv 3) pa_nil))) (by rfl))
  (C8.pss_cut (ps_if (pt_cmpR (op_sEq hr.units) (pcall T.at_ (ok_at_ T) (hr.mono (by omega)) passE (pa_cons (pv 0) (pa_cons (pv 1) pa_nil))) pe_str (nomark _))
  (pss_cons (ps_set (i := 7) sc_product_due.nd rfl (by first | exact Or.inl rfl | exact Or.inr rfl) (pe_op op_sAdd (pe_op op_sAdd (pv 1) pe_int) (pe_callTy call_sInt (by rfl) T.b_int (by decide +kernel) (pa_cons (pe_cmpR (op_sEq hr.units) (pcall T.at_ (ok_at_ T) (hr.mono (by omega)) passE (pa_cons (pv 0) (pa_cons (pe_op op_sAdd (pv 1) pe_int) pa_nil))) pe_str (nomark _)) pa_nil))))
  (pss_cons (ps_set (i := 3) sc_product_due.nd rfl (by first | exact Or.inl rfl | exact Or.inr rfl) (pcall T.skip (ok_skip T) (hr.mono (by omega)) passE (pa_cons (pv 0) (pa_cons (pv 7) (pa_cons pe_str (pa_cons pe_int pa_nil))))))
  (pss_cons (ps_if (PW.pt (pw_or (pt_cmpR (op_sEq hr.units) (pv 3) (pv 7) (nomark _)) (pw_or1 (pt_cmpR (op_sEq hr.units) (pe_ix ix_s (pv 0) (pv 7) (fun _ _ => rfl)) pe_str (nomark _)))))
  (pss_one (ps_ret (pe_tup (pa_cons (pv 7) (pa_cons pe_non pa_nil)))))
  pss_nil)
  (pss_cons (ps_if (pt_cmpR (op_sEq hr.units) (pe_slice sl_s (pv 0) (po_some (pe_op op_sAdd (pv 1) pe_int)) (po_some (pv 3))) pe_str (nomark _))
  (pss_one (ps_ret (pe_tup (pa_cons (pv 3) (pa_cons pe_non pa_nil)))))
  pss_nil)
  (pss_one (ps_par (i := 6) (j := 1) (by rfl) sc_product_due.nd rfl rfl (by decide) rfl rfl (pa_cons (pe_callTy call_sInt (by rfl) T.b_int (by decide +kernel) (pa_cons (pe_slice sl_s (pv 0) (po_some (pe_op op_sAdd (pv 1) pe_int)) (po_some (pv 3))) pa_nil)) (pa_cons (pv 3) pa_nil)) (by rfl)))))))
  pss_nil)
  (pss_cons (ps_expr (pe_bm PySem.F.plainAttrs_list PySem.F.slot_list_append PySem.F.type_list_append mt_append (pv 2) (pa_cons (pe_tup (pa_cons (pv 5) (pa_cons (pv 6) pa_nil))) pa_nil)))
  (pss_cons (ps_if (PW.pt (pw_or (pt_cmpR (op_sEq hr.units) (pe_callB call_sLen (by rfl) T.b_len (by decide +kernel) (pa_cons (pv 2) pa_nil)) pe_int (nomark _)) (pw_or1 (pt_cmpR (op_sNe hr.units) (pcall T.at_ (ok_at_ T) (hr.mono (by omega)) passE (pa_cons (pv 0) (pa_cons (pv 1) pa_nil))) pe_str (nomark _)))))
  (pss_one (ps_ret (pe_tup (pa_cons (pv 1) (pa_cons (pe_tup (pa_cons pe_str (pa_cons (pe_callTy call_sTuple (by rfl) T.b_tuple (by decide +kernel) (pa_cons (pv 2) pa_nil)) pa_nil))) pa_nil)))))
  pss_nil)
  (pss_one (ps_set (i := 1) sc_product_due.nd rfl (by first | exact Or.inl rfl | exact Or.inr rfl) (pe_op op_sAdd (pv 1) pe_int))))))))))))), ?_⟩
    show wS _ _ [] [some (.d (.str (S a))), none, none, none, none, none, none, none] [] _
    try dsimp only [L2.cxOf]
    walk_at "wx"
    refine w_while (fun m cs sl => ∃ (pos : Nat) (fs : List (List Nat × Int)) (b1 b2 b3 b4 b5 : Option Sd), fs.length + (m + 1) = 12 ∧ prodGo a (m + 1) pos fs = prodP a ∧ cs = [some (.lst (fs.map facD))] ∧ sl = [some (.d (.str (S a))), some (.d (dn pos)), some (.c 0), b1, b2, b3, b4, b5]) 11 ⟨0, [], none, none, none, none, none, rfl, rfl, rfl, rfl⟩ ?_
    rintro m cs1 sl1 ⟨pos, fs, b1, b2, b3, b4, b5, hm, hgo, rfl, rfl⟩
    unfold prodGo at hgo
    walk_at "wx"
    refine ⟨a, pos, rfl, by omega, ?_⟩
    cases hE : scanP a pos LET 6 with
    | error e =>
      simp only [hE] at hgo
      rw [rdB_er]
      walk_at "wx"
      exact ker e hgo.symm
    | ok e =>
    simp only [hE] at hgo
    obtain ⟨q1, q2, q3, q4, q5⟩ := scanP_ok hE
    rw [rdB_ok]
    walk_at "wx"
    refine l_str (by rw [S_len]; omega) ?_
    rw [slice_mid a (Nat.le_of_lt q1)]
    walk_at "wx"
    refine w_cutI (fun cs sl => ∃ (x : Int) (p2 : Nat), expoP a e = .ok (x, p2) ∧ cs = [some (.lst (fs.map facD))] ∧ sl = [some (.d (.str (S a))), some (.d (dn p2)), some (.c 0), none, none, some (.d (.str (S (subL a pos e)))), some (.d (.int x)), none]) ?_ ?_
    · walk_at "wx"
      refine ⟨a, e, rfl, by omega, ?_⟩
      walk_at "wx"
      have hx : expoP a e = if chA a e = [94] then if chA a (e + 1 + (decide (chA a (e + 1) = [45])).toNat) = [48] then .error (e + 1 + (decide (chA a (e + 1) = [45])).toNat) else match scanP a (e + 1 + (decide (chA a (e + 1) = [45])).toNat) DEC 30 with | .error e => .error e | .ok e2 => if subL a (e + 1) e2 = [49] then .error e2 else .ok (sgnP (subL a (e + 1) e2), e2) else .ok (1, e) := rfl
      rw [show ("^" : Str) = S [94] from by decide +kernel]
      refine y_ite (fun c1 => ?_) fun c1 => ?_
      · have c1 : chA a e = [94] := SX.S_inj (b := [94]) c1
        rw [if_pos c1] at hx
        walk_at "wx"
        refine ⟨a, e + 1, rfl, by omega, ?_⟩
        walk_at "wx"
        rw [show ("-" : Str) = S [45] from by decide +kernel, S_dec]
        obtain ⟨ng, hng⟩ : ∃ ng, decide (chA a (e + 1) = [45]) = ng := ⟨_, rfl⟩
        rw [hng] at hx ⊢
        rw [show ((e : Int) + 1 + if ng = true then (1 : Int) else 0) = ((e + 1 + ng.toNat : Nat) : Int) by cases ng <;> rfl]
        obtain ⟨b, hb⟩ : ∃ b, e + 1 + ng.toNat = b := ⟨_, rfl⟩
        rw [hb] at hx ⊢
        walk_at "wx"
        rw [dec_S]
        refine ⟨a, DEC, b, 30, rfl, by omega, ?_⟩
        have hsc : scanP a b DEC 30 = if runL DEC 30 (a.drop b) = 0 then .error b else .ok (b + runL DEC 30 (a.drop b)) := rfl
        have hle := runL_le DEC 30 (a.drop b)
        rw [List.length_drop] at hle
        generalize hr0 : runL DEC 30 (a.drop b) = r at *
        walk_at "wx"
        refine y_ite (fun c2 => ?_) fun c2 => ?_
        · have c2 : r = 0 := by omega
          rw [if_pos c2] at hsc
          rw [hsc] at hx
          have hx : expoP a e = .error b := by
            rw [hx]
            split <;> rfl
          simp only [hx] at hgo
          walk_at "wx"
          exact ker b hgo.symm
        have c2 : ¬ r = 0 := by omega
        rw [if_neg c2] at hsc
        obtain ⟨c, hc⟩ : ∃ c, a[b]? = some c := ⟨_, List.getElem?_eq_getElem (by omega)⟩
        walk_at "wx"
        refine o_ixS (c := c) (by rw [S_len]; omega) (atI_nat hc) ?_
        walk_at "wx"
        rw [show ("0" : Str) = S [48] from by decide +kernel]
        refine y_ite (fun c3 => ?_) fun c3 => ?_
        · have c3 : [c] = [48] := SX.S_inj (a := [c]) (b := [48]) c3
          rw [if_pos (by rw [chA_some hc]; exact c3)] at hx
          simp only [hx] at hgo
          walk_at "wx"
          exact ker b hgo.symm
        rw [if_neg (fun z => c3 (by rw [chA_some hc] at z; exact congrArg S z))] at hx
        rw [hsc] at hx
        simp only at hx
        obtain ⟨e2, he2⟩ : ∃ e2, b + r = e2 := ⟨_, rfl⟩
        rw [he2] at hx hsc
        obtain ⟨s1, s2, s3, s4, s5⟩ := scanP_ok hsc
        have hpe : e + 1 ≤ e2 := by omega
        have hint := int_sgn (a := a) (i := e + 1) (e := e2) ⟨b, by
          cases ng with
          | false => exact .inl (by rw [← hb]; rfl)
          | true => exact .inr ⟨by rw [← hb]; rfl, chA_iff.mp (of_decide_eq_true hng)⟩, s1, s4, s5⟩ hl
        walk_at "wx"
        refine l_str (by rw [S_len]; omega) ?_
        rw [he2, show ((e : Int) + 1) = ((e + 1 : Nat) : Int) from rfl, slice_mid a hpe]
        walk_at "wx"
        rw [show ("1" : Str) = S [49] from by decide +kernel]
        refine y_ite (fun c4 => ?_) fun c4 => ?_
        · have c4 : subL a (e + 1) e2 = [49] := SX.S_inj (b := [49]) c4
          rw [if_pos c4] at hx
          simp only [hx] at hgo
          walk_at "wx"
          exact ker e2 hgo.symm
        rw [if_neg (fun z => c4 (by rw [z]))] at hx
        walk_at "wx"
        refine l_str (by rw [S_len]; omega) ?_
        rw [show ((e : Int) + 1) = ((e + 1 : Nat) : Int) from rfl, slice_mid a hpe]
        walk_at "wx"
        refine o_intS hint.1 hint.2 ?_
        walk_at "wx"
        exact ⟨_, ⟨_, e2, hx, rfl, rfl⟩, by simp [SlLe]⟩
      · rw [if_neg (fun z => c1 (by rw [z]))] at hx
        walk_at "wx"
        exact ⟨_, ⟨1, e, hx, rfl, rfl⟩, by simp [SlLe]⟩
    rintro cs2 sl2 ⟨x, p2, hx, rfl, rfl⟩
    simp only [hx] at hgo
    walk_at "wx"
    refine m_append ?_ (by rw [List.length_map]; omega) rfl rfl
    rw [show fs.map facD ++ [.tup [.str (S (subL a pos e)), .int x]] = (fs ++ [(subL a pos e, x)]).map facD by rw [List.map_append]; rfl]
    walk_at "wx"
    rw [List.length_map, List.length_append]
    refine y_ite (fun c1 => ?_) fun c1 => ?_
    · have c1 : fs.length + 1 = 12 := by
        have : ((fs.length + 1 : Nat) : Int) = 12 := c1
        omega
      rw [if_pos (.inl (by omega))] at hgo
      walk_at "wx"
      exact kok _ _ hgo.symm
    · have c1 : ¬ fs.length + 1 = 12 := fun z => c1 (by show ((fs.length + 1 : Nat) : Int) = 12; omega)
      walk_at "wx"
      refine ⟨a, p2, rfl, by omega, ?_⟩
      walk_at "wx"
      rw [show (" " : Str) = S [32] from by decide +kernel]
      refine y_iteN (fun c2 => ?_) fun c2 => ?_
      · rw [if_pos (.inr fun z => c2 (by rw [z]))] at hgo
        walk_at "wx"
        exact kok _ _ hgo.symm
      · have c2 : chA a p2 = [32] := SX.S_inj (b := [32]) c2
        rw [if_neg (fun z => z.elim (fun z => by omega) fun z => z c2)] at hgo
        walk_at "wx"
        exact ⟨m - 1, by omega, p2 + 1, fs ++ [(subL a pos e, x)], _, _, _, _, _, by rw [List.length_append]; show fs.length + 1 + _ = 12; omega, by rw [show m - 1 + 1 = m by omega]; exact hgo, rfl, rfl⟩
def dDue : DSp := fun ds Q _ => ∃ (a : List Nat) (p : Nat), ds = [.str (S a), dn p] ∧ isP p ∧ a.length ≤ 600 ∧ Q (.d (dueD a p))
theorem ok_due (T : Txt K mg) : Ok P w K mg base 6 T.due (liftP K T.mC dDue) := by
  refine ok_P T.due sc_due (fun ds Q E h => ?_) fun cdv A outer s H E ds Q Ed fr hr h he => ?_
  · obtain ⟨a, p, rfl, _⟩ := h
    rfl
  · obtain ⟨a, p, rfl, hp, hl, k⟩ := h
    have hp2 := hp.pos
    have hch : a.take 1 = chA a 0 := rfl
    refine ⟨_, ((C8.pss_cut (ps_if (pt_cmpR (op_sEq hr.units) (pe_slice sl_s (pv 0) po_none (po_some pe_int)) pe_str (nomark _))
  (pss_one (ps_asg (pcall T.cell_due (ok_cell_due T) (hr.mono (by omega)) passE (pa_cons (pv 0) (pa_cons (pv 1) pa_nil))) (pg_tup rfl (pgs_cons (pg_name (i := 2) sc_due.nd rfl (by first | exact Or.inl rfl | exact Or.inr rfl)) (pgs_cons (pg_name (i := 3) sc_due.nd rfl (by first | exact Or.inl rfl | exact Or.inr rfl)) pgs_nil)))))
  (pss_one (ps_if (pt_cmpR (op_sEq hr.units) (pe_slice sl_s (pv 0) po_none (po_some pe_int)) pe_str (nomark _))
  (pss_one (ps_asg (pcall T.linear_due (ok_linear_due T) (hr.mono (by omega)) passE (pa_cons (pv 0) pa_nil)) (pg_tup rfl (pgs_cons (pg_name (i := 2) sc_due.nd rfl (by first | exact Or.inl rfl | exact Or.inr rfl)) (pgs_cons (pg_name (i := 3) sc_due.nd rfl (by first | exact Or.inl rfl | exact Or.inr rfl)) pgs_nil)))))
  (pss_one (ps_asg (pcall T.product_due (ok_product_due T) (hr.mono (by omega)) passE (pa_cons (pv 0) pa_nil)) (pg_tup rfl (pgs_cons (pg_name (i := 2) sc_due.nd rfl (by first | exact Or.inl rfl | exact Or.inr rfl)) (pgs_cons (pg_name (i := 3) sc_due.nd rfl (by first | exact Or.inl rfl | exact Or.inr rfl)) pgs_nil))))))))
  (pss_cons (ps_if (PW.pt (pw_or (pt_cmpR op_sIs (pv 3) pe_non (nomark _)) (pw_or1 (pt_cmpR op_sLt (pv 2) (pe_callB call_sLen (by rfl) T.b_len (by decide +kernel) (pa_cons (pv 0) pa_nil)) (nomark _)))))
  (pss_one (ps_ret (pe_tup (pa_cons pe_str (pa_cons (pv 2) pa_nil)))))
  pss_nil)
  (pss_cons (ps_if (PW.pt (pw_and (pt_cmpR (op_sEq hr.units) (pe_ix ix_s (pv 3) pe_int (fun _ _ => rfl)) pe_str (nomark _)) (pw_and1 (pt_not (pt_val (pcall T.allows (ok_allows T) (hr.mono (by omega)) passE (pa_cons (pe_ix ix_s (pv 3) pe_int (fun _ _ => rfl)) (pa_cons (pe_ix ix_s (pv 3) pe_int (fun _ _ => rfl)) (pa_cons (pv 1) pa_nil)))))))))
  (pss_one (ps_ret (pe_tup (pa_cons pe_str (pa_cons pe_non pa_nil)))))
  pss_nil)
  (pss_one (ps_ret (pe_tup (pa_cons pe_str (pa_cons (pv 3) pa_nil))))))))), ?_⟩
    show wS _ _ [] [some (.d (.str (S a))), some (.d (dn p)), none, none] [] _
    try dsimp only [L2.cxOf]
    walk_at "wx"
    refine w_cutF [] [some (.d (.str (S a))), some (.d (dn p)), some (.d (dn (endP (bodyP a p)))), some (.d (whatP (bodyP a p)))] ?_ ?_
    · have hb : bodyP a p = if chA a 0 = [91] then cellB a p else if chA a 0 = [123] then linB2 a else prodB a := rfl
      walk_at "wx"
      refine l_str (by rw [S_len]; omega) ?_
      rw [SX.slice_to (by omega), show (1 : Int).toNat = 1 from rfl, hch]
      walk_at "wx"
      rw [show ("[" : Str) = S [91] from by decide +kernel]
      refine y_ite (fun c1 => ?_) fun c1 => ?_
      · have c1 : chA a 0 = [91] := SX.S_inj (b := [91]) c1
        rw [if_pos c1] at hb
        walk_at "wx"
        refine ⟨a, p, rfl, hp, hl, ?_⟩
        rw [rdD2_eq]
        walk_at "wx"
        exact ⟨rfl, by rw [hb]; simp [SlLe]⟩
      · rw [if_neg (fun z => c1 (by rw [z]))] at hb
        walk_at "wx"
        refine l_str (by rw [S_len]; omega) ?_
        rw [SX.slice_to (by omega), show (1 : Int).toNat = 1 from rfl, hch]
        walk_at "wx"
        rw [show ("{" : Str) = S [123] from by decide +kernel]
        refine y_ite (fun c2 => ?_) fun c2 => ?_
        · have c2 : chA a 0 = [123] := SX.S_inj (b := [123]) c2
          rw [if_pos c2] at hb
          walk_at "wx"
          refine ⟨a, rfl, hl, ?_⟩
          rw [rdD2_eq]
          walk_at "wx"
          exact ⟨rfl, by rw [hb]; simp [SlLe]⟩
        · rw [if_neg (fun z => c2 (by rw [z]))] at hb
          walk_at "wx"
          refine ⟨a, rfl, hl, ?_⟩
          rw [rdD2_eq]
          walk_at "wx"
          exact ⟨rfl, by rw [hb]; simp [SlLe]⟩
    have hd : defP a p = match bodyP a p with | .error e => .error e | .ok (d, e) => if e < a.length then .error e else .ok d := rfl
    unfold dueD at k
    cases hb : bodyP a p with
    | error e =>
      rw [hb] at hd
      rw [hd] at k
      rw [show whatP (.error e) = D.non from rfl, show endP (.error e) = e from rfl]
      walk_at "wx"
      exact k
    | ok r =>
      obtain ⟨d, e⟩ := r
      rw [hb] at hd
      simp only at hd
      rw [show whatP (.ok (d, e)) = d.d from rfl, show endP (.ok (d, e)) = e from rfl]
      have hnn : d.d ≠ .non := fun z => by cases d <;> cases z
      walk_at "wx"
      refine y_no hnn ?_
      walk_at "wx"
      refine o_lenS (by rw [S_len]; omega) ?_
      rw [S_len]
      walk_at "wx"
      refine y_ite (fun c1 => ?_) fun c1 => ?_
      · rw [if_pos (by omega)] at hd
        rw [hd] at k
        walk_at "wx"
        exact k
      rw [if_neg (by omega)] at hd
      rw [hd] at k
      simp only at k
      walk_at "wx"
      cases d with
      | cell c refs =>
        simp only at k
        unfold Defn.d at k ⊢
        walk_at "wx"
        refine o_ix (d := .str "cell") rfl ?_
        walk_at "wx"
        refine y_no (by decide +kernel) ?_
        walk_at "wx"
        exact k
      | prod fs =>
        simp only at k
        unfold Defn.d at k ⊢
        walk_at "wx"
        refine o_ix (d := .str "product") rfl ?_
        walk_at "wx"
        refine y_no (by decide +kernel) ?_
        walk_at "wx"
        exact k
      | lin f o =>
        simp only at k
        unfold Defn.d at k ⊢
        walk_at "wx"
        refine o_ix (d := .str "linear") rfl ?_
        walk_at "wx"
        refine y_yes rfl ?_
        walk_at "wx"
        refine o_ix (d := frD f) rfl ?_
        walk_at "wx"
        refine o_ix (d := frD o) rfl ?_
        walk_at "wx"
        refine ⟨f, o, p, rfl, by omega, ?_⟩
        walk_at "wx"
        cases hlo : isLin f o p with
        | false =>
          rw [hlo, if_neg Bool.false_ne_true] at k
          walk_at "wx"
          exact k
        | true =>
          rw [hlo, if_pos rfl] at k
          walk_at "wx"
          exact k
end
end R

/-! # HE: the law's names, definitions and their texts -/
namespace R
open PySem PySem.Spec PyProof.Rows L2 L2H LamX
open SX (S S_len S_cat)
open TL (numL)
structure NmOk (n : List Nat) : Prop where
  ne : n ≠ []
  len : n.length ≤ 7
  let_ : ∀ c ∈ n, c ∈ LET
def nmD (ns : List (List Nat)) : List D := ns.map fun n => .str (S n)
def intL (i : Int) : List Nat := if i < 0 then 45 :: numL i.natAbs else numL i.natAbs
theorem intL_str (i : Int) : (toString i : Str) = S (intL i) := by
  unfold intL
  cases i with
  | ofNat n =>
    show (toString ((n : Nat) : Int) : Str) = S (if ((n : Nat) : Int) < 0 then 45 :: numL n else numL n)
    rw [if_neg (show ¬ (((n : Nat) : Int) < 0) by omega)]
    exact SX.num_S n
  | negSucc n =>
    rw [if_pos (Int.negSucc_lt_zero n)]
    refine TL.ext_tl ?_
    show TL.tl (Str.ofString ("-" ++ toString (n + 1))) = 45 :: numL (n + 1)
    rw [TL.tl_ofString, String.toList_append, List.map_append]
    have h := TL.tl_num (n + 1)
    rw [TL.tl_ofString] at h
    have h : (toString (n + 1)).toList.map Char.toNat = numL (n + 1) := h
    rw [h]
    rfl
theorem intL_len {i : Int} {k : Nat} (hk : 0 < k) (h : i.natAbs < 10 ^ k) : (intL i).length ≤ k + 1 := by
  have := TL.numL_len hk h
  unfold intL
  split
  · rw [List.length_cons]; omega
  · omega
def GoodD (p : Nat) (ns : List (List Nat)) : Defn → Prop
  | .cell c refs => c < p ∧ refs.length = p ∧ ∀ r ∈ refs, NmOk r
  | .lin f o => isLin f o p = true ∧ f.1.natAbs < 1000000 ∧ f.2.natAbs < 1000000 ∧ o.1.natAbs < 1000000 ∧ o.2.natAbs < 1000000
  | .prod fs => 1 ≤ fs.length ∧ fs.length ≤ 12 ∧ ∀ x ∈ fs, NmOk x.1 ∧ x.2.natAbs < 10 ^ 30
theorem joinL_nil : ∀ u : List Nat, TL.joinL [] (u.map fun c => [c]) = u
  | [] => rfl
  | [c] => rfl
  | c :: d :: u => by
    show [c] ++ ([] ++ TL.joinL [] ((d :: u).map fun c => [c])) = _
    rw [joinL_nil (d :: u)]
    rfl
theorem join_one (u : List Nat) : Txt.join ("" : Str) (u.map fun c => S [c]) = S u := by
  have h := SX.join_S [] (u.map fun c => [c])
  rw [joinL_nil, List.map_map] at h
  exact h
theorem sum_one : ∀ u : List Nat, ((u.map fun c => S [c]).map (·.length)).sum = u.length
  | [] => rfl
  | c :: u => by
    rw [List.map_cons, List.map_cons, List.sum_cons, sum_one u, List.length_cons]
    show 1 + u.length = _
    omega
theorem joinL_len (s : List Nat) (m : Nat) : ∀ l : List (List Nat), (∀ x ∈ l, x.length ≤ m) → (TL.joinL s l).length ≤ l.length * (m + s.length)
  | [], _ => Nat.zero_le _
  | [x], h => by
    show x.length ≤ 1 * _
    have := h x (List.mem_singleton.mpr rfl)
    omega
  | x :: y :: l, h => by
    have h1 := h x (List.mem_cons_self)
    have h2 := joinL_len s m (y :: l) fun z hz => h z (List.mem_cons_of_mem _ hz)
    show (x ++ (s ++ TL.joinL s (y :: l))).length ≤ _
    rw [List.length_append, List.length_append, List.length_cons, Nat.add_mul, Nat.one_mul]
    omega
theorem joinL_mem (s : List Nat) : ∀ l : List (List Nat), ∀ c ∈ TL.joinL s l, c ∈ s ∨ ∃ x ∈ l, c ∈ x
  | [], _, h => absurd h List.not_mem_nil
  | [x], c, h => .inr ⟨x, List.mem_singleton.mpr rfl, h⟩
  | x :: y :: l, c, h => by
    have h : c ∈ x ++ (s ++ TL.joinL s (y :: l)) := h
    rcases List.mem_append.mp h with h | h
    · exact .inr ⟨x, List.mem_cons_self, h⟩
    · rcases List.mem_append.mp h with h | h
      · exact .inl h
      · rcases joinL_mem s (y :: l) c h with h | ⟨z, hz, h⟩
        · exact .inl h
        · exact .inr ⟨z, List.mem_cons_of_mem _ hz, h⟩
theorem sum_S (m : Nat) : ∀ l : List (List Nat), (∀ x ∈ l, x.length ≤ m) → ((l.map S).map (·.length)).sum ≤ l.length * m
  | [], _ => Nat.zero_le _
  | x :: l, h => by
    have h1 := h x (List.mem_cons_self)
    have h2 := sum_S m l fun z hz => h z (List.mem_cons_of_mem _ hz)
    rw [List.map_cons, List.map_cons, List.sum_cons, S_len, List.length_cons, Nat.add_mul, Nat.one_mul]
    omega
theorem id_S : ("id" : Str) = S [105, 100] := by decide +kernel
theorem nm_id : NmOk [105, 100] := ⟨List.cons_ne_nil _ _, by decide, by decide⟩
section
variable {P : Program} {w : World} {K : PySem.W.Frag} {mg : Str → Option Value} {base : Heap}
def dNames : List D → (Rt → Prop) → Prop := fun ds Q => ∃ many : Nat, ds = [dn many] ∧ many ≤ 100 ∧ ∀ ns : List (List Nat), ns.length = many → (∀ n ∈ ns, NmOk n) → Q (.n (nmD ns))
theorem ok_names (T : Txt K mg) : Ok P w K mg base 3 T.names (liftR K T.mC dNames) := by
  have ok_draw := fun T : Txt K mg => okd_draw (P := P) (w := w) (base := base) T
  refine ok_R T.names sc_names (fun ds Q h => ?_) fun cdv A outer s H E ds Q fr rl hr h he => ?_
  · obtain ⟨many, rfl, _⟩ := h
    rfl
  · obtain ⟨many, rfl, hm, k⟩ := h
    refine ⟨_, ((pss_cons (ps_par (i := 2) (j := 3) (by rfl) sc_names.nd rfl rfl (by decide) rfl rfl (pa_cons (pe_op op_sAdd pe_int (pcall T.draw (ok_draw T) (hr.mono (by omega)) passE (pa_cons (pv 0) (pa_cons pe_int pa_nil)))) (pa_cons (pcall T.pick (ok_pick T) (hr.mono (by omega)) passE (pa_cons (pv 0) (pa_cons (pe_lst (pa_cons pe_int (pa_cons pe_int (pa_cons pe_int (pa_cons pe_int (pa_cons pe_int pa_nil)))))) pa_nil))) pa_nil)) (by rfl))
  (pss_cons (ps_par (i := 4) (j := 5) (by rfl) sc_names.nd rfl rfl (by decide) rfl rfl (pa_cons (pcall T.draw (ok_draw T) (hr.mono (by omega)) passE (pa_cons (pv 0) (pa_cons pe_int pa_nil))) (pa_cons (pcall T.draw (ok_draw T) (hr.mono (by omega)) passE (pa_cons (pv 0) (pa_cons (pv 2) pa_nil))) pa_nil)) (by rfl))
  (pss_cons (ps_set (i := 6) sc_names.nd rfl (by first | exact Or.inl rfl | exact Or.inr rfl) (pjoin pe_str (pe_lc (own := [("_law_k", 7)]) (g := (gName 7)) (tt := tYes) (te := (tCall _ [] E0 (tCons (tVar 0) (tCons (tCall _ [] E0 tNil) tNil)))) (by rfl) sc_names.nd (pi_range1 (by rfl) T.b_range (pa_cons (pv 2) pa_nil)) (blkOk_by (own := [("_law_k", 7)]) (N := N_names) (sc := defScope s_names) (by decide +kernel)) (fun _ _ _ _ _ => by exact (pg_name (i := 7) sc_names.nd rfl (by first | exact Or.inl rfl | exact Or.inr rfl))) (fun _ _ _ _ _ => by exact pts_nil) (fun _ _ _ _ _ => by exact (pcall T.pick (ok_pick T) (hr.mono (by omega)) passL (pa_cons (pv 0) (pa_cons (pcall0 T.letters (ok_letters T) (hr.mono (by omega)) passL) pa_nil)))))))
  (pss_cons (ps_set (i := 8) sc_names.nd rfl (by first | exact Or.inl rfl | exact Or.inr rfl) (pown (pe_lst pa_nil)))
  (pss_cons (ps_for ownE rfl (pi_range1 (by rfl) T.b_range (pa_cons (pv 1) pa_nil)) (pg_name (i := 7) sc_names.nd rfl (by first | exact Or.inl rfl | exact Or.inr rfl))
  (pss_cons (ps_set (i := 9) sc_names.nd rfl (by first | exact Or.inl rfl | exact Or.inr rfl) (pe_op op_sMod (pe_op op_sAdd (pv 4) (pe_op op_sMul (pv 3) (pv 7))) pe_int))
  (pss_one (ps_expr (pe_bm PySem.F.plainAttrs_list PySem.F.slot_list_append PySem.F.type_list_append mt_append (pv 8) (pa_cons (pe_op op_sAdd (pe_op op_sAdd (pe_slice sl_s (pv 6) po_none (po_some (pv 5))) (pe_ix ix_s (pcall0 T.letters (ok_letters T) (hr.mono (by omega)) passE) (pv 9) (fun _ _ => rfl))) (pe_slice sl_s (pv 6) (po_some (pe_op op_sAdd (pv 5) pe_int)) po_none)) pa_nil))))))
  (pss_cons (ps_if (pt_cmpR op_sIn pe_str (pv 8) (by rfl))
  (pss_one (psown (ps_setLc (i := 8) (own := [("_law_name", 10)]) (g := (gName 10)) (tt := tYes) (te := (tOp (sAdd K) (tVar 10) (tC _))) (by rfl) sc_names.nd rfl rfl (sw_true rfl rfl rfl (by decide +kernel)) (pi_s (pv 8)) (blkOk_by (own := [("_law_name", 10)]) (N := N_names) (sc := defScope s_names) (by decide +kernel)) (fun _ _ _ _ _ => by exact (pg_name (i := 10) sc_names.nd rfl (by first | exact Or.inl rfl | exact Or.inr rfl))) (fun _ _ _ _ _ => by exact pts_nil) (fun _ _ _ _ _ => by exact (pe_op op_sAdd (pv 10) pe_str)))))
  pss_nil)
  (pss_one (ps_ret (pv 8)))))))))), ?_⟩
    show wS _ _ [] [some .r, some (.d (dn many)), none, none, none, none, none, none, none, none, none] [] _
    try dsimp only [L2.cxOf]
    walk_at "wx"
    refine use_dDrawN 6 fun w0 hw0 => ?_
    walk_at "wx"
    refine use_dPick (fun y hy => ?_) ⟨Nat.zero_lt_succ _, Nat.le_of_ble_eq_true rfl⟩
    obtain ⟨st, rfl, hst⟩ : ∃ st : Nat, y = dn st ∧ st ≤ 9 := by
      simp only [List.mem_cons, List.not_mem_nil, or_false] at hy
      rcases hy with rfl | rfl | rfl | rfl | rfl
      · exact ⟨1, rfl, by decide⟩
      · exact ⟨3, rfl, by decide⟩
      · exact ⟨5, rfl, by decide⟩
      · exact ⟨7, rfl, by decide⟩
      · exact ⟨9, rfl, by decide⟩
    walk_at "wx"
    refine use_dDrawN 26 fun ld hld => ?_
    walk_at "wx"
    refine use_dDrawN (1 + w0) (fun at_ hat => ?_) (by omega) (by omega)
    walk_at "wx"
    refine rg (by omega) ?_
    refine lck (fun i ds => ∃ u : List Nat, u.length = i ∧ (∀ c ∈ u, c ∈ LET) ∧ ds = u.map fun c => .str (S [c])) ⟨[], rfl, fun c h => absurd h List.not_mem_nil, rfl⟩ (fun i x ds st2 hx hI => ?_) (fun ds _ hI => ?_)
    · obtain ⟨u, hu1, hu2, rfl⟩ := hI
      unfold LcT
      walk_at "wx"
      refine ⟨rfl, ?_⟩
      walk_at "wx"
      refine ⟨_, _, rfl, .inr (.inr ⟨S LET, rfl, by decide, rfl⟩), by decide, by decide, fun y hy => ?_⟩
      obtain ⟨c, hc, rfl⟩ := List.mem_map.mp hy
      walk_at "wx"
      exact ⟨u ++ [c], by rw [List.length_append, hu1]; rfl, fun d hd => by
        rcases List.mem_append.mp hd with hd | hd
        · exact hu2 d hd
        · rw [List.mem_singleton.mp hd]
          exact hc, by rw [List.map_append]; rfl⟩
    rw [List.length_map, List.length_range] at hI
    obtain ⟨u, hu1, hu2, rfl⟩ := hI
    rw [show (1 + (w0 : Int)).toNat = 1 + w0 by omega] at hu1
    walk_at "wx"
    refine m_join (ys := u.map fun c => S [c]) ?_ ?_ (by rw [List.map_map]; rfl)
    · rw [List.length_map, sum_one]
      show u.length + u.length * 0 ≤ _
      omega
    rw [join_one]
    walk_at "wx"
    refine rg (by omega) ?_
    rw [Int.toNat_natCast]
    refine for_k (fun i cs sl => i ≤ many ∧ ∃ (ns : List (List Nat)) (x y : Option Sd), ns.length = i ∧ (∀ n ∈ ns, n ≠ [] ∧ n.length ≤ 6 ∧ ∀ c ∈ n, c ∈ LET) ∧ cs = [some (.lst (nmD ns))] ∧ sl = [some .r, some (.d (dn many)), some (.d (.int (1 + (w0 : Int)))), some (.d (dn st)), some (.d (dn ld)), some (.d (dn at_)), some (.d (.str (S u))), x, some (.c 0), y, none]) ⟨Nat.zero_le _, [], none, none, rfl, fun n h => absurd h List.not_mem_nil, rfl, rfl⟩ ?_ ?_
    · rintro i x cs2 sl2 st2 hx ⟨hi, ns, x1, y1, hnl, hns, rfl, rfl⟩
      obtain ⟨hi2, rfl⟩ : i < many ∧ x = dn i := by
        have h := List.getElem?_eq_some_iff.mp hx
        obtain ⟨h1, h2⟩ := h
        rw [List.length_map, List.length_range] at h1
        exact ⟨h1, by rw [← h2]; simp⟩
      obtain ⟨sg, hsg⟩ : ∃ sg : Nat, ((ld : Int) + (st : Int) * (i : Int)) % 26 = sg := ⟨(((ld : Int) + (st : Int) * (i : Int)) % 26).toNat, by omega⟩
      have hsg2 : sg < 26 := by omega
      obtain ⟨c, hc⟩ : ∃ c, LET[sg]? = some c := ⟨_, List.getElem?_eq_getElem (by show sg < 26; exact hsg2)⟩
      have hcl : c ∈ LET := List.mem_of_getElem? hc
      walk_at "wx"
      rw [hsg]
      refine l_str (by rw [S_len]; omega) ?_
      rw [SX.slice_to (by omega), Int.toNat_natCast]
      walk_at "wx"
      refine ⟨rfl, ?_⟩
      walk_at "wx"
      refine o_ixS (c := c) (by decide) (atI_nat hc) ?_
      rw [show (⟨#[c]⟩ : Str) = S [c] from rfl]
      walk_at "wx"
      refine o_addS (by rw [S_len, S_len, List.length_take]; show _ + 1 ≤ _; omega) ?_
      rw [S_cat]
      walk_at "wx"
      refine l_str (by rw [S_len]; omega) ?_
      rw [SX.slice_from (by omega), show ((at_ : Int) + 1).toNat = at_ + 1 by omega]
      walk_at "wx"
      refine o_addS (by rw [S_len, S_len, List.length_append, List.length_take, List.length_drop]; show _ + 1 + _ ≤ _; omega) ?_
      rw [S_cat]
      walk_at "wx"
      refine m_append ?_ (by show (ns.map _).length < _; rw [List.length_map]; omega) rfl rfl
      walk_at "wx"
      refine ⟨by omega, ns ++ [u.take at_ ++ [c] ++ u.drop (at_ + 1)], _, _, by rw [List.length_append, hnl]; rfl, fun n hn => ?_, by unfold nmD; rw [List.map_append]; rfl, rfl⟩
      rcases List.mem_append.mp hn with hn | hn
      · exact hns n hn
      · rw [List.mem_singleton.mp hn]
        refine ⟨by simp, by rw [List.length_append, List.length_append, List.length_take, List.length_drop]; show _ + 1 + _ ≤ 6; omega, fun d hd => ?_⟩
        rcases List.mem_append.mp hd with hd | hd
        · rcases List.mem_append.mp hd with hd | hd
          · exact hu2 d (List.mem_of_mem_take hd)
          · rw [List.mem_singleton.mp hd]
            exact hcl
        · exact hu2 d (List.mem_of_mem_drop hd)
    · rintro cs2 sl2 ⟨hi, ns, x1, y1, hnl, hns, rfl, rfl⟩
      rw [List.length_map, List.length_range] at hnl
      walk_at "wx"
      refine o_inS (ns := ns.map S) ?_ (by show some (nmD ns) = _; rw [List.map_map]; rfl)
      walk_at "wx"
      refine y_ite (fun _ => ?_) fun _ => ?_
      · walk_at "wx"
        refine ⟨_, rfl, lck_map (F := fun n => D.str (S n)) (xs := ns) (fun n => D.str (S (n ++ [120]))) (fun n ds st2 hn => ?_) ?_ (fun ds => rfl)⟩
        · have hnn := hns n hn
          unfold LcT
          walk_at "wx"
          rw [show ("x" : Str) = S [120] from by decide +kernel]
          refine o_addS (by rw [S_len, S_len]; show _ + 1 ≤ _; omega) ?_
          rw [S_cat]
          walk_at "wx"
          rfl
        walk_at "wx"
        have h := k (ns.map fun n => n ++ [120]) (by rw [List.length_map]; exact hnl) fun n hn => by
          obtain ⟨m, hm2, rfl⟩ := List.mem_map.mp hn
          have hmm := hns m hm2
          refine ⟨by simp, by rw [List.length_append]; show _ + 1 ≤ 7; omega, fun d hd => ?_⟩
          rcases List.mem_append.mp hd with hd | hd
          · exact hmm.2.2 d hd
          · rw [List.mem_singleton.mp hd]
            decide
        unfold nmD at h
        rw [List.map_map] at h
        exact h
      · walk_at "wx"
        exact k ns hnl fun n hn => ⟨(hns n hn).1, by have := (hns n hn).2.1; omega, (hns n hn).2.2⟩
def dProdE : List D → (Rt → Prop) → Prop := fun ds Q => ds = [] ∧ ∀ x : Int, x.natAbs < 10 ^ 30 → Q (.d (.int x))
theorem ok_product_exponent (T : Txt K mg) : Ok P w K mg base 3 T.product_exponent (liftR K T.mC dProdE) := by
  have ok_draw := fun T : Txt K mg => okd_draw (P := P) (w := w) (base := base) T
  refine ok_R T.product_exponent sc_product_exponent (fun ds Q h => ?_) fun cdv A outer s H E ds Q fr rl hr h he => ?_
  · obtain ⟨rfl, _⟩ := h
    rfl
  · obtain ⟨rfl, k⟩ := h
    refine ⟨_, ((pss_cons (ps_set (i := 1) sc_product_exponent.nd rfl (by first | exact Or.inl rfl | exact Or.inr rfl) (pe_op op_sSub (pcall T.draw (ok_draw T) (hr.mono (by omega)) passE (pa_cons (pv 0) (pa_cons (pe_op op_sPow pe_int pe_int) pa_nil))) (pe_op op_sMul pe_int (pe_op op_sPow pe_int pe_int))))
  (pss_one (ps_ret (pcall T.pick (ok_pick T) (hr.mono (by omega)) passE (pa_cons (pv 0) (pa_cons (pe_lst (pa_cons pe_int (pa_cons pe_int (pa_cons pe_int (pa_cons (pe_un un_neg pe_int) (pa_cons (pe_un un_neg pe_int) (pa_cons pe_int (pa_cons (pe_op op_sAdd pe_int (pe_op op_sMod (pv 1) pe_int)) (pa_cons (pe_op op_sSub (pe_op op_sPow pe_int pe_int) pe_int) (pa_cons (pv 1) pa_nil)))))))))) pa_nil))))))), ?_⟩
    show wS _ _ [] [some .r, none] [] _
    try dsimp only [L2.cxOf]
    have e30 : (10 : Int) ^ (30 : Int).toNat = 1000000000000000000000000000000 := by decide +kernel
    have e29 : (10 : Int) ^ (29 : Int).toNat = 100000000000000000000000000000 := by decide +kernel
    have n30 : (10 : Nat) ^ 30 = 1000000000000000000000000000000 := by decide +kernel
    rw [n30] at k
    walk_at "wx"
    rw [e30]
    refine use_dDraw (fun n n0 n1 => ?_) ⟨by decide, by decide +kernel⟩
    walk_at "wx"
    rw [e29]
    walk_at "wx"
    rw [e30]
    refine use_dPick (fun y hy => ?_) ⟨Nat.zero_lt_succ _, Nat.le_of_ble_eq_true rfl⟩
    obtain ⟨x, rfl, hx⟩ : ∃ x : Int, y = .int x ∧ x.natAbs < 1000000000000000000000000000000 := by
      simp only [List.mem_cons, List.not_mem_nil, or_false] at hy
      rcases hy with rfl | rfl | rfl | rfl | rfl | rfl | rfl | rfl | rfl
      all_goals first | exact ⟨_, rfl, by decide⟩ | exact ⟨_, rfl, by omega⟩
    walk_at "wx"
    exact k x hx
def ftL (q : Int × Int) : List Nat := intL q.1 ++ (if q.2 = 1 then [] else 47 :: intL q.2)
def dFracT : DSp := fun ds Q _ => ∃ q : Int × Int, ds = [frD q] ∧ q.1.natAbs < 1000000 ∧ q.2.natAbs < 1000000 ∧ Q (.d (.str (S (ftL q))))
theorem ok_fraction_text (T : Txt K mg) : Ok P w K mg base 1 T.fraction_text (liftP K T.mC dFracT) := by
  refine ok_P T.fraction_text sc_fraction_text (fun ds Q E h => ?_) fun cdv A outer s H E ds Q Ed fr hr h he => ?_
  · obtain ⟨q, rfl, _⟩ := h
    rfl
  · obtain ⟨q, rfl, h1, h2, k⟩ := h
    refine ⟨_, ((pss_one (ps_ret (pe_op op_sAdd (pe_callTy call_sStr (by rfl) T.b_str (by decide +kernel) (pa_cons (pe_ix ix_s (pv 0) pe_int (fun _ _ => rfl)) pa_nil)) (pe_ifExp (pt_cmpR (op_sEq hr.units) (pe_ix ix_s (pv 0) pe_int (fun _ _ => rfl)) pe_int (nomark _)) pe_str (pe_op op_sAdd pe_str (pe_callTy call_sStr (by rfl) T.b_str (by decide +kernel) (pa_cons (pe_ix ix_s (pv 0) pe_int (fun _ _ => rfl)) pa_nil)))))))), ?_⟩
    show wS _ _ [] [some (.d (frD q))] [] _
    try dsimp only [L2.cxOf]
    have hlog : ∀ i : Int, i.natAbs < 1000000 → i.natAbs.log2 < 1920 := fun i hx => by
      by_cases h0 : i.natAbs = 0
      · rw [h0]
        decide
      · exact (Nat.log2_lt h0).mpr (Nat.lt_trans hx (by decide +kernel))
    have l1 := intL_len (k := 6) (by decide) h1
    have l2 := intL_len (k := 6) (by decide) h2
    unfold ftL at k
    walk_at "wx"
    refine o_ix (d := .int q.1) rfl ?_
    walk_at "wx"
    refine o_strI (hlog _ h1) ?_
    rw [intL_str]
    walk_at "wx"
    refine o_ix (d := .int q.2) rfl ?_
    walk_at "wx"
    refine y_ite (fun c => ?_) fun c => ?_
    · rw [if_pos c, List.append_nil] at k
      walk_at "wx"
      refine o_addS (by rw [S_len]; show _ + 0 ≤ _; omega) ?_
      rw [show S (intL q.1) ++ ("" : Str) = S (intL q.1) by rw [show ("" : Str) = S [] from rfl, S_cat, List.append_nil]]
      exact k
    · rw [if_neg c] at k
      walk_at "wx"
      refine o_ix (d := .int q.2) rfl ?_
      walk_at "wx"
      refine o_strI (hlog _ h2) ?_
      rw [intL_str]
      walk_at "wx"
      rw [show ("/" : Str) = S [47] from by decide +kernel]
      refine o_addS (by rw [S_len, S_len]; show 1 + _ ≤ _; omega) ?_
      rw [S_cat]
      walk_at "wx"
      refine o_addS (by rw [S_len, S_len, List.length_append]; show _ + (1 + _) ≤ _; omega) ?_
      rw [S_cat]
      exact k
def dAlt : List D → (Rt → Prop) → Prop := fun ds Q => ∃ a : List Nat, ds = [.str (S a)] ∧ a.length ≤ 900 ∧ ∀ b : List Nat, b.length ≤ a.length + 1 → (∀ c ∈ b, c ∈ a ∨ c < 128) → Q (.d (.str (S b)))
theorem ok_altered (T : Txt K mg) : Ok P w K mg base 3 T.altered (liftR K T.mC dAlt) := by
  have ok_draw := fun T : Txt K mg => okd_draw (P := P) (w := w) (base := base) T
  refine ok_R T.altered sc_altered (fun ds Q h => ?_) fun cdv A outer s H E ds Q fr rl hr h he => ?_
  · obtain ⟨a, rfl, _⟩ := h
    rfl
  · obtain ⟨a, rfl, hl, k⟩ := h
    refine ⟨_, ((pss_cons (ps_set (i := 2) sc_altered.nd rfl (by first | exact Or.inl rfl | exact Or.inr rfl) (pe_lst (pa_cons pe_str (pa_cons pe_str (pa_cons pe_str (pa_cons pe_str (pa_cons pe_str (pa_cons pe_str (pa_cons pe_str (pa_cons pe_str (pa_cons pe_str (pa_cons pe_str (pa_cons pe_str (pa_cons pe_str (pa_cons pe_str (pa_cons pe_str (pa_cons pe_str (pa_cons pe_str (pa_cons pe_str (pa_cons pe_str (pa_cons pe_str (pa_cons pe_str (pa_cons pe_str pa_nil)))))))))))))))))))))))
  (pss_cons (ps_par (i := 3) (j := 4) (by rfl) sc_altered.nd rfl rfl (by decide) rfl rfl (pa_cons (pcall T.draw (ok_draw T) (hr.mono (by omega)) passE (pa_cons (pv 0) (pa_cons (pe_op op_sAdd (pe_callB call_sLen (by rfl) T.b_len (by decide +kernel) (pa_cons (pv 1) pa_nil)) pe_int) pa_nil))) (pa_cons (pcall T.pick (ok_pick T) (hr.mono (by omega)) passE (pa_cons (pv 0) (pa_cons (pv 2) pa_nil))) pa_nil)) (by rfl))
  (pss_cons (ps_if (pt_cmpR (op_sEq hr.units) (pcall T.draw (ok_draw T) (hr.mono (by omega)) passE (pa_cons (pv 0) (pa_cons pe_int pa_nil))) pe_int (nomark _))
  (pss_one (ps_ret (pe_slice sl_s (pv 1) po_none (po_some (pv 3)))))
  pss_nil)
  (pss_one (ps_ret (pe_op op_sAdd (pe_op op_sAdd (pe_slice sl_s (pv 1) po_none (po_some (pv 3))) (pv 4)) (pe_slice sl_s (pv 1) (po_some (pe_op op_sAdd (pv 3) (pcall T.draw (ok_draw T) (hr.mono (by omega)) passE (pa_cons (pv 0) (pa_cons pe_int pa_nil))))) po_none)))))))), ?_⟩
    show wS _ _ [] [some .r, some (.d (.str (S a))), none, none, none] [] _
    try dsimp only [L2.cxOf]
    walk_at "wx"
    refine o_lenS (by rw [S_len]; omega) ?_
    rw [S_len]
    walk_at "wx"
    refine use_dDrawN (a.length + 1) (fun at_ hat => ?_) (by omega) (by omega)
    walk_at "wx"
    refine use_dPick (fun y hy => ?_) ⟨Nat.zero_lt_succ _, Nat.le_of_ble_eq_true rfl⟩
    obtain ⟨s, rfl, hs, hs2⟩ : ∃ s : List Nat, y = .str (S s) ∧ s.length ≤ 1 ∧ ∀ c ∈ s, c < 128 := by
      simp only [List.mem_cons, List.not_mem_nil, or_false] at hy
      rcases hy with rfl | rfl | rfl | rfl | rfl | rfl | rfl | rfl | rfl | rfl | rfl | rfl | rfl | rfl | rfl | rfl | rfl | rfl | rfl | rfl | rfl
      · exact ⟨[], rfl, by decide, by decide⟩
      · exact ⟨[32], by congr 1, by decide, by decide⟩
      · exact ⟨[91], by congr 1, by decide, by decide⟩
      · exact ⟨[93], by congr 1, by decide, by decide⟩
      · exact ⟨[123], by congr 1, by decide, by decide⟩
      · exact ⟨[125], by congr 1, by decide, by decide⟩
      · exact ⟨[58], by congr 1, by decide, by decide⟩
      · exact ⟨[44], by congr 1, by decide, by decide⟩
      · exact ⟨[94], by congr 1, by decide, by decide⟩
      · exact ⟨[45], by congr 1, by decide, by decide⟩
      · exact ⟨[43], by congr 1, by decide, by decide⟩
      · exact ⟨[47], by congr 1, by decide, by decide⟩
      · exact ⟨[42], by congr 1, by decide, by decide⟩
      · exact ⟨[120], by congr 1, by decide, by decide⟩
      · exact ⟨[97], by congr 1, by decide, by decide⟩
      · exact ⟨[65], by congr 1, by decide, by decide⟩
      · exact ⟨[48], by congr 1, by decide, by decide⟩
      · exact ⟨[49], by congr 1, by decide, by decide⟩
      · exact ⟨[50], by congr 1, by decide, by decide⟩
      · exact ⟨[53], by congr 1, by decide, by decide⟩
      · exact ⟨[57], by congr 1, by decide, by decide⟩
    walk_at "wx"
    refine use_dDrawN 6 fun j hj => ?_
    walk_at "wx"
    refine y_ite (fun c1 => ?_) fun c1 => ?_
    · walk_at "wx"
      refine l_str (by rw [S_len]; omega) ?_
      rw [SX.slice_to (by omega), Int.toNat_natCast]
      walk_at "wx"
      exact k _ (by rw [List.length_take]; omega) fun c hc => .inl (List.mem_of_mem_take hc)
    · walk_at "wx"
      refine l_str (by rw [S_len]; omega) ?_
      rw [SX.slice_to (by omega), Int.toNat_natCast]
      walk_at "wx"
      refine o_addS (by rw [S_len, S_len, List.length_take]; omega) ?_
      rw [S_cat]
      walk_at "wx"
      refine use_dDrawN 2 fun i hi => ?_
      walk_at "wx"
      refine l_str (by rw [S_len]; omega) ?_
      rw [SX.slice_from (by omega), show ((at_ : Int) + (i : Int)).toNat = at_ + i by omega]
      walk_at "wx"
      refine o_addS (by rw [S_len, S_len, List.length_append, List.length_take, List.length_drop]; omega) ?_
      rw [S_cat]
      refine k _ (by rw [List.length_append, List.length_append, List.length_take, List.length_drop]; omega) fun c hc => ?_
      rcases List.mem_append.mp hc with hc | hc
      · rcases List.mem_append.mp hc with hc | hc
        · exact .inl (List.mem_of_mem_take hc)
        · exact .inr (hs2 c hc)
      · exact .inl (List.mem_of_mem_drop hc)
def dDefn : List D → (Rt → Prop) → Prop := fun ds Q => ∃ (p : Nat) (ns : List (List Nat)), ds = [dn p, .lst (nmD ns)] ∧ isP p ∧ ns.length ≤ 100 ∧ (∀ n ∈ ns, NmOk n) ∧ ∀ d : Defn, GoodD p ns d → Q (.d d.d)
theorem ok_definition (T : Txt K mg) : Ok P w K mg base 4 T.definition (liftR K T.mC dDefn) := by
  have ok_draw := fun T : Txt K mg => okd_draw (P := P) (w := w) (base := base) T
  refine ok_R T.definition sc_definition (fun ds Q h => ?_) fun cdv A outer s H E ds Q fr rl hr h he => ?_
  · obtain ⟨p, ns, rfl, _⟩ := h
    rfl
  · obtain ⟨p, ns, rfl, hp, hl, hns, k⟩ := h
    have hp2 := hp.pos
    have e1 : nmD ns ++ [D.str (S [105, 100])] = nmD (ns ++ [[105, 100]]) := by unfold nmD; rw [List.map_append]; rfl
    have hpk : ∀ y ∈ nmD (ns ++ [[105, 100]]), ∃ n, y = .str (S n) ∧ NmOk n := fun y hy => by
      obtain ⟨n, hn, rfl⟩ := List.mem_map.mp hy
      refine ⟨n, rfl, ?_⟩
      rcases List.mem_append.mp hn with hn | hn
      · exact hns n hn
      · rw [List.mem_singleton.mp hn]
        exact nm_id
    have hpl : 0 < (nmD (ns ++ [[105, 100]])).length ∧ (nmD (ns ++ [[105, 100]])).length ≤ 900000 := by
      unfold nmD
      rw [List.length_map, List.length_append]
      show 0 < _ + 1 ∧ _ + 1 ≤ _
      omega
    refine ⟨_, ((pss_cons (ps_set (i := 3) sc_definition.nd rfl (by first | exact Or.inl rfl | exact Or.inr rfl) (pcall T.draw (ok_draw T) (hr.mono (by omega)) passE (pa_cons (pv 0) (pa_cons pe_int pa_nil))))
  (pss_cons (ps_if (pt_cmpR op_sLt (pv 3) pe_int (nomark _))
  (pss_cons (ps_setLc (i := 4) (own := [("_law_digit", 5)]) (g := (gName 5)) (tt := tYes) (te := (tCall _ [] E0 (tCons (tVar 0) (tCons (tOp (sAdd K) (tVar 2) (tLst (tCons (tC _) tNil))) tNil)))) (by rfl) sc_definition.nd rfl rfl (sw_true rfl rfl rfl (by decide +kernel)) (pi_range1 (by rfl) T.b_range (pa_cons (pv 1) pa_nil)) (blkOk_by (own := [("_law_digit", 5)]) (N := N_definition) (sc := defScope s_definition) (by decide +kernel)) (fun _ _ _ _ _ => by exact (pg_name (i := 5) sc_definition.nd rfl (by first | exact Or.inl rfl | exact Or.inr rfl))) (fun _ _ _ _ _ => by exact pts_nil) (fun _ _ _ _ _ => by exact (pcall T.pick (ok_pick T) (hr.mono (by omega)) passL (pa_cons (pv 0) (pa_cons (pe_op op_sAdd (pv 2) (pe_lst (pa_cons pe_str pa_nil))) pa_nil)))))
  (pss_one (ps_ret (pe_tup (pa_cons pe_str (pa_cons (pcall T.draw (ok_draw T) (hr.mono (by omega)) passE (pa_cons (pv 0) (pa_cons (pv 1) pa_nil))) (pa_cons (pe_callTy call_sTuple (by rfl) T.b_tuple (by decide +kernel) (pa_cons (pv 4) pa_nil)) pa_nil)))))))
  pss_nil)
  (pss_cons (ps_if (pt_cmpR (op_sEq hr.units) (pv 3) pe_int (nomark _))
  (pss_cons (ps_asg (pcall T.linear (ok_linear T) (hr.mono (by omega)) passE (pa_cons (pv 0) (pa_cons (pv 1) pa_nil))) (pg_tup rfl (pgs_cons (pg_name (i := 6) sc_definition.nd rfl (by first | exact Or.inl rfl | exact Or.inr rfl)) (pgs_cons (pg_name (i := 7) sc_definition.nd rfl (by first | exact Or.inl rfl | exact Or.inr rfl)) pgs_nil))))
  (pss_one (ps_ret (pe_tup (pa_cons pe_str (pa_cons (pv 6) (pa_cons (pv 7) pa_nil)))))))
  pss_nil)
  (pss_cons (ps_set (i := 8) sc_definition.nd rfl (by first | exact Or.inl rfl | exact Or.inr rfl) (pown (pe_lst pa_nil)))
  (pss_cons (ps_set (i := 9) sc_definition.nd rfl (by first | exact Or.inl rfl | exact Or.inr rfl) (pcall T.pick (ok_pick T) (hr.mono (by omega)) passE (pa_cons (pv 0) (pa_cons (pe_lst (pa_cons pe_int (pa_cons pe_int (pa_cons pe_int (pa_cons (pe_op op_sAdd pe_int (pcall T.draw (ok_draw T) (hr.mono (by omega)) passE (pa_cons (pv 0) (pa_cons pe_int pa_nil)))) pa_nil))))) pa_nil))))
  (pss_cons (ps_for ownE rfl (pi_range1 (by rfl) T.b_range (pa_cons (pv 9) pa_nil)) (pg_name (i := 10) sc_definition.nd rfl (by first | exact Or.inl rfl | exact Or.inr rfl))
  (pss_cons (ps_set (i := 11) sc_definition.nd rfl (by first | exact Or.inl rfl | exact Or.inr rfl) (pcall T.product_exponent (ok_product_exponent T) (hr.mono (by omega)) passE (pa_cons (pv 0) pa_nil)))
  (pss_one (ps_expr (pe_bm PySem.F.plainAttrs_list PySem.F.slot_list_append PySem.F.type_list_append mt_append (pv 8) (pa_cons (pe_tup (pa_cons (pcall T.pick (ok_pick T) (hr.mono (by omega)) passE (pa_cons (pv 0) (pa_cons (pe_op op_sAdd (pv 2) (pe_lst (pa_cons pe_str pa_nil))) pa_nil))) (pa_cons (pe_ifExp (pt_cmpR (op_sNe hr.units) (pv 11) pe_int (nomark _)) (pv 11) pe_int) pa_nil))) pa_nil))))))
  (pss_one (psgive (ps_ret (pe_tup (pa_cons pe_str (pa_cons (pe_callTy call_sTuple (by rfl) T.b_tuple (by decide +kernel) (pa_cons (pv 8) pa_nil)) pa_nil))))))))))))), ?_⟩
    show wS _ _ [] [some .r, some (.d (dn p)), some (.d (.lst (nmD ns))), none, none, none, none, none, none, none, none, none] [] _
    try dsimp only [L2.cxOf]
    walk_at "wx"
    refine use_dDrawN 6 fun way hway => ?_
    walk_at "wx"
    rw [id_S]
    refine y_ite (fun c1 => ?_) fun c1 => ?_
    · walk_at "wx"
      refine rg (by omega) ?_
      refine lck (fun i ds => ∃ u : List (List Nat), u.length = i ∧ (∀ r ∈ u, NmOk r) ∧ ds = nmD u) ⟨[], rfl, fun c h => absurd h List.not_mem_nil, rfl⟩ (fun i x ds st2 hx hI => ?_) (fun ds hln hI => ?_)
      · obtain ⟨u, hu1, hu2, rfl⟩ := hI
        unfold LcT
        walk_at "wx"
        refine w_newO (o_addL (by show (ns.map _).length + 1 ≤ _; rw [List.length_map]; omega) ?_ rfl rfl)
        rw [e1]
        walk_at "wx"
        refine use_dPick (fun y hy => ?_) hpl
        obtain ⟨n, rfl, hn⟩ := hpk y hy
        walk_at "wx"
        exact ⟨u ++ [n], by rw [List.length_append, hu1]; rfl, fun d hd => by
          rcases List.mem_append.mp hd with hd | hd
          · exact hu2 d hd
          · rw [List.mem_singleton.mp hd]
            exact hn, by unfold nmD; rw [List.map_append]; rfl⟩
      rw [List.length_map, List.length_range] at hI
      obtain ⟨u, hu1, hu2, rfl⟩ := hI
      rw [Int.toNat_natCast] at hu1
      walk_at "wx"
      refine use_dDrawN p fun c hc => ?_
      walk_at "wx"
      exact k (.cell c u) ⟨hc, hu1, hu2⟩
    walk_at "wx"
    refine y_ite (fun c2 => ?_) fun c2 => ?_
    · walk_at "wx"
      refine ⟨p, rfl, hp, fun f o hlo hb => ?_⟩
      obtain ⟨q1, q2, _⟩ := isLin_iff.mp hlo
      have q1 := (isFrac_iff.mp q1).1
      have q2 := (isFrac_iff.mp q2).1
      walk_at "wx"
      exact k (.lin f o) ⟨hlo, by omega, by omega, by omega, by omega⟩
    walk_at "wx"
    refine use_dDrawN 12 fun n12 h12 => ?_
    walk_at "wx"
    refine use_dPick (fun y hy => ?_) ⟨Nat.zero_lt_succ _, Nat.le_of_ble_eq_true rfl⟩
    obtain ⟨cnt, rfl, hcnt⟩ : ∃ cnt : Nat, y = dn cnt ∧ 1 ≤ cnt ∧ cnt ≤ 12 := by
      simp only [List.mem_cons, List.not_mem_nil, or_false] at hy
      rcases hy with rfl | rfl | rfl | rfl
      · exact ⟨1, rfl, by decide⟩
      · exact ⟨2, rfl, by decide⟩
      · exact ⟨3, rfl, by decide⟩
      · exact ⟨1 + n12, by show D.int _ = D.int _; congr 1, by omega⟩
    walk_at "wx"
    refine rg (by omega) ?_
    rw [Int.toNat_natCast]
    refine for_k (fun i cs sl => ∃ (fs : List (List Nat × Int)) (x y : Option Sd), fs.length = i ∧ (∀ x ∈ fs, NmOk x.1 ∧ x.2.natAbs < 10 ^ 30) ∧ cs = [some (.lst (fs.map facD))] ∧ sl = [some .r, some (.d (dn p)), some (.d (.lst (nmD ns))), some (.d (dn way)), none, none, none, none, some (.c 0), some (.d (dn cnt)), x, y]) ⟨[], none, none, rfl, fun x h => absurd h List.not_mem_nil, rfl, rfl⟩ ?_ ?_
    · rintro i x cs2 sl2 st2 hx ⟨fs, x1, y1, hfl, hfs, rfl, rfl⟩
      have hi2 : i < cnt := by
        have h := (List.getElem?_eq_some_iff.mp hx).1
        rw [List.length_map, List.length_range] at h
        exact h
      walk_at "wx"
      refine ⟨rfl, fun tm htm => ?_⟩
      walk_at "wx"
      refine w_newO (o_addL (by show (ns.map _).length + 1 ≤ _; rw [List.length_map]; omega) ?_ rfl rfl)
      rw [e1]
      walk_at "wx"
      refine use_dPick (fun y hy => ?_) hpl
      obtain ⟨n, rfl, hn⟩ := hpk y hy
      walk_at "wx"
      refine y_iteN (fun d1 => ?_) fun d1 => ?_
      · walk_at "wx"
        refine m_append ?_ (by rw [List.length_map]; omega) rfl rfl
        walk_at "wx"
        exact ⟨fs ++ [(n, tm)], _, _, by rw [List.length_append, hfl]; rfl, fun x hx => by
          rcases List.mem_append.mp hx with hx | hx
          · exact hfs x hx
          · rw [List.mem_singleton.mp hx]
            exact ⟨hn, htm⟩, by rw [List.map_append]; rfl, rfl⟩
      · walk_at "wx"
        refine m_append ?_ (by rw [List.length_map]; omega) rfl rfl
        walk_at "wx"
        exact ⟨fs ++ [(n, 1)], _, _, by rw [List.length_append, hfl]; rfl, fun x hx => by
          rcases List.mem_append.mp hx with hx | hx
          · exact hfs x hx
          · rw [List.mem_singleton.mp hx]
            exact ⟨hn, by show (1 : Int).natAbs < 10 ^ 30; decide +kernel⟩, by rw [List.map_append]; rfl, rfl⟩
    · rintro cs2 sl2 ⟨fs, x1, y1, hfl, hfs, rfl, rfl⟩
      rw [List.length_map, List.length_range] at hfl
      walk_at "wx"
      refine w_give ?_
      walk_at "wx"
      exact k (.prod fs) ⟨by omega, by omega, hfs⟩
def dDefT : DSp := fun ds Q _ => ∃ (d : Defn) (p : Nat) (ns : List (List Nat)), ds = [d.d] ∧ isP p ∧ GoodD p ns d ∧ ∀ a : List Nat, a.length ≤ 590 → (∀ c ∈ a, c < 128) → Q (.d (.str (S a)))
theorem ok_definition_text (T : Txt K mg) : Ok P w K mg base 2 T.definition_text (liftP K T.mC dDefT) := by
  refine ok_P T.definition_text sc_definition_text (fun ds Q E h => ?_) fun cdv A outer s H E ds Q Ed fr hr h he => ?_
  · obtain ⟨d, p, ns, rfl, _⟩ := h
    rfl
  · obtain ⟨d, p, ns, rfl, hp, hg, k⟩ := h
    have hp2 := hp.pos
    have hlet : ∀ c ∈ LET, c < 128 := by decide
    have hint : ∀ i : Int, ∀ c ∈ intL i, c < 128 := fun i c hc => by
      have hd : ∀ n : Nat, ∀ c ∈ numL n, c < 128 := fun n c hc => by
        have := TL.numL_digits n c hc
        omega
      unfold intL at hc
      split at hc
      · rcases List.mem_cons.mp hc with rfl | hc
        · decide
        · exact hd _ c hc
      · exact hd _ c hc
    have hft : ∀ q : Int × Int, ∀ c ∈ ftL q, c < 128 := fun q c hc => by
      unfold ftL at hc
      rcases List.mem_append.mp hc with hc | hc
      · exact hint _ c hc
      · split at hc
        · exact absurd hc List.not_mem_nil
        · rcases List.mem_cons.mp hc with rfl | hc
          · decide
          · exact hint _ c hc
    have hftl : ∀ q : Int × Int, q.1.natAbs < 1000000 → q.2.natAbs < 1000000 → (ftL q).length ≤ 15 := fun q h1 h2 => by
      have l1 := intL_len (k := 6) (by decide) h1
      have l2 := intL_len (k := 6) (by decide) h2
      unfold ftL
      rw [List.length_append]
      split
      · rw [List.length_nil]; omega
      · rw [List.length_cons]; omega
    refine ⟨_, ((pss_cons (ps_if (pt_cmpR (op_sEq hr.units) (pe_ix ix_s (pv 0) pe_int (fun _ _ => rfl)) pe_str (nomark _))
  (pss_one (ps_ret (pe_op op_sAdd (pe_op op_sAdd (pe_op op_sAdd (pe_op op_sAdd pe_str (pe_callTy call_sStr (by rfl) T.b_str (by decide +kernel) (pa_cons (pe_ix ix_s (pv 0) pe_int (fun _ _ => rfl)) pa_nil))) pe_str) (pjoin pe_str (pe_callTy call_sList (by rfl) T.b_list (by decide +kernel) (pa_cons (pe_ix ix_s (pv 0) pe_int (fun _ _ => rfl)) pa_nil)))) pe_str)))
  pss_nil)
  (pss_cons (ps_if (pt_cmpR (op_sEq hr.units) (pe_ix ix_s (pv 0) pe_int (fun _ _ => rfl)) pe_str (nomark _))
  (pss_cons (ps_set (i := 1) sc_definition_text.nd rfl (by first | exact Or.inl rfl | exact Or.inr rfl) (pown (pe_lst pa_nil)))
  (pss_cons (ps_for ownE rfl (pi_s (pe_ix ix_s (pv 0) pe_int (fun _ _ => rfl))) (pg_tup rfl (pgs_cons (pg_name (i := 2) sc_definition_text.nd rfl (by first | exact Or.inl rfl | exact Or.inr rfl)) (pgs_cons (pg_name (i := 3) sc_definition_text.nd rfl (by first | exact Or.inl rfl | exact Or.inr rfl)) pgs_nil)))
  (pss_one (ps_expr (pe_bm PySem.F.plainAttrs_list PySem.F.slot_list_append PySem.F.type_list_append mt_append (pv 1) (pa_cons (pe_op op_sAdd (pv 2) (pe_ifExp (pt_cmpR (op_sEq hr.units) (pv 3) pe_int (nomark _)) pe_str (pe_op op_sAdd pe_str (pe_callTy call_sStr (by rfl) T.b_str (by decide +kernel) (pa_cons (pv 3) pa_nil))))) pa_nil)))))
  (pss_one (ps_ret (pjoin pe_str (pv 1))))))
  pss_nil)
  (pss_cons (ps_asg (pe_ix ix_s (pv 0) pe_int (fun _ _ => rfl)) (pg_tup rfl (pgs_cons (pg_name (i := 4) sc_definition_text.nd rfl (by first | exact Or.inl rfl | exact Or.inr rfl)) (pgs_cons (pg_name (i := 5) sc_definition_text.nd rfl (by first | exact Or.inl rfl | exact Or.inr rfl)) pgs_nil))))
  (pss_cons (ps_set (i := 6) sc_definition_text.nd rfl (by first | exact Or.inl rfl | exact Or.inr rfl) (pe_op op_sAdd (pe_op op_sAdd (pe_op op_sAdd pe_str (pcall T.fraction_text (ok_fraction_text T) (hr.mono (by omega)) passE (pa_cons (pe_ix ix_s (pv 0) pe_int (fun _ _ => rfl)) pa_nil))) pe_str) (pe_ifExp (pt_cmpR op_sLt (pv 4) pe_int (nomark _)) pe_str pe_str)))
  (pss_one (ps_ret (pe_op op_sAdd (pe_op op_sAdd (pv 6) (pcall T.fraction_text (ok_fraction_text T) (hr.mono (by omega)) passE (pa_cons (pe_tup (pa_cons (pe_callB call_abs (by rfl) T.b_abs (by decide +kernel) (pa_cons (pv 4) pa_nil)) (pa_cons (pv 5) pa_nil))) pa_nil))) pe_str)))))))), ?_⟩
    show wS _ _ [] [some (.d d.d), none, none, none, none, none, none] [] _
    try dsimp only [L2.cxOf]
    cases d with
    | cell c refs =>
      obtain ⟨g1, g2, g3⟩ := hg
      unfold Defn.d
      walk_at "wx"
      refine o_ix (d := .str "cell") rfl ?_
      walk_at "wx"
      refine y_yes rfl ?_
      walk_at "wx"
      refine o_ix (d := dn c) rfl ?_
      walk_at "wx"
      refine o_strI (Nat.lt_of_le_of_lt (Nat.log2_le_self _) (by show c < _; omega)) ?_
      rw [intL_str, show ("[" : Str) = S [91] from by decide +kernel]
      have l0 := intL_len (i := (c : Int)) (k := 1) (by decide) (by show c < 10 ^ 1; omega)
      walk_at "wx"
      refine o_addS (by rw [S_len, S_len]; show 1 + _ ≤ _; omega) ?_
      rw [S_cat, show (": " : Str) = S [58, 32] from by decide +kernel]
      walk_at "wx"
      refine o_addS (by rw [S_len, S_len, List.length_append]; show (1 + _) + 2 ≤ _; omega) ?_
      rw [S_cat]
      walk_at "wx"
      refine o_ix (d := .tup (refs.map fun r => .str (S r))) rfl ?_
      walk_at "wx"
      have g7 : ∀ r ∈ refs, r.length ≤ 7 := fun r hr => (g3 r hr).len
      have hj := joinL_len [44, 32] 7 refs g7
      have hj2 : refs.length * (7 + 2) ≤ 5 * 9 := Nat.mul_le_mul_right _ (by omega)
      have hj3 : (TL.joinL [44, 32] refs).length ≤ 45 := Nat.le_trans hj hj2
      have hjm := joinL_mem [44, 32] refs
      have hs7 := sum_S 7 refs g7
      have hs8 : refs.length * 7 ≤ 5 * 7 := Nat.mul_le_mul_right _ (by omega)
      refine m_join (ys := refs.map S) ?_ ?_ (by rw [List.map_map]; rfl)
      · rw [List.length_map]
        show _ + refs.length * 2 ≤ _
        omega
      rw [show (", " : Str) = S [44, 32] from by decide +kernel, SX.join_S]
      generalize TL.joinL [44, 32] refs = J at hj3 hjm ⊢
      walk_at "wx"
      refine o_addS (by rw [S_len, S_len, List.length_append, List.length_append]; show (1 + _) + 2 + _ ≤ _; omega) ?_
      rw [S_cat, show ("]" : Str) = S [93] from by decide +kernel]
      walk_at "wx"
      refine o_addS (by rw [S_len, S_len, List.length_append, List.length_append, List.length_append]; show (1 + _) + 2 + _ + 1 ≤ _; omega) ?_
      rw [S_cat]
      refine k _ (by rw [List.length_append, List.length_append, List.length_append, List.length_append]; show (1 + _) + 2 + _ + 1 ≤ _; omega) fun c hc => ?_
      rcases List.mem_append.mp hc with hc | hc
      · rcases List.mem_append.mp hc with hc | hc
        · rcases List.mem_append.mp hc with hc | hc
          · rcases List.mem_append.mp hc with hc | hc
            · rw [List.mem_singleton.mp hc]; decide
            · exact hint _ c hc
          · simp only [List.mem_cons, List.not_mem_nil, or_false] at hc
            omega
        · rcases hjm c hc with h | ⟨z, hz, h⟩
          · simp only [List.mem_cons, List.not_mem_nil, or_false] at h
            omega
          · exact hlet c ((g3 z hz).let_ c h)
      · rw [List.mem_singleton.mp hc]; decide
    | prod fs =>
      obtain ⟨g1, g2, g3⟩ := hg
      unfold Defn.d
      walk_at "wx"
      refine o_ix (d := .str "product") rfl ?_
      walk_at "wx"
      refine y_no (by decide +kernel) ?_
      walk_at "wx"
      refine o_ix (d := .str "product") rfl ?_
      walk_at "wx"
      refine y_yes rfl ?_
      walk_at "wx"
      refine o_ix (d := .tup (fs.map facD)) rfl ?_
      walk_at "wx"
      refine for_k (fun i cs sl => ∃ (x y : Option Sd) (ws : List (List Nat)), ws.length = i ∧ (∀ w ∈ ws, w.length ≤ 40 ∧ ∀ c ∈ w, c < 128) ∧ cs = [some (.lst (ws.map fun w => .str (S w)))] ∧ sl = [some (.d (Defn.prod fs).d), some (.c 0), x, y, none, none, none]) ⟨none, none, [], rfl, fun x h => absurd h List.not_mem_nil, rfl, rfl⟩ ?_ ?_
      · rintro i x cs2 sl2 st2 hx ⟨x1, y1, ws, hw, hws, rfl, rfl⟩
        rw [List.getElem?_map] at hx
        obtain ⟨f, hf, rfl⟩ := Option.map_eq_some_iff.mp hx
        have g := g3 f (List.mem_of_getElem? hf)
        have hi2 := (List.getElem?_eq_some_iff.mp hf).1
        unfold facD
        walk_at "wx"
        have l7 := g.1.len
        have hch : ∀ w : List Nat, (w = [] ∨ w = 94 :: intL f.2) → (f.1 ++ w).length ≤ 40 ∧ ∀ c ∈ f.1 ++ w, c < 128 := fun w hw => by
          have l0 := intL_len (i := f.2) (k := 30) (by decide) g.2
          refine ⟨?_, fun c hc => ?_⟩
          · rw [List.length_append]
            rcases hw with rfl | rfl
            · rw [List.length_nil]; omega
            · rw [List.length_cons]; omega
          · rcases List.mem_append.mp hc with hc | hc
            · exact hlet c (g.1.let_ c hc)
            · rcases hw with rfl | rfl
              · exact absurd hc List.not_mem_nil
              · rcases List.mem_cons.mp hc with rfl | hc
                · decide
                · exact hint _ c hc
        refine y_ite (fun c1 => ?_) fun c1 => ?_
        · walk_at "wx"
          have h := hch [] (.inl rfl)
          rw [show ("" : Str) = S [] from rfl]
          refine o_addS (by rw [S_len]; show _ + 0 ≤ _; omega) ?_
          rw [S_cat]
          walk_at "wx"
          refine m_append ?_ (by rw [List.length_map]; omega) rfl rfl
          walk_at "wx"
          exact ⟨_, _, ws ++ [f.1 ++ []], by rw [List.length_append, hw]; rfl, fun w hm => by
            rcases List.mem_append.mp hm with hm | hm
            · exact hws w hm
            · rw [List.mem_singleton.mp hm]
              exact h, by rw [List.map_append]; rfl, rfl⟩
        · walk_at "wx"
          refine o_strI (by
            by_cases h0 : f.2.natAbs = 0
            · rw [h0]
              decide
            · exact (Nat.log2_lt h0).mpr (Nat.lt_trans g.2 (by decide +kernel))) ?_
          rw [intL_str]
          have h := hch _ (.inr rfl)
          have hl := h.1
          rw [List.length_append, List.length_cons] at hl
          walk_at "wx"
          rw [show ("^" : Str) = S [94] from by decide +kernel]
          refine o_addS (by rw [S_len, S_len]; show 1 + _ ≤ _; omega) ?_
          rw [S_cat]
          walk_at "wx"
          refine o_addS (by rw [S_len, S_len, List.length_append]; show _ + (1 + _) ≤ _; omega) ?_
          rw [S_cat]
          walk_at "wx"
          refine m_append ?_ (by rw [List.length_map]; omega) rfl rfl
          walk_at "wx"
          exact ⟨_, _, ws ++ [f.1 ++ 94 :: intL f.2], by rw [List.length_append, hw]; rfl, fun w hm => by
            rcases List.mem_append.mp hm with hm | hm
            · exact hws w hm
            · rw [List.mem_singleton.mp hm]
              exact h, by rw [List.map_append]; rfl, rfl⟩
      · rintro cs2 sl2 ⟨x1, y1, ws, hw, hws, rfl, rfl⟩
        rw [List.length_map] at hw
        have g7 : ∀ r ∈ ws, r.length ≤ 40 := fun r hr => (hws r hr).1
        have hj := joinL_len [32] 40 ws g7
        have hj2 : ws.length * (40 + 1) ≤ 12 * 41 := Nat.mul_le_mul_right _ (by omega)
        have hj3 : (TL.joinL [32] ws).length ≤ 492 := Nat.le_trans hj hj2
        have hjm := joinL_mem [32] ws
        have hs7 := sum_S 40 ws g7
        have hs8 : ws.length * 40 ≤ 12 * 40 := Nat.mul_le_mul_right _ (by omega)
        walk_at "wx"
        refine m_join (ys := ws.map S) ?_ ?_ (by rw [List.map_map]; rfl)
        · rw [List.length_map]
          show _ + ws.length * 1 ≤ _
          omega
        rw [show (" " : Str) = S [32] from by decide +kernel, SX.join_S]
        walk_at "wx"
        refine k _ (by omega) fun c hc => ?_
        rcases hjm c hc with h | ⟨z, hz, h⟩
        · rw [List.mem_singleton.mp h]; decide
        · exact (hws z hz).2 c h
    | lin f o =>
      obtain ⟨_, g1, g2, g3, g4⟩ := hg
      have l1 := hftl f g1 g2
      unfold Defn.d
      walk_at "wx"
      refine o_ix (d := .str "linear") rfl ?_
      walk_at "wx"
      refine y_no (by decide +kernel) ?_
      walk_at "wx"
      refine o_ix (d := .str "linear") rfl ?_
      walk_at "wx"
      refine y_no (by decide +kernel) ?_
      walk_at "wx"
      refine o_ix (d := frD o) rfl ?_
      unfold frD
      walk_at "wx"
      refine o_ix (d := frD2 f) rfl ?_
      walk_at "wx"
      refine ⟨f, rfl, g1, g2, ?_⟩
      walk_at "wx"
      rw [show ("{" : Str) = S [123] from by decide +kernel]
      refine o_addS (by rw [S_len, S_len]; show 1 + _ ≤ _; omega) ?_
      rw [S_cat, show ("*x" : Str) = S [42, 120] from by decide +kernel]
      walk_at "wx"
      refine o_addS (by rw [S_len, S_len, List.length_append]; show 1 + _ + 2 ≤ _; omega) ?_
      rw [S_cat]
      walk_at "wx"
      have l2 := hftl ((o.1.natAbs : Int), o.2) (by show o.1.natAbs < _; omega) g4
      have fin : ∀ sg : Nat, sg < 128 → ∀ c ∈ [123] ++ ftL f ++ [42, 120] ++ [sg] ++ ftL ((o.1.natAbs : Int), o.2) ++ [125], c < 128 := fun sg hsg c hc => by
        rcases List.mem_append.mp hc with hc | hc
        · rcases List.mem_append.mp hc with hc | hc
          · rcases List.mem_append.mp hc with hc | hc
            · rcases List.mem_append.mp hc with hc | hc
              · rcases List.mem_append.mp hc with hc | hc
                · rw [List.mem_singleton.mp hc]; decide
                · exact hft _ c hc
              · simp only [List.mem_cons, List.not_mem_nil, or_false] at hc
                omega
            · rw [List.mem_singleton.mp hc]; exact hsg
          · exact hft _ c hc
        · rw [List.mem_singleton.mp hc]; decide
      refine y_ite (fun c1 => ?_) fun c1 => ?_
      · walk_at "wx"
        rw [show ("-" : Str) = S [45] from by decide +kernel]
        refine o_addS (by rw [S_len, S_len, List.length_append, List.length_append]; show 1 + _ + 2 + 1 ≤ _; omega) ?_
        rw [S_cat]
        walk_at "wx"
        refine o_absC ?_
        rw [show (if o.1 < 0 then -o.1 else o.1) = ((o.1.natAbs : Nat) : Int) by split <;> omega]
        walk_at "wx"
        refine ⟨((o.1.natAbs : Int), o.2), rfl, by show o.1.natAbs < _; omega, g4, ?_⟩
        walk_at "wx"
        refine o_addS (by rw [S_len, S_len, List.length_append, List.length_append, List.length_append]; show 1 + _ + 2 + 1 + _ ≤ _; omega) ?_
        rw [S_cat, show ("}" : Str) = S [125] from by decide +kernel]
        walk_at "wx"
        refine o_addS (by rw [S_len, S_len, List.length_append, List.length_append, List.length_append, List.length_append]; show 1 + _ + 2 + 1 + _ + 1 ≤ _; omega) ?_
        rw [S_cat]
        exact k _ (by rw [List.length_append, List.length_append, List.length_append, List.length_append, List.length_append]; show 1 + _ + 2 + 1 + _ + 1 ≤ _; omega) (fin 45 (by decide))
      · walk_at "wx"
        rw [show ("+" : Str) = S [43] from by decide +kernel]
        refine o_addS (by rw [S_len, S_len, List.length_append, List.length_append]; show 1 + _ + 2 + 1 ≤ _; omega) ?_
        rw [S_cat]
        walk_at "wx"
        refine o_absC ?_
        rw [show (if o.1 < 0 then -o.1 else o.1) = ((o.1.natAbs : Nat) : Int) by split <;> omega]
        walk_at "wx"
        refine ⟨((o.1.natAbs : Int), o.2), rfl, by show o.1.natAbs < _; omega, g4, ?_⟩
        walk_at "wx"
        refine o_addS (by rw [S_len, S_len, List.length_append, List.length_append, List.length_append]; show 1 + _ + 2 + 1 + _ ≤ _; omega) ?_
        rw [S_cat, show ("}" : Str) = S [125] from by decide +kernel]
        walk_at "wx"
        refine o_addS (by rw [S_len, S_len, List.length_append, List.length_append, List.length_append, List.length_append]; show 1 + _ + 2 + 1 + _ + 1 ≤ _; omega) ?_
        rw [S_cat]
        exact k _ (by rw [List.length_append, List.length_append, List.length_append, List.length_append, List.length_append]; show 1 + _ + 2 + 1 + _ + 1 ≤ _; omega) (fin 43 (by decide))
end
end R

/-! # law k53 -/
namespace R
open PySem PySem.Spec PyProof.Rows L2 L2H LamX
open SX (S S_len S_cat)
open TL (numL)
def chkT : D → Bool
  | .str s => decide (s.cps.toList.length ≤ 588) && s.cps.toList.all fun c => decide (c < 128)
  | _ => false
theorem chkT_iff {d : D} (h : chkT d = true) : ∃ a : List Nat, d = .str (S a) ∧ a.length ≤ 588 ∧ ∀ c ∈ a, c < 128 := by
  cases d with
  | str s =>
    obtain ⟨h1, h2⟩ := Bool.and_eq_true_iff.mp h
    exact ⟨s.cps.toList, rfl, of_decide_eq_true h1, fun c hc => of_decide_eq_true (List.all_eq_true.mp h2 c hc)⟩
  | _ => cases h
theorem strOk_S {a : List Nat} (h : ∀ c ∈ a, c < 128) : PyData.strOk (S a) = true := by
  unfold PyData.strOk
  rw [← Array.all_toList]
  exact List.all_eq_true.mpr fun c hc => decide_eq_true (Nat.lt_trans (h c hc) (by decide))
theorem subL_mem {a : List Nat} {i j c : Nat} (h : c ∈ subL a i j) : c ∈ a := List.mem_of_mem_drop (List.mem_of_mem_take h)
theorem cellGo_mem {a : List Nat} : ∀ (ws : List (List Nat)) {pos : Nat} {refs r : List (List Nat)} {e : Nat}, cellGo a ws pos refs = .ok (r, e) → (∀ x ∈ refs, ∀ c ∈ x, c ∈ a) → ∀ x ∈ r, ∀ c ∈ x, c ∈ a
  | [], pos, refs, r, e, h, k => by
    unfold cellGo at h
    cases h
    exact k
  | w :: ws, pos, refs, r, e, h, k => by
    unfold cellGo at h
    cases h1 : expP a pos w with
    | error e1 => rw [h1] at h; cases h
    | ok p1 =>
      rw [h1] at h
      dsimp only at h
      cases h2 : scanP a p1 LET 6 with
      | error e1 => rw [h2] at h; cases h
      | ok e1 =>
        rw [h2] at h
        dsimp only at h
        refine cellGo_mem ws h fun x hx => ?_
        rcases List.mem_append.mp hx with hx | hx
        · exact k x hx
        · rw [List.mem_singleton.mp hx]
          exact fun c hc => subL_mem hc
theorem prodGo_mem {a : List Nat} : ∀ (m : Nat) {pos : Nat} {fs r : List (List Nat × Int)} {e : Nat}, prodGo a m pos fs = .ok (r, e) → (∀ x ∈ fs, ∀ c ∈ x.1, c ∈ a) → ∀ x ∈ r, ∀ c ∈ x.1, c ∈ a
  | 0, pos, fs, r, e, h, k => by
    unfold prodGo at h
    cases h
  | m + 1, pos, fs, r, e, h, k => by
    unfold prodGo at h
    cases h1 : scanP a pos LET 6 with
    | error e1 => rw [h1] at h; cases h
    | ok e1 =>
      rw [h1] at h
      dsimp only at h
      cases h2 : expoP a e1 with
      | error e2 => rw [h2] at h; cases h
      | ok xp =>
        rw [h2] at h
        dsimp only at h
        have k2 : ∀ x ∈ fs ++ [(subL a pos e1, xp.1)], ∀ c ∈ x.1, c ∈ a := fun x hx => by
          rcases List.mem_append.mp hx with hx | hx
          · exact k x hx
          · rw [List.mem_singleton.mp hx]
            exact fun c hc => subL_mem hc
        split at h
        · cases h
          exact k2
        · exact prodGo_mem m h k2
theorem ok_defD {a : List Nat} {p : Nat} {d : Defn} (ha : ∀ c ∈ a, c < 128) (h : defP a p = .ok d) : D.Ok 4 d.d := by
  have of : ∀ q : Int × Int, D.Ok 3 (frD2 q) := fun q => .tup (D.Ok.ints [q.1, q.2])
  unfold defP at h
  cases h1 : bodyP a p with
  | error e => rw [h1] at h; cases h
  | ok de =>
    obtain ⟨d1, e⟩ := de
    rw [h1] at h
    dsimp only at h
    split at h
    · cases h
    cases h
    unfold bodyP at h1
    split at h1
    · cases h2 : cellP a p with
      | error e => rw [h2] at h1; cases h1
      | ok x =>
        rw [h2] at h1
        cases h1
        refine .tup (.cons (.str (by decide +kernel)) (.cons (.int _) (.cons (.tup ?_) .nil)))
        intro y hy
        obtain ⟨r, hr, rfl⟩ := List.mem_map.mp hy
        refine .str (strOk_S fun c hc => ha c ?_)
        unfold cellP at h2
        split at h2
        · cases h2
        split at h2
        · split at h2
          · cases h2
          next refs pos h3 =>
            split at h2
            · cases h2
            · cases h2
              exact cellGo_mem _ h3 (fun x hx => absurd hx List.not_mem_nil) r hr c hc
        · cases h2
    split at h1
    · cases h2 : linP a with
      | error e => rw [h2] at h1; cases h1
      | ok x =>
        rw [h2] at h1
        cases h1
        exact .tup (.cons (.str (by decide +kernel)) (.cons (of _) (.cons (of _) .nil)))
    · cases h2 : prodP a with
      | error e => rw [h2] at h1; cases h1
      | ok x =>
        rw [h2] at h1
        cases h1
        refine .tup (.cons (.str (by decide +kernel)) (.cons (.tup ?_) .nil))
        intro y hy
        obtain ⟨f, hf, rfl⟩ := List.mem_map.mp hy
        refine .tup (.cons (.str (strOk_S fun c hc => ha c ?_)) (.cons (.int _) .nil))
        exact prodGo_mem _ h2 (fun x hx => absurd hx List.not_mem_nil) f hf c hc
section
variable {P : Program} {w : World} {K : PySem.W.Frag} {mg : Str → Option Value} {base : Heap}
def spLaw (K : PySem.W.Frag) (Pt : Addr) : Sp := fun vs H Q _ => ∃ (a : Addr) (ns : List Int), vs = [.ref a] ∧ SqL K H a (ns.map V.int) ∧ Tabs [(Pt, lamQ)] H ∧ ∀ H', Q (.bl true) H'
theorem ok_law (T : Txt K mg) {c Pt : Addr} (hc : T.law.fd.code = .ref c) (TB : TabB base mg c Pt) : Ok P w K mg base 13 T.law (spLaw K Pt) := by
  refine ok_ofL T.law hc sc_law (fun vs H Q E h => ?_) (fun A outer s H vs Q E hr h => ?_)
  · obtain ⟨a, ns, rfl, _⟩ := h
    rfl
  · obtain ⟨a, ns, rfl, hS, hT, k⟩ := h
    have ok_draw := fun T : Txt K mg => okd_draw (P := P) (w := w) (base := base) T
    have ok_same := fun T : Txt K mg => ok_same (P := P) (w := w) (base := base) T 5
    refine ⟨_, ((pss_cons (ps_set (i := 1) sc_law.nd rfl (by first | exact Or.inl rfl | exact Or.inr rfl) (pcall T.source (ok_source T) (hr.mono (by omega)) passE (pa_cons (pv 0) pa_nil)))
  (pss_cons (ps_set (i := 2) sc_law.nd rfl (by first | exact Or.inl rfl | exact Or.inr rfl) (pe_lst (pa_cons pe_str (pa_cons pe_str (pa_cons pe_str (pa_cons pe_str (pa_cons pe_str (pa_cons pe_str (pa_cons pe_str (pa_cons pe_str (pa_cons pe_str (pa_cons pe_str (pa_cons pe_str (pa_cons pe_str (pa_cons pe_str (pa_cons pe_str pa_nil))))))))))))))))
  (pss_cons (ps_set (i := 2) sc_law.nd rfl (by first | exact Or.inl rfl | exact Or.inr rfl) (pe_op op_sAdd (pv 2) (pe_lst (pa_cons pe_str (pa_cons (pe_op op_sAdd pe_str (pe_op op_sMul pe_str pe_int)) (pa_cons (pe_op op_sAdd pe_str (pe_op op_sMul pe_str pe_int)) (pa_cons (pjoin pe_str (pe_op op_sMul (pe_lst (pa_cons pe_str pa_nil)) pe_int)) (pa_cons (pjoin pe_str (pe_op op_sMul (pe_lst (pa_cons pe_str pa_nil)) pe_int)) (pa_cons pe_str pa_nil)))))))))
  (pss_cons (ps_set (i := 2) sc_law.nd rfl (by first | exact Or.inl rfl | exact Or.inr rfl) (pe_op op_sAdd (pv 2) (pe_lst (pa_cons pe_str (pa_cons pe_str (pa_cons pe_str (pa_cons pe_str (pa_cons pe_str (pa_cons pe_str (pa_cons pe_str (pa_cons pe_str (pa_cons pe_str (pa_cons pe_str pa_nil)))))))))))))
  (pss_cons (ps_set (i := 2) sc_law.nd rfl (by first | exact Or.inl rfl | exact Or.inr rfl) (pe_op op_sAdd (pv 2) (pe_lst (pa_cons pe_str (pa_cons pe_str (pa_cons pe_str (pa_cons pe_str (pa_cons pe_str (pa_cons pe_str (pa_cons pe_str (pa_cons pe_str (pa_cons pe_str (pa_cons pe_str pa_nil)))))))))))))
  (pss_cons (ps_set (i := 2) sc_law.nd rfl (by first | exact Or.inl rfl | exact Or.inr rfl) (pe_op op_sAdd (pv 2) (pe_lst (pa_cons pe_str (pa_cons pe_str (pa_cons pe_str (pa_cons pe_str (pa_cons pe_str (pa_cons pe_str (pa_cons pe_str pa_nil))))))))))
  (C8.pss_cut (ps_set (i := 2) sc_law.nd rfl (by first | exact Or.inl rfl | exact Or.inr rfl) (pe_op op_sAdd (pv 2) (pe_lst (pa_cons pe_str (pa_cons pe_str (pa_cons pe_str (pa_cons pe_str pa_nil)))))))
  (pss_cons (psown (ps_setLc (i := 3) (own := [("_law_k", 4)]) (g := (gName 4)) (tt := tYes) (te := (tCall _ [] E0 (tCons (tVar 1) (tCons (tVar 2) tNil)))) (by rfl) sc_law.nd rfl rfl (sw_true rfl rfl rfl (by decide +kernel)) (pi_range1 (by rfl) T.b_range (pa_cons pe_int pa_nil)) (blkOk_by (own := [("_law_k", 4)]) (N := N_law) (sc := defScope s_law) (by decide +kernel)) (fun _ _ _ _ _ => by exact (pg_name (i := 4) sc_law.nd rfl (by first | exact Or.inl rfl | exact Or.inr rfl))) (fun _ _ _ _ _ => by exact pts_nil) (fun _ _ _ _ _ => by exact (pcall T.pick (ok_pick T) (hr.mono (by omega)) passL (pa_cons (pv 1) (pa_cons (pv 2) pa_nil))))))
  (pss_cons (ps_set (i := 5) sc_law.nd rfl (by first | exact Or.inl rfl | exact Or.inr rfl) (pcall T.modulus (ok_modulus T) (hr.mono (by omega)) passE (pa_cons (pv 1) pa_nil)))
  (pss_cons (ps_for ownE rfl (pi_range1 (by rfl) T.b_range (pa_cons pe_int pa_nil)) (pg_name (i := 6) sc_law.nd rfl (by first | exact Or.inl rfl | exact Or.inr rfl))
  (pss_cons (ps_set (i := 7) sc_law.nd rfl (by first | exact Or.inl rfl | exact Or.inr rfl) (pcall T.definition_text (ok_definition_text T) (hr.mono (by omega)) passE (pa_cons (pcall T.definition (ok_definition T) (hr.mono (by omega)) passE (pa_cons (pv 1) (pa_cons (pv 5) (pa_cons (pcall T.names (ok_names T) (hr.mono (by omega)) passE (pa_cons (pv 1) (pa_cons pe_int pa_nil))) pa_nil)))) pa_nil)))
  (pss_cons (ps_for ownE rfl (pi_range1 (by rfl) T.b_range (pa_cons (pcall T.draw (ok_draw T) (hr.mono (by omega)) passE (pa_cons (pv 1) (pa_cons pe_int pa_nil))) pa_nil)) (pg_name (i := 8) sc_law.nd rfl (by first | exact Or.inl rfl | exact Or.inr rfl))
  (pss_one (ps_set (i := 7) sc_law.nd rfl (by first | exact Or.inl rfl | exact Or.inr rfl) (pcall T.altered (ok_altered T) (hr.mono (by omega)) passE (pa_cons (pv 1) (pa_cons (pv 7) pa_nil))))))
  (pss_one (ps_expr (pe_bm PySem.F.plainAttrs_list PySem.F.slot_list_append PySem.F.type_list_append mt_append (pv 3) (pa_cons (pv 7) pa_nil)))))))
  (pss_cons (ps_for ownE rfl (pi_s (pv 3)) (pg_name (i := 7) sc_law.nd rfl (by first | exact Or.inl rfl | exact Or.inr rfl))
  (pss_cons (ps_set (i := 9) sc_law.nd rfl (by first | exact Or.inl rfl | exact Or.inr rfl) (pe_lamOut (k := 7) (t := fun E => (tCallN 1 1 _ (fun vs zs => vs ++ zs) E (tCons (tVar 7) tNil) (tCons (tVar 5) tNil))) T (by rfl) TB (by rfl) (List.mem_singleton.mpr rfl) (fun p hp _ => congrArg Prod.snd (List.mem_singleton.mp hp)) (hr.mono (by omega)) (lamS_by (sc := defScope s_law) (by decide +kernel)) (by rfl) (fun _ _ _ _ _ => rfl) (fun A outer s' H' E f c' hr => by exact (pcallN (kws := [("modulus", .int 2)]) T.parse_definition (ok_parse_definition T) (hr.mono (by omega)) passLam (by exact (pa_cons (pv 7) pa_nil)) (by exact (pk_cons (pv 5) pk_nil))))))
  (pss_one (ps_if (pt_not (pt_val (pcall T.same (ok_same T) (hr.mono (by omega)) passE (pa_cons (pv 9) (pa_cons (pcall T.due (ok_due T) (hr.mono (by omega)) passE (pa_cons (pv 7) (pa_cons (pv 5) pa_nil))) pa_nil)))))
  (pss_one (ps_ret pe_bl))
  pss_nil))))
  (pss_one (ps_ret (pe_cmpR (op_sEq hr.units) (pe_lamOut (k := 7) (t := fun E => (tCall _ _ E (tCons (tC _) tNil))) T (by rfl) TB (by rfl) (List.mem_singleton.mpr rfl) (fun p hp _ => congrArg Prod.snd (List.mem_singleton.mp hp)) (hr.mono (by omega)) (lamS_by (sc := defScope s_law) (by decide +kernel)) (by rfl) (fun _ _ _ _ _ => rfl) (fun A outer s' H' E f c' hr => by exact (pcallD T.parse_definition (ok_parse_definition T) (hr.mono (by omega)) passLam (pa_cons pe_str pa_nil)))) (pe_tup (pa_cons pe_str (pa_cons pe_int pa_nil))) (nomark _)))))))))))))))), ?_⟩
    try dsimp only [L2.cxOf]
    refine law_begin (C := T.mC) (n := 8) hS hT k fun rl H0 => ?_
    have ca : ("a^" : Str) = S [97, 94] := by decide +kernel
    walk_at "wx"
    refine o_mulS (by decide +kernel) ?_
    rw [show repS ("9" : Str) ((30 : Int)).toNat = S (List.replicate 30 57) from by decide +kernel, ca]
    walk_at "wx"
    refine o_addS (by rw [S_len, S_len]; decide) ?_
    rw [S_cat]
    walk_at "wx"
    refine o_mulS (by decide +kernel) ?_
    rw [show repS ("9" : Str) ((31 : Int)).toNat = S (List.replicate 31 57) from by decide +kernel]
    walk_at "wx"
    refine o_addS (by rw [S_len, S_len]; decide) ?_
    rw [S_cat]
    walk_at "wx"
    refine w_newO (o_mulLst (by decide) (Nat.le_of_ble_eq_true rfl) ?_ rfl)
    walk_at "wx"
    refine m_join (ys := List.replicate 12 "a") (by decide +kernel) ?_ rfl
    rw [show Txt.join (" " : Str) (List.replicate 12 "a") = S (TL.joinL [32] (List.replicate 12 [97])) from by decide +kernel]
    walk_at "wx"
    refine w_newO (o_mulLst (by decide) (Nat.le_of_ble_eq_true rfl) ?_ rfl)
    walk_at "wx"
    refine m_join (ys := List.replicate 13 "a") (by decide +kernel) ?_ rfl
    rw [show Txt.join (" " : Str) (List.replicate 13 "a") = S (TL.joinL [32] (List.replicate 13 [97])) from by decide +kernel]
    walk_at "wx"
    refine w_newO (o_addL (by decide +kernel) ?_ rfl rfl)
    walk_at "wx"
    refine w_newO (o_addL (by decide +kernel) ?_ rfl rfl)
    walk_at "wx"
    refine w_newO (o_addL (by decide +kernel) ?_ rfl rfl)
    walk_at "wx"
    refine w_newO (o_addL (by decide +kernel) ?_ rfl rfl)
    walk_at "wx"
    refine w_cutI (fun cs sl => ∃ L : List D, (∀ y ∈ L, chkT y = true) ∧ 0 < L.length ∧ L.length ≤ 900000 ∧ cs = [] ∧ sl = [none, some .r, some (.d (.lst L)), none, none, none, none, none, none, none]) ?_ ?_
    · walk_at "wx"
      refine w_newO (o_addL (by decide +kernel) ?_ rfl rfl)
      walk_at "wx"
      refine ⟨_, ⟨_, ?_, ?_, ?_, rfl, rfl⟩, And.intro rfl (And.intro rfl trivial)⟩
      · intro y hy
        refine List.all_eq_true.mp ?_ y hy
        decide +kernel
      · decide +kernel
      · decide +kernel
    rintro cs3 sl3 ⟨L, hL, hl1, hl2, rfl, rfl⟩
    walk_at "wx"
    refine rg (by decide) ?_
    refine lck (fun i ds => ∃ u : List (List Nat), u.length = i ∧ (∀ a ∈ u, a.length ≤ 592 ∧ ∀ c ∈ a, c < 128) ∧ ds = u.map fun a => .str (S a)) ⟨[], rfl, fun c h => absurd h List.not_mem_nil, rfl⟩ (fun i x ds st2 hx hI => ?_) (fun ds _ hI => ?_)
    · obtain ⟨u, hu1, hu2, rfl⟩ := hI
      unfold LcT
      walk_at "wx"
      refine use_dPick (fun y hy => ?_) ⟨hl1, hl2⟩
      obtain ⟨a, rfl, ha1, ha2⟩ := chkT_iff (hL y hy)
      walk_at "wx"
      exact ⟨u ++ [a], by rw [List.length_append, hu1]; rfl, fun d hd => by
        rcases List.mem_append.mp hd with hd | hd
        · exact hu2 d hd
        · rw [List.mem_singleton.mp hd]
          exact ⟨by omega, ha2⟩, by rw [List.map_append]; rfl⟩
    rw [List.length_map, List.length_range] at hI
    obtain ⟨u, hu1, hu2, rfl⟩ := hI
    walk_at "wx"
    refine ⟨rfl, fun p hp => ?_⟩
    have hp2 := hp.pos
    walk_at "wx"
    refine rg (by decide) ?_
    refine for_kf 1 6 (fun i cs sl => ∃ (u : List (List Nat)), u.length = 6 + i ∧ (∀ a ∈ u, a.length ≤ 592 ∧ ∀ c ∈ a, c < 128) ∧ cs = [some (.lst (u.map fun a => .str (S a)))] ∧ sl = [none, some .r, some (.d (.lst L)), some (.c 0), none, some (.d (dn p)), none, none, none, none]) (Nat.le_refl 1) ⟨u, hu1, hu2, rfl, rfl⟩ ?_ ?_
    · rintro i x cs2 sl2 st2 hx ⟨u, hu1, hu2, rfl, rfl⟩
      have hi2 : i < 6 := by
        have h := (List.getElem?_eq_some_iff.mp hx).1
        rw [List.length_map, List.length_range] at h
        exact h
      walk_at "wx"
      refine ⟨3, rfl, by decide, fun ns hnl hns => ?_⟩
      walk_at "wx"
      refine ⟨p, ns, rfl, hp, by omega, hns, fun d hd => ?_⟩
      walk_at "wx"
      refine ⟨d, p, ns, rfl, hp, hd, fun a ha1 ha2 => ?_⟩
      walk_at "wx"
      refine use_dDrawN 3 fun many hmany => ?_
      walk_at "wx"
      refine rg (by omega) ?_
      rw [Int.toNat_natCast]
      refine for_k (fun j cs sl => ∃ (b : List Nat) (y : Option Sd), b.length ≤ 590 + j ∧ (∀ c ∈ b, c < 128) ∧ cs = [some (.lst (u.map fun a => .str (S a)))] ∧ sl = [none, some .r, some (.d (.lst L)), some (.c 0), none, some (.d (dn p)), some (.d x), some (.d (.str (S b))), y, none]) ⟨a, _, by omega, ha2, rfl, rfl⟩ ?_ ?_
      · rintro j y cs3 sl3 st3 hy ⟨b, y2, hb1, hb2, rfl, rfl⟩
        have hj2 : j < many := by
          have h := (List.getElem?_eq_some_iff.mp hy).1
          rw [List.length_map, List.length_range] at h
          exact h
        walk_at "wx"
        refine ⟨b, rfl, by omega, fun b2 hb3 hb4 => ?_⟩
        walk_at "wx"
        exact ⟨b2, _, by omega, fun c hc => (hb4 c hc).elim (hb2 c) id, rfl, rfl⟩
      · rintro cs3 sl3 ⟨b, y2, hb1, hb2, rfl, rfl⟩
        rw [List.length_map, List.length_range] at hb1
        walk_at "wx"
        refine m_append ?_ (by rw [List.length_map]; omega) rfl rfl
        walk_at "wx"
        exact ⟨u ++ [b], by rw [List.length_append, hu1]; rfl, fun d hd => by
          rcases List.mem_append.mp hd with hd | hd
          · exact hu2 d hd
          · rw [List.mem_singleton.mp hd]
            exact ⟨by omega, hb2⟩, by rw [List.map_append]; rfl, rfl⟩
    · rintro cs2 sl2 ⟨u, hu1, hu2, rfl, rfl⟩
      walk_at "wx"
      refine ⟨_, rfl, ?_⟩
      refine for_kf 1 6 (fun i cs sl => cs = [some (.lst (u.map fun a => .str (S a)))] ∧ sl = [none, some .r, some (.d (.lst L)), some (.c 0), none, some (.d (dn p)), none, none, none, none]) (Nat.le_refl 1) ⟨rfl, rfl⟩ ?_ ?_ ?_
      · rintro i x cs2 sl2 st2 hx ⟨rfl, rfl⟩
        rw [List.getElem?_map] at hx
        obtain ⟨a, hf, rfl⟩ := Option.map_eq_some_iff.mp hx
        obtain ⟨ha1, ha2⟩ := hu2 a (List.mem_of_getElem? hf)
        walk_at "wx"
        refine ⟨a, p, rfl, by omega, fun q hq hq2 => ?_, fun h => ?_⟩
        · obtain rfl : p = q := by omega
          refine ⟨fun d hd hl => ?_, fun f o hd hl => ?_, fun e he => ?_⟩
          · have hdue : dueD a p = .tup [.str "", d.d] := by
              unfold dueD
              rw [hd]
              cases d with
              | lin f o =>
                show (if isLin f o p = true then _ else _) = _
                rw [if_pos (hl f o rfl)]
              | _ => rfl
            walk_at "wx"
            refine ⟨a, p, rfl, hp, by omega, ?_⟩
            rw [hdue]
            walk_at "wx"
            refine use_dSame (.tup (.cons (.str (by decide +kernel)) (.cons (ok_defD ha2 hd) .nil))) ?_
            walk_at "wx"
            exact ⟨rfl, rfl⟩
          · have hdue : dueD a p = .tup [.str "InvalidFraction", .non] := by
              unfold dueD
              rw [hd]
              show (if isLin f o p = true then _ else _) = _
              rw [if_neg (by rw [hl]; exact Bool.false_ne_true)]
            refine hit ⟨T.f_InvalidFraction, T.e_InvalidFraction.no⟩ T.h_InvalidFraction ?_
            refine ⟨.non, scd_non, ?_⟩
            walk_at "wx"
            refine ⟨a, p, rfl, hp, by omega, ?_⟩
            rw [hdue]
            walk_at "wx"
            refine use_dSame (.tup (.cons (.str (by decide +kernel)) (.cons .non .nil))) ?_
            walk_at "wx"
            exact ⟨rfl, rfl⟩
          · have hdue : dueD a p = .tup [.str "InvalidText", dn e] := by
              unfold dueD
              rw [he]
            refine hit ⟨T.f_InvalidText, T.e_InvalidText.no⟩ T.h_InvalidText ⟨.int e, scd_int _, ?_⟩
            walk_at "wx"
            refine ⟨a, p, rfl, hp, by omega, ?_⟩
            rw [hdue]
            walk_at "wx"
            refine use_dSame (.tup (.cons (.str (by decide +kernel)) (.cons (.int _) .nil))) ?_
            walk_at "wx"
            exact ⟨rfl, rfl⟩
        · exfalso
          rcases hp with rfl | rfl | rfl <;> exact absurd h (by decide)
      · rintro cs2 sl2 ⟨rfl, rfl⟩
        walk_at "wx"
        have h6 : defP [91, 49, 58, 32, 105, 100, 59, 32, 97, 93] 2 = .error 6 := rfl
        refine ⟨[91, 49, 58, 32, 105, 100, 59, 32, 97, 93], 2, by congr 1, by decide, fun q hq hq2 => ?_, fun h => absurd h (by decide)⟩
        obtain rfl : 2 = q := by omega
        refine ⟨fun d hd hl => ?_, fun f o hd hl => ?_, fun e he => ?_⟩
        · rw [h6] at hd
          cases hd
        · rw [h6] at hd
          cases hd
        · rw [h6] at he
          cases he
          refine hit ⟨T.f_InvalidText, T.e_InvalidText.no⟩ T.h_InvalidText ⟨.int 6, scd_int _, ?_⟩
          walk_at "wx"
          refine o_eqSame (n := 1) (dx := .tup [.str "InvalidText", .int 6]) (.tup (.cons (.str (by decide +kernel)) (.cons (.int _) .nil))) ?_
          exact rtl
      · rintro i cs2 sl2 ⟨rfl, rfl⟩
        rfl
end
end R

/-! # E: the end -/
namespace R
open PySem PySem.Spec PyProof.Rows L2
theorem df_ex {K : PySem.W.Frag} {h : Heap} {mg : Str → Option Value} (X : K.In h) (G : h.Ns mainGlobals mg) {x : Str} {st : Stmt} {ps : List Str} {f : Addr} {od an : Option Addr} {sl : Array (Option Value)} {oc kV dc pm cd ct : Value}
    (a : PySem.W.nsIn K mainGlobals x = some (some (.ref f))) (l : K.lookup f = some ⟨oc, od, .func (PySem.W.fnOf x x (defArgs st) (defBody st) (defScope st) .none kV dc pm an cd ct), sl⟩) (c : PySem.W.codeIn K cd x = true) (k : PySem.W.keepIn K (.ref f) = true)
    (hb : ∀ (kV doc pm : Value) (an : Option Addr) (cdv ct : Value) (us : List Value), us.length = ps.length → bindArgs (PySem.W.fnOf x x (defArgs st) (defBody st) (defScope st) .none kV doc pm an cdv ct) ⟨us, []⟩ = pure (ps.zip us)) : Nonempty (DF K mg x st ps) :=
  ⟨⟨f, _, fun_mk l c k, PySem.W.mg_of X G a, (fun_mk l c k).binds hb⟩⟩
theorem gv_ex {K : PySem.W.Frag} {h : Heap} {mg : Str → Option Value} (X : K.In h) (G : h.Ns mainGlobals mg) {x : Str} {v : V} {u : Value} (a : PySem.W.nsIn K mainGlobals x = some (some u)) (r : RelV v u) : GV mg x v := ⟨u, PySem.W.mg_of X G a, r⟩
theorem ex_ex {K : PySem.W.Frag} {h : Heap} {mg : Str → Option Value} (X : K.In h) (G : h.Ns mainGlobals mg) {x qual : Str} {st : Stmt} {ps : List Str} {C f : Addr} {oc : Value} {od an : Option Addr} {sl : Array (Option Value)} {kV dc pm cd ct : Value}
    {nm q : Str} {N : Addr} {bs bm : List Value} {sn : List Str} {sub : List Value} {ab : Bool} {col : Option Bool} {dd : Option Addr} {k0 k1 k2 k3 k5 : Option Value}
    (a : PySem.W.nsIn K mainGlobals x = some (some (.ref C))) (lC : K.lookup C = some (excClassObj nm q C N bs bm true sn sub ab col dd k0 k1 k2 k3 k5 "ValueError.__new__")) (rv : PySem.HandSPX.refsVE bm = true)
    (sa : PySem.W.findIn K (.ref C) "__setattr__" = some (some (.builtin "object.__setattr__"))) (exC : PySem.W.subIn K (.ref C) (.type "BaseException") = some true) (tyC : PySem.W.typeIn K (.ref C) = some (.type "type")) (kC : PySem.W.keepIn K (.ref C) = true)
    (iC : PySem.W.findIn K (.ref C) "__init__" = some (some (.ref f))) (tI : PySem.W.typeIn K (.ref f) = some (.type "function"))
    (l : K.lookup f = some ⟨oc, od, .func (PySem.W.fnOf "__init__" qual (defArgs (inClass st 0)) (defBody (inClass st 0)) (defScope (inClass st 0)) .none kV dc pm an cd ct), sl⟩) (c : PySem.W.codeIn K cd qual = true) (k : PySem.W.keepIn K (.ref f) = true)
    (hb : ∀ (kV doc pm : Value) (an : Option Addr) (cdv ct : Value) (us : List Value), us.length = ps.length → bindArgs (PySem.W.fnOf "__init__" qual (defArgs (inClass st 0)) (defBody (inClass st 0)) (defScope (inClass st 0)) .none kV doc pm an cdv ct) ⟨us, []⟩ = pure (ps.zip us))
    (n0 : PySem.W.findIn K (.ref C) "tag" = some none) (n1 : PySem.W.findIn K (.ref C) "state" = some none) (n2 : PySem.W.findIn K (.ref C) "position" = some none) (n3 : PySem.W.findIn K (.ref C) "name" = some none) (n4 : PySem.W.findIn K (.ref C) "row" = some none) : Nonempty (EX K mg x qual st ps) :=
  ⟨⟨C, f, _, ⟨⟨nm, q, N, bs, bm, sn, sub, ab, col, dd, k0, k1, k2, k3, k5, lC, rv⟩, sa, exC, tyC, kC⟩, PySem.W.mg_of X G a, iC, tI, fun_mk l c k, (fun_mk l c k).binds hb, fun g hg => by
    unfold efs at hg
    simp only [List.mem_cons, List.not_mem_nil, or_false] at hg
    rcases hg with rfl | rfl | rfl | rfl | rfl <;> assumption⟩⟩
theorem tup_ex {K : PySem.W.Frag} {h : Heap} {mg : Str → Option Value} (X : K.In h) (G : h.Ns mainGlobals mg) {x : Str} {a : Addr} {dd : Option Addr} {its : Array Value} {n : Nat} {sl : Array (Option Value)} {xs : List V}
    (e : PySem.W.nsIn K mainGlobals x = some (some (.ref a))) (l : K.lookup a = some ⟨.type "tuple", dd, .seq its n, sl⟩) (r : Vals xs its.toList) (hz : its.size ≤ 1000) : ∃ a, GV mg x (.ref a) ∧ ∀ H, SqT K H a xs :=
  ⟨a, ⟨.ref a, PySem.W.mg_of X G e, rfl⟩, fun _ => .inr ⟨_, its, n, l, rfl, rfl, Nat.le_trans hz (by decide), r⟩⟩
/-- a class; its address stays told -/
theorem ck_in {K : PySem.W.Frag} {h : Heap} {mg : Str → Option Value} {P : Prop} (X : K.In h) (G : h.Ns mainGlobals mg) {x : Str} {fl : List Str} {C : Addr} (a : PySem.W.nsIn K mainGlobals x = some (some (.ref C)))
    (pg : PySem.W.plainGet K C Str.empty = true) (hd : PySem.W.hasDictIn K C = true) (po : PySem.W.plainOver K C = true) (sa : PySem.W.findIn K (.ref C) "__setattr__" = some (some (.builtin "object.__setattr__")))
    (no : ∀ f ∈ fl, NoAttr K C f) (k : ∀ d : CK K mg x fl, d.C = C → P) : P := k ⟨C, ⟨pg, hd, po, sa⟩, PySem.W.mg_of X G a, no⟩ rfl
theorem mt_in {K : PySem.W.Frag} {h : Heap} {P : Prop} (X : K.In h) {C0 C f : Addr} {m qual : Str} {st : Stmt} {ps : List Str} {oc : Value} {od an : Option Addr} {sl : Array (Option Value)} {kV dc pm cd ct : Value} (hC : C0 = C)
    (a : PySem.W.findIn K (.ref C) m = some (some (.ref f))) (l : K.lookup f = some ⟨oc, od, .func (PySem.W.fnOf m qual (defArgs st) (defBody st) (defScope st) .none kV dc pm an cd ct), sl⟩) (c : PySem.W.codeIn K cd qual = true) (k : PySem.W.keepIn K (.ref f) = true) (fn : PySem.W.isFn K (.ref f) = true)
    (hb : ∀ (kV doc pm : Value) (an : Option Addr) (cdv ct : Value) (us : List Value), us.length = ps.length → bindArgs (PySem.W.fnOf m qual (defArgs st) (defBody st) (defScope st) .none kV doc pm an cdv ct) ⟨us, []⟩ = pure (ps.zip us)) (go : ∀ d : MT K C0 m qual st ps, d.f = f → P) : P := by
  subst hC
  exact go ⟨f, _, fun_mk l c k, ⟨a, fn, k⟩, (fun_mk l c k).binds hb⟩ rfl
theorem kbn1 {K : PySem.W.Frag} {x qual : Str} {st : Stmt} {f : Addr} {fd : FuncData} {ps : List Str} {s : Str} {v : V} (F : FunD K x qual (defArgs st) (defBody st) (defScope st) [] [(s, v)] f fd) (n : Nat)
    (hkb : ∀ (D : Addr) (doc pm : Value) (an : Option Addr) (cdv ct : Value) (us mv ws : List Value), us.length = n → mv.length = 0 → ws.length = 1 → bindArgs (PySem.W.fnOf x qual (defArgs st) (defBody st) (defScope st) .none (.ref D) doc pm an cdv ct) ⟨us, [s].zip ws⟩ = pure (ps.zip (us ++ ws))) :
    KBn K fd ps n [s] (fun us ws => us ++ ws) (fun vs zs => vs ++ zs) := by
  obtain ⟨_, h⟩ := F.kbinds0 n [s] [] (fun us _ ws => us ++ ws) (List.cons_ne_nil _ _) (fun _ h => absurd h List.not_mem_nil) (fun r1 _ r3 => r1.append r3) (fun D doc pm an cdv ct us mv ws h1 h2 h3 => hkb D doc pm an cdv ct us mv ws h1 h2 h3)
  exact h
theorem ik_in {K : PySem.W.Frag} {h : Heap} {P : Prop} (X : K.In h) {C0 C f D : Addr} {qual : Str} {st : Stmt} {ps : List Str} {n : Nat} {s : Str} {v : V} {u : Value} {oc : Value} {od an : Option Addr} {sl : Array (Option Value)} {dc pm cd ct : Value} (hC : C0 = C)
    (mk : PySem.W.makesIn K C = true) (a : PySem.W.findIn K (.ref C) "__init__" = some (some (.ref f))) (fn : PySem.W.isFn K (.ref f) = true) (kC : PySem.W.keepIn K (.ref C) = true)
    (l : K.lookup f = some ⟨oc, od, .func (PySem.W.fnOf "__init__" qual (defArgs st) (defBody st) (defScope st) .none (.ref D) dc pm an cd ct), sl⟩) (c : PySem.W.codeIn K cd qual = true) (k : PySem.W.keepIn K (.ref f) = true)
    (w : PySem.W.nsIn K D s = some (some u)) (r : RelV v u) (hn : n + 1 = ps.length)
    (hb : ∀ (D : Addr) (doc pm : Value) (an : Option Addr) (cdv ct : Value) (us ks : List Value), us.length = n → ks.length = 1 → KwChain D ([s].zip ks) (bindArgs (PySem.W.fnOf "__init__" qual (defArgs st) (defBody st) (defScope st) .none (.ref D) doc pm an cdv ct) ⟨us, []⟩) (ps.zip (us ++ ks)))
    (hkb : ∀ (D : Addr) (doc pm : Value) (an : Option Addr) (cdv ct : Value) (us mv ws : List Value), us.length = n → mv.length = 0 → ws.length = 1 → bindArgs (PySem.W.fnOf "__init__" qual (defArgs st) (defBody st) (defScope st) .none (.ref D) doc pm an cdv ct) ⟨us, [s].zip ws⟩ = pure (ps.zip (us ++ ws)))
    (go : ∀ d : IK K C0 qual st ps n [(s, v)], P) : P := by
  subst hC
  have F : FunD K "__init__" qual (defArgs st) (defBody st) (defScope st) [] [(s, v)] f _ := ⟨⟨oc, od, .none, .ref D, dc, pm, an, cd, ct, sl, rfl, l, c, .inl ⟨rfl, rfl⟩, .inr ⟨D, rfl, fun q hq => by rw [List.mem_singleton.mp hq]; exact ⟨u, w, r⟩⟩⟩, k⟩
  obtain ⟨ds, h1, h2⟩ := F.binds0 n (List.cons_ne_nil _ _) hn hb
  exact go ⟨f, _, F, ⟨mk, a, fn, kC⟩, ds, h1, h2, kbn1 F n hkb⟩
theorem dk_ex {K : PySem.W.Frag} {h : Heap} {mg : Str → Option Value} (X : K.In h) (G : h.Ns mainGlobals mg) {x : Str} {f D : Addr} {st : Stmt} {ps : List Str} {n : Nat} {s : Str} {v : V} {u : Value} {oc : Value} {od an : Option Addr} {sl : Array (Option Value)} {dc pm cd ct : Value}
    (a : PySem.W.nsIn K mainGlobals x = some (some (.ref f))) (l : K.lookup f = some ⟨oc, od, .func (PySem.W.fnOf x x (defArgs st) (defBody st) (defScope st) .none (.ref D) dc pm an cd ct), sl⟩) (c : PySem.W.codeIn K cd x = true) (k : PySem.W.keepIn K (.ref f) = true)
    (w : PySem.W.nsIn K D s = some (some u)) (r : RelV v u) (hn : n + 1 = ps.length)
    (hb : ∀ (D : Addr) (doc pm : Value) (an : Option Addr) (cdv ct : Value) (us ks : List Value), us.length = n → ks.length = 1 → KwChain D ([s].zip ks) (bindArgs (PySem.W.fnOf x x (defArgs st) (defBody st) (defScope st) .none (.ref D) doc pm an cdv ct) ⟨us, []⟩) (ps.zip (us ++ ks)))
    (hkb : ∀ (D : Addr) (doc pm : Value) (an : Option Addr) (cdv ct : Value) (us mv ws : List Value), us.length = n → mv.length = 0 → ws.length = 1 → bindArgs (PySem.W.fnOf x x (defArgs st) (defBody st) (defScope st) .none (.ref D) doc pm an cdv ct) ⟨us, [s].zip ws⟩ = pure (ps.zip (us ++ ws))) :
    Nonempty (DK K mg x st ps n [(s, v)]) := by
  have F : FunD K x x (defArgs st) (defBody st) (defScope st) [] [(s, v)] f _ := ⟨⟨oc, od, .none, .ref D, dc, pm, an, cd, ct, sl, rfl, l, c, .inl ⟨rfl, rfl⟩, .inr ⟨D, rfl, fun q hq => by rw [List.mem_singleton.mp hq]; exact ⟨u, w, r⟩⟩⟩, k⟩
  obtain ⟨ds, h1, h2⟩ := F.binds0 n (List.cons_ne_nil _ _) hn hb
  exact ⟨⟨f, _, F, PySem.W.mg_of X G a, ds, h1, h2, kbn1 F n hkb⟩⟩
theorem kit_own {K : PySem.W.Frag} {C : Addr} {n : String} (ic : PySem.W.isClsIn K C = true) (ty : PySem.W.typeIn K (.ref C) = some (.type "type")) (s : PySem.W.subIn K (.type n) (.ref C) = some false) : PySem.W.kitOne K (.type n) (.ref C) = some false := by
  unfold PySem.W.kitOne
  rw [if_neg (by simp)]
  unfold PySem.W.kitCls
  have e : (PySem.W.clsIn K C).isSome = true := ic
  simp only [e, ty, BEq.rfl, Bool.and_self, if_true]
  exact s
theorem eq_in {K : PySem.W.Frag} {h : Heap} {P : Prop} (X : K.In h) {C0 C f0 f : Addr} (hC : C0 = C) (hf : f0 = f) (eq : PySem.W.findIn K (.ref C) "__eq__" = some (some (.ref f))) (fn : PySem.W.isFn K (.ref f) = true) (ne : PySem.W.findIn K (.ref C) "__ne__" = some (some (.builtin "object.__ne__")))
    (pl : PySem.W.plainOver K C = true) (ca : PySem.W.findIn K (.ref C) "__class__" = some (some (.builtin "object.__class__"))) (cn : PySem.W.specialIn K (.builtin "object.__class__") "__get__" = some (some (.builtin "getset_descriptor.__get__"))) (ct : PySem.W.takesIn K (.builtin "object.__class__") = some true)
    (cm : PySem.W.mroIn K C (.type "object") = some true) (ic : PySem.W.isClsIn K C = true) (ty : PySem.W.typeIn K (.ref C) = some (.type "type")) (s1 : PySem.W.subIn K (.type "NoneType") (.ref C) = some false) (s2 : PySem.W.subIn K (.type "tuple") (.ref C) = some false) (s3 : PySem.W.subIn K (.type "str") (.ref C) = some false) (go : EQ K C0 f0 → P) : P := by
  subst hC hf
  have k1 := kit_own ic ty s1
  have k2 := kit_own ic ty s2
  have k3 := kit_own ic ty s3
  exact go ⟨eq, fn, ne, pl, ca, cn, ct, cm, fun n hn => by
    simp only [List.mem_cons, List.not_mem_nil, or_false] at hn
    rcases hn with rfl | rfl | rfl <;> assumption⟩
end R

/-! # ET: the end of a law that makes lambdas -/
namespace R
open PySem PySem.Spec PyProof.Rows L2 LamX
theorem ex_in {K : PySem.W.Frag} {h : Heap} {mg : Str → Option Value} (X : K.In h) (G : h.Ns mainGlobals mg) {x qual : Str} {st : Stmt} {ps : List Str} {Pr : Prop} {x1 x2 x3 y1 y2 y3 C f : Addr} {oc : Value} {od an : Option Addr} {sl : Array (Option Value)} {kV dc pm cd ct : Value}
    {nm q : Str} {N : Addr} {bs bm : List Value} {sn : List Str} {sub : List Value} {ab : Bool} {col : Option Bool} {dd : Option Addr} {k0 k1 k2 k3 k5 : Option Value}
    (e1 : x1 = y1) (e2 : x2 = y2) (e3 : x3 = y3)
    (a : PySem.W.nsIn K mainGlobals x = some (some (.ref C))) (lC : K.lookup C = some (excClassObj nm q C N bs bm true sn sub ab col dd k0 k1 k2 k3 k5 "ValueError.__new__")) (rv : PySem.HandSPX.refsVE bm = true)
    (sa : PySem.W.findIn K (.ref C) "__setattr__" = some (some (.builtin "object.__setattr__"))) (exC : PySem.W.subIn K (.ref C) (.type "BaseException") = some true) (tyC : PySem.W.typeIn K (.ref C) = some (.type "type")) (kC : PySem.W.keepIn K (.ref C) = true)
    (iC : PySem.W.findIn K (.ref C) "__init__" = some (some (.ref f))) (tI : PySem.W.typeIn K (.ref f) = some (.type "function"))
    (l : K.lookup f = some ⟨oc, od, .func (PySem.W.fnOf "__init__" qual (defArgs (inClass st 0)) (defBody (inClass st 0)) (defScope (inClass st 0)) .none kV dc pm an cd ct), sl⟩) (c : PySem.W.codeIn K cd qual = true) (k : PySem.W.keepIn K (.ref f) = true)
    (hb : ∀ (kV doc pm : Value) (an : Option Addr) (cdv ct : Value) (us : List Value), us.length = ps.length → bindArgs (PySem.W.fnOf "__init__" qual (defArgs (inClass st 0)) (defBody (inClass st 0)) (defScope (inClass st 0)) .none kV doc pm an cdv ct) ⟨us, []⟩ = pure (ps.zip us))
    (n0 : PySem.W.findIn K (.ref C) "tag" = some none) (n1 : PySem.W.findIn K (.ref C) "state" = some none) (n2 : PySem.W.findIn K (.ref C) "position" = some none) (n3 : PySem.W.findIn K (.ref C) "name" = some none) (n4 : PySem.W.findIn K (.ref C) "row" = some none)
    (g1 : PySem.W.findIn K (.ref C) "__getattribute__" = some (some (.builtin "BaseException.__getattribute__"))) (g2 : PySem.W.findIn K (.ref C) "__getattr__" = some none) (g4 : PySem.W.hasDictIn K C = true) (hx : PySem.W.exmAny K (.ref C) [.ref y1, .ref y2, .ref y3] = some true)
    (go : ∀ d : EX K mg x qual st ps, PySem.W.exmAny K (.ref d.C) [.ref x1, .ref x2, .ref x3] = some true → XfC K d.C → Pr) : Pr := by
  subst e1 e2 e3
  exact go ⟨C, f, _, ⟨⟨nm, q, N, bs, bm, sn, sub, ab, col, dd, k0, k1, k2, k3, k5, lC, rv⟩, sa, exC, tyC, kC⟩, PySem.W.mg_of X G a, iC, tI, fun_mk l c k, (fun_mk l c k).binds hb, fun g hg => by
    unfold efs at hg
    simp only [List.mem_cons, List.not_mem_nil, or_false] at hg
    rcases hg with rfl | rfl | rfl | rfl | rfl <;> assumption⟩ hx ⟨g1, g2, exC, g4⟩
theorem nm_in {K : PySem.W.Frag} {h : Heap} {mg : Str → Option Value} {Pr : Prop} (X : K.In h) (G : h.Ns mainGlobals mg) {x : Str} {C : Addr} (a : PySem.W.nsIn K mainGlobals x = some (some (.ref C))) (go : ∀ C0, mg x = some (.ref C0) → C0 = C → Pr) : Pr := go C (PySem.W.mg_of X G a) rfl
/-- the law's def, its code object told -/
theorem dl_in {K : PySem.W.Frag} {h : Heap} {mg : Str → Option Value} {Pr : Prop} (X : K.In h) (G : h.Ns mainGlobals mg) {x : Str} {st : Stmt} {ps : List Str} {f c : Addr} {od an : Option Addr} {sl : Array (Option Value)} {oc kV dc pm ct : Value}
    (a : PySem.W.nsIn K mainGlobals x = some (some (.ref f))) (l : K.lookup f = some ⟨oc, od, .func (PySem.W.fnOf x x (defArgs st) (defBody st) (defScope st) .none kV dc pm an (.ref c) ct), sl⟩) (cc : PySem.W.codeIn K (.ref c) x = true) (k : PySem.W.keepIn K (.ref f) = true)
    (hb : ∀ (kV doc pm : Value) (an : Option Addr) (cdv ct : Value) (us : List Value), us.length = ps.length → bindArgs (PySem.W.fnOf x x (defArgs st) (defBody st) (defScope st) .none kV doc pm an cdv ct) ⟨us, []⟩ = pure (ps.zip us))
    (go : ∀ d : DF K mg x st ps, d.fd.code = .ref c → Pr) : Pr := go ⟨f, _, fun_mk l cc k, PySem.W.mg_of X G a, (fun_mk l cc k).binds hb⟩ rfl
theorem code_hd {K : PySem.W.Frag} {c Pt : Addr} {dd : Option Addr} {vs : Array Value} {sl : Array (Option Value)} {file : Str} {tf tg tt : Tok} {flags text : Int} {inF : Bool} (l : K.lookup c = some ⟨.type "code", dd, .fields vs, sl⟩) (h1 : vs[11]? = some (.ref Pt)) (h2 : vs.getD 11 .none = .ref Pt)
    (h3 : vs.getD 18 .none = .str file tf) (h4 : vs.getD 7 .none = .int flags tg) (h5 : vs.getD 9 .none = .bool inF) (h6 : vs.getD 10 .none = .int text tt) (h7 : c ≠ Pt) : ∀ h : Heap, K.In h → PySem.W.CodeHd h c Pt := fun h X => ⟨_, vs, file, tf, flags, tg, inF, text, tt, X _ _ l, rfl, rfl, h1, h2, h3, h4, h5, h6, h7⟩
/-- what the end must tell -/
def LawT (l : PySem.W.OpenLaw) (w : World) (K : PySem.W.Frag) (mg : Str → Option Value) (k : Nat) (nm : Str) : Prop :=
  ∃ (T : Txt K mg) (c Pt : Addr) (e : Value) (dd : Option Addr) (vs : Array Value) (sl : Array (Option Value)), mg nm = some (.ref T.law.f) ∧ (∀ (s : Shared) (u : Value), BindsTo s T.law.fd ⟨[u], []⟩ [("_law_script", u)]) ∧ T.law.fd.code = .ref c ∧
    K.lookup c = some ⟨e, dd, .fields vs, sl⟩ ∧ vs[11]? = some (.ref Pt) ∧ K.lookup Pt = none ∧ (∀ h : Heap, K.In h → PySem.W.CodeHd h c Pt) ∧ ∀ base : Heap, TabB base mg c Pt → Ok l.prog w K mg base k T.law (spLaw K Pt)
theorem lt_mk {l : PySem.W.OpenLaw} {w : World} {K : PySem.W.Frag} {mg : Str → Option Value} {k : Nat} {nm : Str} (T : Txt K mg) {c Pt : Addr} {dd : Option Addr} {vs : Array Value} {sl : Array (Option Value)} {file : Str} {tf tg tt : Tok} {flags text : Int} {inF : Bool}
    (g : mg nm = some (.ref T.law.f)) (hb : ∀ (s : Shared) (u : Value), BindsTo s T.law.fd ⟨[u], []⟩ [("_law_script", u)]) (hc : T.law.fd.code = .ref c) (lc : K.lookup c = some ⟨.type "code", dd, .fields vs, sl⟩) (h1 : vs[11]? = some (.ref Pt)) (lP : K.lookup Pt = none) (h2 : vs.getD 11 .none = .ref Pt)
    (h3 : vs.getD 18 .none = .str file tf) (h4 : vs.getD 7 .none = .int flags tg) (h5 : vs.getD 9 .none = .bool inF) (h6 : vs.getD 10 .none = .int text tt) (h7 : c ≠ Pt) (ok : ∀ base : Heap, TabB base mg c Pt → Ok l.prog w K mg base k T.law (spLaw K Pt)) : LawT l w K mg k nm :=
  ⟨T, c, Pt, _, dd, vs, sl, g, hb, hc, lc, h1, lP, code_hd lc h1 h2 h3 h4 h5 h6 h7, ok⟩
theorem walkT {l : PySem.W.OpenLaw} {q : Program} {loose : List Str} {XP : (Str → Option Value) → Heap → Prop} {YP : World → Heap → Prop} {d : DefRec} {K : Params → PySem.W.Frag} {k : Nat} (hn : l.most = some 63) (hdf : d.params.defaults = []) (hr : Room k callerA) (hrec : ((recsOf q).any fun e => e.name == d.name) = true)
    (hY : ∀ (w : World) (h : Heap), YP w h → (K w.params).In h)
    (F : ∀ (w : World) (mg : Str → Option Value) (fa : Addr) (h : Heap), (K w.params).In h → h.Ns mainGlobals mg → mg d.name = some (.ref fa) → LawT l w (K w.params) mg k d.name) :
    PySem.W.WalkO q loose XP YP l.row.toRowW d [] (fun f vs => PySem.call f vs) :=
  LamX.walk_ofOwn (n := 63) (k := k) (x := "_law_script") (CX := fun w => L2.CX l.prog w) hn (by decide) hdf hr hrec hY
    (fun w mg fa h _ X G hfa own => by
      obtain ⟨T, c, Pt, e, dd, vs, sl, e0, hb, hc, lc, v11, lP, hd, hF⟩ := F w mg fa h X G hfa
      have e2 := e0.symm.trans hfa
      have e3 : T.law.f = fa := by
        injection e2 with e2
        injection e2
      obtain ⟨oc, od, kV, doc, pm, an, cdv, ct, osl, ef, lk, hcd⟩ := T.law.F.ex
      have ht := own c Pt _ T.law.fd e dd vs sl (by rw [← e3]; exact lk) rfl hc lc v11
      refine ⟨T.law.fd, [(c, Pt)], spLaw (K w.params) Pt, fun p hp => ?_, fun p hp => ?_, fun p hp => ?_, hb, fun H a ns _ _ hT hS => ?_, fun base _ _ TB => ?_⟩
      · rw [List.mem_singleton.mp hp]
        exact ht
      · rw [List.mem_singleton.mp hp]
        exact lP
      · rw [List.mem_singleton.mp hp]
        exact hd h X
      · exact ⟨a, ns, rfl, hS, fun p hp => by
          rw [List.mem_singleton.mp hp]
          exact TabS.nil (hT _ (List.mem_singleton.mpr rfl)), fun _ => rfl⟩
      · rw [← e3]
        exact hF base (TB _ (List.mem_singleton.mpr rfl)))
    fun _ _ _ _ _ h => by
      obtain ⟨_, _, _, _, _, _, _, _, _, _, _, _, z⟩ := h
      exact z.elim
end R

open PySem PySem.W PyProof.Rows in
set_option maxRecDepth 100000 in
set_option maxHeartbeats 0 in
theorem PySem.Challenge.cw_rowring_k53_invalid_texts_of_definitions_holds : PySem.Challenge.rw_rowring_k53_invalid_texts_of_definitions.Holds := by
  w_on; o_law; k_head; (case hw => w_witness2)
  k_fill
  refine R.walkT (l := PySem.Challenge.rw_rowring_k53_invalid_texts_of_definitions) (k := 13) rfl rfl ⟨rfl, by decide, by decide⟩ (by kernel_rfl) (fun w h Y => PySem.W.km_in_of Y) ?F
  case F =>
    intro w mg fa h KX G hmg
    have b_abs : mg "abs" = none := by
      refine' PySem.W.mg_none_of KX G ?ab_abs
      (case ab_abs => k_is)
    have b_all : mg "all" = none := by
      refine' PySem.W.mg_none_of KX G ?ab_all
      (case ab_all => k_is)
    have b_bool : mg "bool" = none := by
      refine' PySem.W.mg_none_of KX G ?ab_bool
      (case ab_bool => k_is)
    have b_int : mg "int" = none := by
      refine' PySem.W.mg_none_of KX G ?ab_int
      (case ab_int => k_is)
    have b_isinstance : mg "isinstance" = none := by
      refine' PySem.W.mg_none_of KX G ?ab_isinstance
      (case ab_isinstance => k_is)
    have b_len : mg "len" = none := by
      refine' PySem.W.mg_none_of KX G ?ab_len
      (case ab_len => k_is)
    have b_list : mg "list" = none := by
      refine' PySem.W.mg_none_of KX G ?ab_list
      (case ab_list => k_is)
    have b_range : mg "range" = none := by
      refine' PySem.W.mg_none_of KX G ?ab_range
      (case ab_range => k_is)
    have b_str : mg "str" = none := by
      refine' PySem.W.mg_none_of KX G ?ab_str
      (case ab_str => k_is)
    have b_tuple : mg "tuple" = none := by
      refine' PySem.W.mg_none_of KX G ?ab_tuple
      (case ab_tuple => k_is)
    have b_zip : mg "zip" = none := by
      refine' PySem.W.mg_none_of KX G ?ab_zip
      (case ab_zip => k_is)
    obtain ⟨a_MODULI, c_MODULI, t_MODULI⟩ : ∃ a, R.GV mg "MODULI" (.ref a) ∧ ∀ H, L2.SqT (_) H a [.int 2, .int 3, .int 5] := by
      refine' R.tup_ex KX G ?ta_MODULI ?tl_MODULI ?tr_MODULI ?tz_MODULI
      (case ta_MODULI => k_is); (case tl_MODULI => k_is)
      (case tr_MODULI => exact .cons ⟨_, rfl⟩ (.cons ⟨_, rfl⟩ (.cons ⟨_, rfl⟩ (.nil))))
      (case tz_MODULI => decide)
    have c_MAX_FRACTION : R.GV mg "MAX_FRACTION" (.int (1000000)) := by
      refine' R.gv_ex KX G ?ac_MAX_FRACTION ?rc_MAX_FRACTION
      (case ac_MAX_FRACTION => k_is)
      (case rc_MAX_FRACTION => exact ⟨_, rfl⟩)
    have c_LETTERS : R.GV mg "LETTERS" (.str "abcdefghijklmnopqrstuvwxyz") := by
      refine' R.gv_ex KX G ?ac_LETTERS ?rc_LETTERS
      (case ac_LETTERS => k_is)
      (case rc_LETTERS => exact ⟨_, rfl⟩)
    have c_DECIMALS : R.GV mg "DECIMALS" (.str "0123456789") := by
      refine' R.gv_ex KX G ?ac_DECIMALS ?rc_DECIMALS
      (case ac_DECIMALS => k_is)
      (case rc_DECIMALS => exact ⟨_, rfl⟩)
    have c_MAX_NAME : R.GV mg "MAX_NAME" (.int 6) := by
      refine' R.gv_ex KX G ?ac_MAX_NAME ?rc_MAX_NAME
      (case ac_MAX_NAME => k_is)
      (case rc_MAX_NAME => exact ⟨_, rfl⟩)
    have c_MAX_FIGURES : R.GV mg "MAX_FIGURES" (.int 6) := by
      refine' R.gv_ex KX G ?ac_MAX_FIGURES ?rc_MAX_FIGURES
      (case ac_MAX_FIGURES => k_is)
      (case rc_MAX_FIGURES => exact ⟨_, rfl⟩)
    have c_MAX_EXPONENT_FIGURES : R.GV mg "MAX_EXPONENT_FIGURES" (.int 30) := by
      refine' R.gv_ex KX G ?ac_MAX_EXPONENT_FIGURES ?rc_MAX_EXPONENT_FIGURES
      (case ac_MAX_EXPONENT_FIGURES => k_is)
      (case rc_MAX_EXPONENT_FIGURES => exact ⟨_, rfl⟩)
    have c_MAX_PRODUCT : R.GV mg "MAX_PRODUCT" (.int 12) := by
      refine' R.gv_ex KX G ?ac_MAX_PRODUCT ?rc_MAX_PRODUCT
      (case ac_MAX_PRODUCT => k_is)
      (case rc_MAX_PRODUCT => exact ⟨_, rfl⟩)
    refine' R.nm_in (x := "RingError") KX G ?nm_RingError ?gn_RingError
    (case nm_RingError => k_is)
    intro x_RingError n_RingError hx_RingError
    refine' R.nm_in (x := "UndefinedName") KX G ?nm_UndefinedName ?gn_UndefinedName
    (case nm_UndefinedName => k_is)
    intro x_UndefinedName n_UndefinedName hx_UndefinedName
    refine' R.nm_in (x := "EmptyHistory") KX G ?nm_EmptyHistory ?gn_EmptyHistory
    (case nm_EmptyHistory => k_is)
    intro x_EmptyHistory n_EmptyHistory hx_EmptyHistory
    refine' R.ex_in (x := "InvalidModulus") (qual := "InvalidModulus.__init__") (st := R.top 2) (ps := ["self"]) KX G hx_RingError hx_UndefinedName hx_EmptyHistory ?a_InvalidModulus ?lC_InvalidModulus ?rv_InvalidModulus ?sa_InvalidModulus ?exC_InvalidModulus ?tyC_InvalidModulus ?kC_InvalidModulus ?iC_InvalidModulus ?tI_InvalidModulus ?l_InvalidModulus ?c_InvalidModulus ?k_InvalidModulus ?hb_InvalidModulus ?n0_InvalidModulus ?n1_InvalidModulus ?n2_InvalidModulus ?n3_InvalidModulus ?n4_InvalidModulus ?g1_InvalidModulus ?g2_InvalidModulus ?g4_InvalidModulus ?hx_InvalidModulus ?go_InvalidModulus
    (case a_InvalidModulus => k_is)
    (case lC_InvalidModulus => k_is)
    (case rv_InvalidModulus => decide +kernel)
    (case sa_InvalidModulus => k_is)
    (case exC_InvalidModulus => k_is)
    (case tyC_InvalidModulus => k_is)
    (case kC_InvalidModulus => k_is)
    (case iC_InvalidModulus => k_is)
    (case tI_InvalidModulus => k_is)
    (case l_InvalidModulus => k_is)
    (case c_InvalidModulus => k_is)
    (case k_InvalidModulus => k_is)
    (case hb_InvalidModulus => exact fun _ _ _ _ _ _ us hl => match us, hl with | [_], _ => rfl)
    (case n0_InvalidModulus => k_is)
    (case n1_InvalidModulus => k_is)
    (case n2_InvalidModulus => k_is)
    (case n3_InvalidModulus => k_is)
    (case n4_InvalidModulus => k_is)
    (case g1_InvalidModulus => k_is)
    (case g2_InvalidModulus => k_is)
    (case g4_InvalidModulus => k_is)
    (case hx_InvalidModulus => first | k_is | kts_exm | kernel_rfl)
    intro e_InvalidModulus h_InvalidModulus f_InvalidModulus
    refine' R.ex_in (x := "InvalidFraction") (qual := "InvalidFraction.__init__") (st := R.top 3) (ps := ["self"]) KX G hx_RingError hx_UndefinedName hx_EmptyHistory ?a_InvalidFraction ?lC_InvalidFraction ?rv_InvalidFraction ?sa_InvalidFraction ?exC_InvalidFraction ?tyC_InvalidFraction ?kC_InvalidFraction ?iC_InvalidFraction ?tI_InvalidFraction ?l_InvalidFraction ?c_InvalidFraction ?k_InvalidFraction ?hb_InvalidFraction ?n0_InvalidFraction ?n1_InvalidFraction ?n2_InvalidFraction ?n3_InvalidFraction ?n4_InvalidFraction ?g1_InvalidFraction ?g2_InvalidFraction ?g4_InvalidFraction ?hx_InvalidFraction ?go_InvalidFraction
    (case a_InvalidFraction => k_is)
    (case lC_InvalidFraction => k_is)
    (case rv_InvalidFraction => decide +kernel)
    (case sa_InvalidFraction => k_is)
    (case exC_InvalidFraction => k_is)
    (case tyC_InvalidFraction => k_is)
    (case kC_InvalidFraction => k_is)
    (case iC_InvalidFraction => k_is)
    (case tI_InvalidFraction => k_is)
    (case l_InvalidFraction => k_is)
    (case c_InvalidFraction => k_is)
    (case k_InvalidFraction => k_is)
    (case hb_InvalidFraction => exact fun _ _ _ _ _ _ us hl => match us, hl with | [_], _ => rfl)
    (case n0_InvalidFraction => k_is)
    (case n1_InvalidFraction => k_is)
    (case n2_InvalidFraction => k_is)
    (case n3_InvalidFraction => k_is)
    (case n4_InvalidFraction => k_is)
    (case g1_InvalidFraction => k_is)
    (case g2_InvalidFraction => k_is)
    (case g4_InvalidFraction => k_is)
    (case hx_InvalidFraction => first | k_is | kts_exm | kernel_rfl)
    intro e_InvalidFraction h_InvalidFraction f_InvalidFraction
    refine' R.ex_in (x := "InvalidText") (qual := "InvalidText.__init__") (st := R.top 4) (ps := ["self", "position"]) KX G hx_RingError hx_UndefinedName hx_EmptyHistory ?a_InvalidText ?lC_InvalidText ?rv_InvalidText ?sa_InvalidText ?exC_InvalidText ?tyC_InvalidText ?kC_InvalidText ?iC_InvalidText ?tI_InvalidText ?l_InvalidText ?c_InvalidText ?k_InvalidText ?hb_InvalidText ?n0_InvalidText ?n1_InvalidText ?n2_InvalidText ?n3_InvalidText ?n4_InvalidText ?g1_InvalidText ?g2_InvalidText ?g4_InvalidText ?hx_InvalidText ?go_InvalidText
    (case a_InvalidText => k_is)
    (case lC_InvalidText => k_is)
    (case rv_InvalidText => decide +kernel)
    (case sa_InvalidText => k_is)
    (case exC_InvalidText => k_is)
    (case tyC_InvalidText => k_is)
    (case kC_InvalidText => k_is)
    (case iC_InvalidText => k_is)
    (case tI_InvalidText => k_is)
    (case l_InvalidText => k_is)
    (case c_InvalidText => k_is)
    (case k_InvalidText => k_is)
    (case hb_InvalidText => exact fun _ _ _ _ _ _ us hl => match us, hl with | [_, _], _ => rfl)
    (case n0_InvalidText => k_is)
    (case n1_InvalidText => k_is)
    (case n2_InvalidText => k_is)
    (case n3_InvalidText => k_is)
    (case n4_InvalidText => k_is)
    (case g1_InvalidText => k_is)
    (case g2_InvalidText => k_is)
    (case g4_InvalidText => k_is)
    (case hx_InvalidText => first | k_is | kts_exm | kernel_rfl)
    intro e_InvalidText h_InvalidText f_InvalidText
    obtain ⟨d_check_modulus⟩ : Nonempty (R.DF _ mg "check_modulus" R.s_check_modulus R.P_check_modulus) := by
      refine' R.df_ex KX G ?a_check_modulus ?l_check_modulus ?c_check_modulus ?k_check_modulus ?b_check_modulus
      (case a_check_modulus => k_is); (case l_check_modulus => k_is); (case c_check_modulus => k_is); (case k_check_modulus => k_is)
      (case b_check_modulus => exact fun _ _ _ _ _ _ us hl => match us, hl with | [_], _ => rfl)
    obtain ⟨d_common_divisor⟩ : Nonempty (R.DF _ mg "common_divisor" R.s_common_divisor R.P_common_divisor) := by
      refine' R.df_ex KX G ?a_common_divisor ?l_common_divisor ?c_common_divisor ?k_common_divisor ?b_common_divisor
      (case a_common_divisor => k_is); (case l_common_divisor => k_is); (case c_common_divisor => k_is); (case k_common_divisor => k_is)
      (case b_common_divisor => exact fun _ _ _ _ _ _ us hl => match us, hl with | [_, _], _ => rfl)
    obtain ⟨d_is_fraction⟩ : Nonempty (R.DF _ mg "is_fraction" R.s_is_fraction R.P_is_fraction) := by
      refine' R.df_ex KX G ?a_is_fraction ?l_is_fraction ?c_is_fraction ?k_is_fraction ?b_is_fraction
      (case a_is_fraction => k_is); (case l_is_fraction => k_is); (case c_is_fraction => k_is); (case k_is_fraction => k_is)
      (case b_is_fraction => exact fun _ _ _ _ _ _ us hl => match us, hl with | [_], _ => rfl)
    obtain ⟨d_is_linear⟩ : Nonempty (R.DF _ mg "is_linear" R.s_is_linear R.P_is_linear) := by
      refine' R.df_ex KX G ?a_is_linear ?l_is_linear ?c_is_linear ?k_is_linear ?b_is_linear
      (case a_is_linear => k_is); (case l_is_linear => k_is); (case c_is_linear => k_is); (case k_is_linear => k_is)
      (case b_is_linear => exact fun _ _ _ _ _ _ us hl => match us, hl with | [_, _, _], _ => rfl)
    obtain ⟨d_char_at⟩ : Nonempty (R.DF _ mg "char_at" R.s_char_at R.P_char_at) := by
      refine' R.df_ex KX G ?a_char_at ?l_char_at ?c_char_at ?k_char_at ?b_char_at
      (case a_char_at => k_is); (case l_char_at => k_is); (case c_char_at => k_is); (case k_char_at => k_is)
      (case b_char_at => exact fun _ _ _ _ _ _ us hl => match us, hl with | [_, _], _ => rfl)
    obtain ⟨d_expect⟩ : Nonempty (R.DF _ mg "expect" R.s_expect R.P_expect) := by
      refine' R.df_ex KX G ?a_expect ?l_expect ?c_expect ?k_expect ?b_expect
      (case a_expect => k_is); (case l_expect => k_is); (case c_expect => k_is); (case k_expect => k_is)
      (case b_expect => exact fun _ _ _ _ _ _ us hl => match us, hl with | [_, _, _], _ => rfl)
    obtain ⟨d_scan⟩ : Nonempty (R.DF _ mg "scan" R.s_scan R.P_scan) := by
      refine' R.df_ex KX G ?a_scan ?l_scan ?c_scan ?k_scan ?b_scan
      (case a_scan => k_is); (case l_scan => k_is); (case c_scan => k_is); (case k_scan => k_is)
      (case b_scan => exact fun _ _ _ _ _ _ us hl => match us, hl with | [_, _, _, _], _ => rfl)
    obtain ⟨d_scan_natural⟩ : Nonempty (R.DF _ mg "scan_natural" R.s_scan_natural R.P_scan_natural) := by
      refine' R.df_ex KX G ?a_scan_natural ?l_scan_natural ?c_scan_natural ?k_scan_natural ?b_scan_natural
      (case a_scan_natural => k_is); (case l_scan_natural => k_is); (case c_scan_natural => k_is); (case k_scan_natural => k_is)
      (case b_scan_natural => exact fun _ _ _ _ _ _ us hl => match us, hl with | [_, _, _], _ => rfl)
    obtain ⟨d_scan_fraction⟩ : Nonempty (R.DF _ mg "scan_fraction" R.s_scan_fraction R.P_scan_fraction) := by
      refine' R.df_ex KX G ?a_scan_fraction ?l_scan_fraction ?c_scan_fraction ?k_scan_fraction ?b_scan_fraction
      (case a_scan_fraction => k_is); (case l_scan_fraction => k_is); (case c_scan_fraction => k_is); (case k_scan_fraction => k_is)
      (case b_scan_fraction => exact fun _ _ _ _ _ _ us hl => match us, hl with | [_, _, _], _ => rfl)
    obtain ⟨d_parse_cell⟩ : Nonempty (R.DF _ mg "parse_cell" R.s_parse_cell R.P_parse_cell) := by
      refine' R.df_ex KX G ?a_parse_cell ?l_parse_cell ?c_parse_cell ?k_parse_cell ?b_parse_cell
      (case a_parse_cell => k_is); (case l_parse_cell => k_is); (case c_parse_cell => k_is); (case k_parse_cell => k_is)
      (case b_parse_cell => exact fun _ _ _ _ _ _ us hl => match us, hl with | [_, _], _ => rfl)
    obtain ⟨d_parse_linear⟩ : Nonempty (R.DF _ mg "parse_linear" R.s_parse_linear R.P_parse_linear) := by
      refine' R.df_ex KX G ?a_parse_linear ?l_parse_linear ?c_parse_linear ?k_parse_linear ?b_parse_linear
      (case a_parse_linear => k_is); (case l_parse_linear => k_is); (case c_parse_linear => k_is); (case k_parse_linear => k_is)
      (case b_parse_linear => exact fun _ _ _ _ _ _ us hl => match us, hl with | [_], _ => rfl)
    obtain ⟨d_parse_exponent⟩ : Nonempty (R.DF _ mg "parse_exponent" R.s_parse_exponent R.P_parse_exponent) := by
      refine' R.df_ex KX G ?a_parse_exponent ?l_parse_exponent ?c_parse_exponent ?k_parse_exponent ?b_parse_exponent
      (case a_parse_exponent => k_is); (case l_parse_exponent => k_is); (case c_parse_exponent => k_is); (case k_parse_exponent => k_is)
      (case b_parse_exponent => exact fun _ _ _ _ _ _ us hl => match us, hl with | [_, _], _ => rfl)
    obtain ⟨d_parse_product⟩ : Nonempty (R.DF _ mg "parse_product" R.s_parse_product R.P_parse_product) := by
      refine' R.df_ex KX G ?a_parse_product ?l_parse_product ?c_parse_product ?k_parse_product ?b_parse_product
      (case a_parse_product => k_is); (case l_parse_product => k_is); (case c_parse_product => k_is); (case k_parse_product => k_is)
      (case b_parse_product => exact fun _ _ _ _ _ _ us hl => match us, hl with | [_], _ => rfl)
    obtain ⟨d_parse_definition⟩ : Nonempty (R.DK (_) mg "parse_definition" R.s_parse_definition R.P_parse_definition 1 [("modulus", .int 2)]) := by
      refine' R.dk_ex KX G ?a_parse_definition ?l_parse_definition ?c_parse_definition ?k_parse_definition ?w_parse_definition ?r_parse_definition ?hn_parse_definition ?hb_parse_definition ?hkb_parse_definition
      (case a_parse_definition => k_is); (case l_parse_definition => k_is); (case c_parse_definition => k_is); (case k_parse_definition => k_is); (case w_parse_definition => k_is); (case r_parse_definition => exact ⟨_, rfl⟩)
      (case hn_parse_definition => rfl)
      (case hb_parse_definition => exact fun _ _ _ _ _ _ us ks h1 h2 => match us, ks, h1, h2 with | [_], [_], _, _ => ⟨_, _, _, _, _, _, rfl, rfl, rfl⟩)
      (case hkb_parse_definition => exact fun _ _ _ _ _ _ us mv ws h1 h2 h3 => match us, mv, ws, h1, h2, h3 with | [_], [], [_], _, _, _ => rfl)
    obtain ⟨d_source⟩ : Nonempty (R.DF _ mg "_law_source" R.s_source R.P_source) := by
      refine' R.df_ex KX G ?a_source ?l_source ?c_source ?k_source ?b_source
      (case a_source => k_is); (case l_source => k_is); (case c_source => k_is); (case k_source => k_is)
      (case b_source => exact fun _ _ _ _ _ _ us hl => match us, hl with | [_], _ => rfl)
    obtain ⟨d_draw⟩ : Nonempty (R.DF _ mg "_law_draw" R.s_draw R.P_draw) := by
      refine' R.df_ex KX G ?a_draw ?l_draw ?c_draw ?k_draw ?b_draw
      (case a_draw => k_is); (case l_draw => k_is); (case c_draw => k_is); (case k_draw => k_is)
      (case b_draw => exact fun _ _ _ _ _ _ us hl => match us, hl with | [_, _], _ => rfl)
    obtain ⟨d_pick⟩ : Nonempty (R.DF _ mg "_law_pick" R.s_pick R.P_pick) := by
      refine' R.df_ex KX G ?a_pick ?l_pick ?c_pick ?k_pick ?b_pick
      (case a_pick => k_is); (case l_pick => k_is); (case c_pick => k_is); (case k_pick => k_is)
      (case b_pick => exact fun _ _ _ _ _ _ us hl => match us, hl with | [_, _], _ => rfl)
    obtain ⟨d_same⟩ : Nonempty (R.DF _ mg "_law_same" R.s_same R.P_same) := by
      refine' R.df_ex KX G ?a_same ?l_same ?c_same ?k_same ?b_same
      (case a_same => k_is); (case l_same => k_is); (case c_same => k_is); (case k_same => k_is)
      (case b_same => exact fun _ _ _ _ _ _ us hl => match us, hl with | [_, _], _ => rfl)
    obtain ⟨d_field⟩ : Nonempty (R.DF _ mg "_law_field" R.s_field R.P_field) := by
      refine' R.df_ex KX G ?a_field ?l_field ?c_field ?k_field ?b_field
      (case a_field => k_is); (case l_field => k_is); (case c_field => k_is); (case k_field => k_is)
      (case b_field => exact fun _ _ _ _ _ _ us hl => match us, hl with | [_], _ => rfl)
    obtain ⟨d_outcome⟩ : Nonempty (R.DF _ mg "_law_outcome" R.s_outcome R.P_outcome) := by
      refine' R.df_ex KX G ?a_outcome ?l_outcome ?c_outcome ?k_outcome ?b_outcome
      (case a_outcome => k_is); (case l_outcome => k_is); (case c_outcome => k_is); (case k_outcome => k_is)
      (case b_outcome => exact fun _ _ _ _ _ _ us hl => match us, hl with | [_], _ => rfl)
    obtain ⟨d_modulus⟩ : Nonempty (R.DF _ mg "_law_modulus" R.s_modulus R.P_modulus) := by
      refine' R.df_ex KX G ?a_modulus ?l_modulus ?c_modulus ?k_modulus ?b_modulus
      (case a_modulus => k_is); (case l_modulus => k_is); (case c_modulus => k_is); (case k_modulus => k_is)
      (case b_modulus => exact fun _ _ _ _ _ _ us hl => match us, hl with | [_], _ => rfl)
    obtain ⟨d_gcd⟩ : Nonempty (R.DF _ mg "_law_gcd" R.s_gcd R.P_gcd) := by
      refine' R.df_ex KX G ?a_gcd ?l_gcd ?c_gcd ?k_gcd ?b_gcd
      (case a_gcd => k_is); (case l_gcd => k_is); (case c_gcd => k_is); (case k_gcd => k_is)
      (case b_gcd => exact fun _ _ _ _ _ _ us hl => match us, hl with | [_, _], _ => rfl)
    obtain ⟨d_lowest⟩ : Nonempty (R.DF _ mg "_law_lowest" R.s_lowest R.P_lowest) := by
      refine' R.df_ex KX G ?a_lowest ?l_lowest ?c_lowest ?k_lowest ?b_lowest
      (case a_lowest => k_is); (case l_lowest => k_is); (case c_lowest => k_is); (case k_lowest => k_is)
      (case b_lowest => exact fun _ _ _ _ _ _ us hl => match us, hl with | [_, _], _ => rfl)
    obtain ⟨d_l_is_fraction⟩ : Nonempty (R.DF _ mg "_law_is_fraction" R.s_l_is_fraction R.P_l_is_fraction) := by
      refine' R.df_ex KX G ?a_l_is_fraction ?l_l_is_fraction ?c_l_is_fraction ?k_l_is_fraction ?b_l_is_fraction
      (case a_l_is_fraction => k_is); (case l_l_is_fraction => k_is); (case c_l_is_fraction => k_is); (case k_l_is_fraction => k_is)
      (case b_l_is_fraction => exact fun _ _ _ _ _ _ us hl => match us, hl with | [_], _ => rfl)
    obtain ⟨d_linear⟩ : Nonempty (R.DF _ mg "_law_linear" R.s_linear R.P_linear) := by
      refine' R.df_ex KX G ?a_linear ?l_linear ?c_linear ?k_linear ?b_linear
      (case a_linear => k_is); (case l_linear => k_is); (case c_linear => k_is); (case k_linear => k_is)
      (case b_linear => exact fun _ _ _ _ _ _ us hl => match us, hl with | [_, _], _ => rfl)
    obtain ⟨d_letters⟩ : Nonempty (R.DF _ mg "_law_letters" R.s_letters R.P_letters) := by
      refine' R.df_ex KX G ?a_letters ?l_letters ?c_letters ?k_letters ?b_letters
      (case a_letters => k_is); (case l_letters => k_is); (case c_letters => k_is); (case k_letters => k_is)
      (case b_letters => exact fun _ _ _ _ _ _ us hl => match us, hl with | [], _ => rfl)
    obtain ⟨d_names⟩ : Nonempty (R.DF _ mg "_law_names" R.s_names R.P_names) := by
      refine' R.df_ex KX G ?a_names ?l_names ?c_names ?k_names ?b_names
      (case a_names => k_is); (case l_names => k_is); (case c_names => k_is); (case k_names => k_is)
      (case b_names => exact fun _ _ _ _ _ _ us hl => match us, hl with | [_, _], _ => rfl)
    obtain ⟨d_product_exponent⟩ : Nonempty (R.DF _ mg "_law_product_exponent" R.s_product_exponent R.P_product_exponent) := by
      refine' R.df_ex KX G ?a_product_exponent ?l_product_exponent ?c_product_exponent ?k_product_exponent ?b_product_exponent
      (case a_product_exponent => k_is); (case l_product_exponent => k_is); (case c_product_exponent => k_is); (case k_product_exponent => k_is)
      (case b_product_exponent => exact fun _ _ _ _ _ _ us hl => match us, hl with | [_], _ => rfl)
    obtain ⟨d_definition⟩ : Nonempty (R.DF _ mg "_law_definition" R.s_definition R.P_definition) := by
      refine' R.df_ex KX G ?a_definition ?l_definition ?c_definition ?k_definition ?b_definition
      (case a_definition => k_is); (case l_definition => k_is); (case c_definition => k_is); (case k_definition => k_is)
      (case b_definition => exact fun _ _ _ _ _ _ us hl => match us, hl with | [_, _, _], _ => rfl)
    obtain ⟨d_fraction_text⟩ : Nonempty (R.DF _ mg "_law_fraction_text" R.s_fraction_text R.P_fraction_text) := by
      refine' R.df_ex KX G ?a_fraction_text ?l_fraction_text ?c_fraction_text ?k_fraction_text ?b_fraction_text
      (case a_fraction_text => k_is); (case l_fraction_text => k_is); (case c_fraction_text => k_is); (case k_fraction_text => k_is)
      (case b_fraction_text => exact fun _ _ _ _ _ _ us hl => match us, hl with | [_], _ => rfl)
    obtain ⟨d_definition_text⟩ : Nonempty (R.DF _ mg "_law_definition_text" R.s_definition_text R.P_definition_text) := by
      refine' R.df_ex KX G ?a_definition_text ?l_definition_text ?c_definition_text ?k_definition_text ?b_definition_text
      (case a_definition_text => k_is); (case l_definition_text => k_is); (case c_definition_text => k_is); (case k_definition_text => k_is)
      (case b_definition_text => exact fun _ _ _ _ _ _ us hl => match us, hl with | [_], _ => rfl)
    obtain ⟨d_allows⟩ : Nonempty (R.DF _ mg "_law_allows" R.s_allows R.P_allows) := by
      refine' R.df_ex KX G ?a_allows ?l_allows ?c_allows ?k_allows ?b_allows
      (case a_allows => k_is); (case l_allows => k_is); (case c_allows => k_is); (case k_allows => k_is)
      (case b_allows => exact fun _ _ _ _ _ _ us hl => match us, hl with | [_, _, _], _ => rfl)
    obtain ⟨d_at_⟩ : Nonempty (R.DF _ mg "_law_at" R.s_at_ R.P_at_) := by
      refine' R.df_ex KX G ?a_at_ ?l_at_ ?c_at_ ?k_at_ ?b_at_
      (case a_at_ => k_is); (case l_at_ => k_is); (case c_at_ => k_is); (case k_at_ => k_is)
      (case b_at_ => exact fun _ _ _ _ _ _ us hl => match us, hl with | [_, _], _ => rfl)
    obtain ⟨d_skip⟩ : Nonempty (R.DF _ mg "_law_skip" R.s_skip R.P_skip) := by
      refine' R.df_ex KX G ?a_skip ?l_skip ?c_skip ?k_skip ?b_skip
      (case a_skip => k_is); (case l_skip => k_is); (case c_skip => k_is); (case k_skip => k_is)
      (case b_skip => exact fun _ _ _ _ _ _ us hl => match us, hl with | [_, _, _, _], _ => rfl)
    obtain ⟨d_word⟩ : Nonempty (R.DF _ mg "_law_word" R.s_word R.P_word) := by
      refine' R.df_ex KX G ?a_word ?l_word ?c_word ?k_word ?b_word
      (case a_word => k_is); (case l_word => k_is); (case c_word => k_is); (case k_word => k_is)
      (case b_word => exact fun _ _ _ _ _ _ us hl => match us, hl with | [_, _, _], _ => rfl)
    obtain ⟨d_reference⟩ : Nonempty (R.DF _ mg "_law_reference" R.s_reference R.P_reference) := by
      refine' R.df_ex KX G ?a_reference ?l_reference ?c_reference ?k_reference ?b_reference
      (case a_reference => k_is); (case l_reference => k_is); (case c_reference => k_is); (case k_reference => k_is)
      (case b_reference => exact fun _ _ _ _ _ _ us hl => match us, hl with | [_, _], _ => rfl)
    obtain ⟨d_natural⟩ : Nonempty (R.DF _ mg "_law_natural" R.s_natural R.P_natural) := by
      refine' R.df_ex KX G ?a_natural ?l_natural ?c_natural ?k_natural ?b_natural
      (case a_natural => k_is); (case l_natural => k_is); (case c_natural => k_is); (case k_natural => k_is)
      (case b_natural => exact fun _ _ _ _ _ _ us hl => match us, hl with | [_, _, _], _ => rfl)
    obtain ⟨d_pair_of⟩ : Nonempty (R.DF _ mg "_law_pair_of" R.s_pair_of R.P_pair_of) := by
      refine' R.df_ex KX G ?a_pair_of ?l_pair_of ?c_pair_of ?k_pair_of ?b_pair_of
      (case a_pair_of => k_is); (case l_pair_of => k_is); (case c_pair_of => k_is); (case k_pair_of => k_is)
      (case b_pair_of => exact fun _ _ _ _ _ _ us hl => match us, hl with | [_, _, _], _ => rfl)
    obtain ⟨d_cell_due⟩ : Nonempty (R.DF _ mg "_law_cell_due" R.s_cell_due R.P_cell_due) := by
      refine' R.df_ex KX G ?a_cell_due ?l_cell_due ?c_cell_due ?k_cell_due ?b_cell_due
      (case a_cell_due => k_is); (case l_cell_due => k_is); (case c_cell_due => k_is); (case k_cell_due => k_is)
      (case b_cell_due => exact fun _ _ _ _ _ _ us hl => match us, hl with | [_, _], _ => rfl)
    obtain ⟨d_linear_due⟩ : Nonempty (R.DF _ mg "_law_linear_due" R.s_linear_due R.P_linear_due) := by
      refine' R.df_ex KX G ?a_linear_due ?l_linear_due ?c_linear_due ?k_linear_due ?b_linear_due
      (case a_linear_due => k_is); (case l_linear_due => k_is); (case c_linear_due => k_is); (case k_linear_due => k_is)
      (case b_linear_due => exact fun _ _ _ _ _ _ us hl => match us, hl with | [_], _ => rfl)
    obtain ⟨d_product_due⟩ : Nonempty (R.DF _ mg "_law_product_due" R.s_product_due R.P_product_due) := by
      refine' R.df_ex KX G ?a_product_due ?l_product_due ?c_product_due ?k_product_due ?b_product_due
      (case a_product_due => k_is); (case l_product_due => k_is); (case c_product_due => k_is); (case k_product_due => k_is)
      (case b_product_due => exact fun _ _ _ _ _ _ us hl => match us, hl with | [_], _ => rfl)
    obtain ⟨d_due⟩ : Nonempty (R.DF _ mg "_law_due" R.s_due R.P_due) := by
      refine' R.df_ex KX G ?a_due ?l_due ?c_due ?k_due ?b_due
      (case a_due => k_is); (case l_due => k_is); (case c_due => k_is); (case k_due => k_is)
      (case b_due => exact fun _ _ _ _ _ _ us hl => match us, hl with | [_, _], _ => rfl)
    obtain ⟨d_altered⟩ : Nonempty (R.DF _ mg "_law_altered" R.s_altered R.P_altered) := by
      refine' R.df_ex KX G ?a_altered ?l_altered ?c_altered ?k_altered ?b_altered
      (case a_altered => k_is); (case l_altered => k_is); (case c_altered => k_is); (case k_altered => k_is)
      (case b_altered => exact fun _ _ _ _ _ _ us hl => match us, hl with | [_, _], _ => rfl)
    refine' R.dl_in (x := "law") (st := R.s_law) (ps := R.P_law) KX G ?a_law ?l_law ?c_law ?k_law ?b_law ?go_law
    (case a_law => k_is); (case l_law => k_is); (case c_law => k_is); (case k_law => k_is)
    (case b_law => exact fun _ _ _ _ _ _ us hl => match us, hl with | [_], _ => rfl)
    intro d_law hc_law
    refine' R.lt_mk { b_abs := b_abs, b_all := b_all, b_bool := b_bool, b_int := b_int, b_isinstance := b_isinstance, b_len := b_len, b_list := b_list, b_range := b_range, b_str := b_str, b_tuple := b_tuple, b_zip := b_zip, a_MODULI := a_MODULI, c_MODULI := c_MODULI, t_MODULI := t_MODULI, c_MAX_FRACTION := c_MAX_FRACTION, c_LETTERS := c_LETTERS, c_DECIMALS := c_DECIMALS, c_MAX_NAME := c_MAX_NAME, c_MAX_FIGURES := c_MAX_FIGURES, c_MAX_EXPONENT_FIGURES := c_MAX_EXPONENT_FIGURES, c_MAX_PRODUCT := c_MAX_PRODUCT, x_RingError := x_RingError, n_RingError := n_RingError, x_UndefinedName := x_UndefinedName, n_UndefinedName := n_UndefinedName, x_EmptyHistory := x_EmptyHistory, n_EmptyHistory := n_EmptyHistory, e_InvalidModulus := e_InvalidModulus, h_InvalidModulus := h_InvalidModulus, f_InvalidModulus := f_InvalidModulus, e_InvalidFraction := e_InvalidFraction, h_InvalidFraction := h_InvalidFraction, f_InvalidFraction := f_InvalidFraction, e_InvalidText := e_InvalidText, h_InvalidText := h_InvalidText, f_InvalidText := f_InvalidText, check_modulus := d_check_modulus, common_divisor := d_common_divisor, is_fraction := d_is_fraction, is_linear := d_is_linear, char_at := d_char_at, expect := d_expect, scan := d_scan, scan_natural := d_scan_natural, scan_fraction := d_scan_fraction, parse_cell := d_parse_cell, parse_linear := d_parse_linear, parse_exponent := d_parse_exponent, parse_product := d_parse_product, parse_definition := d_parse_definition, source := d_source, draw := d_draw, pick := d_pick, same := d_same, field := d_field, outcome := d_outcome, modulus := d_modulus, gcd := d_gcd, lowest := d_lowest, l_is_fraction := d_l_is_fraction, linear := d_linear, letters := d_letters, names := d_names, product_exponent := d_product_exponent, definition := d_definition, fraction_text := d_fraction_text, definition_text := d_definition_text, allows := d_allows, at_ := d_at_, skip := d_skip, word := d_word, reference := d_reference, natural := d_natural, pair_of := d_pair_of, cell_due := d_cell_due, linear_due := d_linear_due, product_due := d_product_due, due := d_due, altered := d_altered, law := d_law } d_law.g ?bt hc_law ?lc ?v11 ?lP ?h2 ?h3 ?h4 ?h5 ?h6 ?h7 (fun base TB => R.ok_law _ hc_law TB)
    (case lc => k_is)
    (case v11 => rfl)
    (case lP => first | k_is | kernel_rfl)
    (case h2 => rfl); (case h3 => rfl); (case h4 => rfl); (case h5 => rfl); (case h6 => rfl); (case h7 => decide)
    (case bt => (intro s u; obtain ⟨_, _, _, _, _, _, _, _, _, e, _⟩ := d_law.F.ex; show BindsTo s d_law.fd _ _; rw [e]; exact .of_eq rfl))
#print axioms PySem.Challenge.cw_rowring_k53_invalid_texts_of_definitions_holds


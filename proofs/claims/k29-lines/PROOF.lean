import PyProof.Rows.All
import Wide.All
import OpenK.AllK
import Wide.FinOn
import HandS.ForMost
import HandS.Gcd
import HandS.Wide
import HandS.Style
import HandS.IsInst
import HandS.Defaults
import HandS.TupAny
import HandS.TupMul
import HandS.WideBits
import KE.KRevSl
import PySem.Challenge.RW_allunmoved_k29_lines_put_together_and_ta
set_option Elab.async false
set_option linter.all false
set_option maxRecDepth 100000
set_option maxHeartbeats 4000000
set_option exponentiation.threshold 20000
namespace Al
open PySem PySem.Spec PyProof.Rows L2

/-! ### rules -/
def CDivZ (_ j : Int) : Prop := j ≠ 0 ∧ j.natAbs < 2 ^ 8000
section
variable {X : Cx}
theorem op_fdivZ : OpR X (binaryOp .FloorDiv) (rI CDivZ fun i j => .int (i.fdiv j)) := opI fun i j _ _ _ _ _ hc q =>
  floordiv_int hc.1 q (.inl (PyProof.noPylong_of_log2 (Nat.lt_of_lt_of_le (PySem.Flt.log2_lt_of (k := 8000) (by decide) hc.2) (by decide))))
theorem op_mulZ : OpR X (binaryOp .Mult) (rI IntMulOk fun i j => .int (i * j)) := opI fun _ _ _ _ _ _ _ hc q => mul_int q hc
end
theorem divC {n : Int} (h : 0 < n) (h1 : n.natAbs < 2 ^ 3000) (i : Int) : CDivZ i n := ⟨by omega, Nat.lt_of_lt_of_le h1 (Nat.pow_le_pow_right (by decide) (by decide))⟩
theorem powC {i j : Int} (h1 : 0 ≤ j) (h2 : j ≤ 1000000) (h3 : i.natAbs < 2 ^ 64) : CPow i j := ⟨h1, h2, h3⟩
theorem mulC {i j : Int} (h : (-(2 ^ 64) < j ∧ j < 2 ^ 64)) : IntMulOk i j := CMul.ok (.inr h)
theorem mulC' {i j : Int} (h : (-(2 ^ 64) < i ∧ i < 2 ^ 64)) : IntMulOk i j := CMul.ok (.inl h)
theorem mulW {i j : Int} (a b : Nat) (ha : i.natAbs < 2 ^ a) (hb : j.natAbs < 2 ^ b) (h0 : 0 < a) (h1 : 0 < b) (h : a + b ≤ 1000000) : IntMulOk i j := (wide_mul ha hb h0 h1 h).ok

theorem bm {i j : Int} (h : i.natAbs < 2 ^ 3000) (h' : j.natAbs < 2 ^ 3000) : (i * j).natAbs < 2 ^ 6000 := wide_lt h h'
theorem bm8 {i j : Int} (h : i.natAbs < 2 ^ 3000) (h' : j.natAbs < 2 ^ 3000) : (i * j).natAbs < 2 ^ 8000 := Nat.lt_of_lt_of_le (bm h h') (Nat.pow_le_pow_right (by decide) (by decide))
theorem bs8 {i j : Int} (h : i.natAbs < 2 ^ 6000) (h' : j.natAbs < 2 ^ 6000) : (i + j).natAbs < 2 ^ 8000 := by
  have : (2 : Nat) ^ 8000 = 2 ^ 6000 * 2 ^ 2000 := by rw [← Nat.pow_add]
  have h2 : 2 ≤ 2 ^ 2000 := by decide +kernel
  have := Nat.mul_le_mul_left (2 ^ 6000) h2
  omega
theorem mulB {i j : Int} (h : i.natAbs < 2 ^ 3000) (h' : j.natAbs < 2 ^ 3000) : IntMulOk i j := mulW 3000 3000 h h' (by decide) (by decide) (by decide)
section
variable {X : Cx} {CX : CXT} {k : Nat} {f : Addr} {fd : FuncData} {ps ks : List Str} {sp : Sp} {E : XK} {x : Str} {p pos : Pos} {kws : List Keyword} {tk : TA} {g : List Value → List Value → List Value} {gV : List V → List V → List V}
/-- f(k = v, ..) -/
theorem pe_callK0 (F : FnOk X.prog X.w X.K X.mg X.base CX k f fd ps sp) (hr : Room k X.A) (hg : Gl X x) (hm : X.mg x = some (.ref f)) (hk : PySem.W.keepIn X.K (.ref f) = true) (hb : KBinds X.K fd ps ks g gV) (hx : Passes CX X E) (hkw : PK X kws tk)
    (hall : (backToKw pos (keywordEach kws X.env)).all (·.1.isSome) = true := by rfl) (hks : (backToKw pos (keywordEach kws X.env)).filterMap (·.1) = ks := by rfl) (hdb : (x == ("__debug__" : Str)) = false := by decide)
    (hpl : ((backTo pos (starEach [] X.env)).any (·.1) || (backToKw pos (keywordEach kws X.env)).any (·.1.isNone)) = false := by rfl) :
    PE X (.Call (.Name x p) [] kws pos) (tCallK sp gV E tNil tk) := by
  refine ⟨fun pins s σ H Q I h => ?_⟩
  refine wpAny_Call_Name_kw (ld_glob I hg hm ?_ hdb)
  refine PySem.W.callWith_KW0 (h₀ := X.base) I.ok.mod.kin hk hall ?_ hpl
  refine thn (hkw.run pos pins s σ H _ I h) fun ws s2 ⟨zs, H2, I2, rz, q2⟩ => ⟨I2.kIn, ?_⟩
  rw [hks]
  exact run_fnk (us := []) (vs := []) F hr hb hx I2 .nil rz q2
end

/-! ### heaps -/
/-- a new object came -/
def Nw (p : Addr) (o : HO) (H H' : Hp) : Prop := H p = none ∧ H' = upd H p o
/-- an object was changed -/
def Mu (p : Addr) (o : HO) (H H' : Hp) : Prop := H' = upd H p o
/-- all tuples stay -/
def TK (H H' : Hp) : Prop := ∀ a xs, H a = some (.tup xs) → H' a = some (.tup xs)
/-- all stays but what stands at a, b -/
def But (a b : Addr) (H H' : Hp) : Prop := ∀ x o, x ≠ a → x ≠ b → H x = some o → H' x = some o
section
variable {K : PySem.W.Frag} {H H' H1 H2 : Hp} {p a b x y t : Addr} {o u : HO} {xs ys : List V} {v w : V}
theorem Nw.at (h : Nw p o H H') : H' p = some o := by rw [h.2]; exact upd_same
theorem Nw.same (h : Nw p o H H') : Same H H' := fun b u e => by rw [h.2, upd_ne (ne_of_none e h.1)]; exact e
theorem Nw.ne (h : Nw p o H H') (e : H x = some u) : x ≠ p := ne_of_none e h.1
theorem Mu.at (h : Mu p o H H') : H' p = some o := by rw [show H' = upd H p o from h]; exact upd_same
theorem Mu.ne (h : Mu p o H H') (e : x ≠ p) : H' x = H x := by rw [show H' = upd H p o from h]; exact upd_ne e
theorem Same.at (h : H a = some o) (k : Same H H') : H' a = some o := k _ _ h
theorem Same.from (k : Same H H') (h : H a = some o) : H' a = some o := k _ _ h
theorem TK.rfl' (H : Hp) : TK H H := fun _ _ e => e
theorem TK.trans (h : TK H H1) (h' : TK H1 H2) : TK H H2 := fun a xs e => h' a xs (h a xs e)
theorem TK.of (h : Same H H') : TK H H' := fun a xs e => h a _ e
theorem Nw.tk (h : Nw p o H H') : TK H H' := TK.of h.same
theorem Mu.tk (h : Mu p o H H') (e : H p = some (.lst xs)) : TK H H' := fun a ys q => by
  rw [h.ne (ne_of q e (by intro z; cases z))]; exact q
theorem But.of (h : Same H H') : But a b H H' := fun x o _ _ e => h x o e
theorem But.trans (h : But a b H H1) (h' : But a b H1 H2) : But a b H H2 := fun x o n m e => h' x o n m (h x o n m e)
theorem But.tk (h : But a b H H') (ha : H a = some (.lst xs)) (hb : H b = some (.lst ys)) : TK H H' := fun x zs e =>
  h x _ (ne_of e ha (by intro z; cases z)) (ne_of e hb (by intro z; cases z)) e
/-- a tuple that is read: tracked, or written -/
def Tp (K : PySem.W.Frag) (H : Hp) (a : Addr) (xs : List V) : Prop :=
  H a = some (.tup xs) ∨ ∃ (o : Obj) (its : Array Value) (n : Nat), K.lookup a = some o ∧ o.cls = .type "tuple" ∧ o.data = .seq its n ∧ its.size ≤ sizeLine ∧ Vals xs its.toList
theorem Tp.sq (h : Tp K H a xs) : SqT K H a xs := by
  rcases h with h | h
  · exact .inl (.inl h)
  · exact .inr h
theorem Tp.keep (h : Tp K H a xs) (k : TK H H') : Tp K H' a xs := by
  rcases h with h | h
  · exact .inl (k _ _ h)
  · exact .inr h
theorem Tp.from (k : TK H H') (h : Tp K H a xs) : Tp K H' a xs := h.keep k
theorem Tp.new (h : Nw p (.tup xs) H H') : Tp K H' p xs := .inl h.at
end

/-! ### the same data, seen twice -/
def Sc (v w : V) : Prop := v = w ∧ ((∃ i, v = .int i) ∨ (∃ b, v = .bl b) ∨ v = .non ∨ ∃ s, v = .str s)
def Sm (K : PySem.W.Frag) (H : Hp) : Nat → V → V → Prop
  | 0, v, w => Sc v w
  | n + 1, v, w => Sc v w ∨ ∃ a b xs ys, v = .ref a ∧ w = .ref b ∧ Tp K H a xs ∧ Tp K H b ys ∧ xs.length = ys.length ∧ xs.length ≤ 100000 ∧ ∀ (i : Nat) x y, xs[i]? = some x → ys[i]? = some y → Sm K H n x y
section
variable {K : PySem.W.Frag} {H H' : Hp}
theorem Sm.keep (k : TK H H') : ∀ {n : Nat} {v w : V}, Sm K H n v w → Sm K H' n v w
  | 0, _, _, h => h
  | n + 1, _, _, h => by
    rcases h with h | ⟨a, b, xs, ys, e1, e2, h1, h2, e, l, h⟩
    · exact .inl h
    · exact .inr ⟨a, b, xs, ys, e1, e2, h1.keep k, h2.keep k, e, l, fun i x y p q => Sm.keep k (h i x y p q)⟩
theorem Sm.up : ∀ {n : Nat} {v w : V}, Sm K H n v w → Sm K H (n + 1) v w
  | 0, _, _, h => .inl h
  | n + 1, _, _, h => by
    rcases h with h | ⟨a, b, xs, ys, e1, e2, h1, h2, e, l, h⟩
    · exact .inl h
    · exact .inr ⟨a, b, xs, ys, e1, e2, h1, h2, e, l, fun i x y p q => Sm.up (h i x y p q)⟩
theorem Sm.int {n : Nat} {i j : Int} (e : i = j) : Sm K H n (.int i) (.int j) := by
  subst e
  cases n with
  | zero => exact ⟨rfl, .inl ⟨_, rfl⟩⟩
  | succ n => exact .inl ⟨rfl, .inl ⟨_, rfl⟩⟩
end
/-- a pair of ints -/
def Fr (K : PySem.W.Frag) (H : Hp) (v : V) (q : Int × Int) : Prop := ∃ t, v = .ref t ∧ Tp K H t [.int q.1, .int q.2]
section
variable {K : PySem.W.Frag} {H H' : Hp} {v w : V} {q r : Int × Int}
theorem Fr.keep (h : Fr K H v q) (k : TK H H') : Fr K H' v q := by
  obtain ⟨t, e, h⟩ := h
  exact ⟨t, e, h.keep k⟩
theorem Fr.from (k : TK H H') (h : Fr K H v q) : Fr K H' v q := h.keep k
theorem Fr.sm {n : Nat} (h : Fr K H v q) (h' : Fr K H w r) (e : q = r) : Sm K H (n + 1) v w := by
  subst e
  obtain ⟨t, rfl, h⟩ := h
  obtain ⟨s, rfl, h'⟩ := h'
  refine .inr ⟨t, s, _, _, rfl, rfl, h, h', rfl, (by decide : 2 ≤ 100000), fun i x y a b => ?_⟩
  match i with
  | 0 => cases a; cases b; exact Sm.int rfl
  | 1 => cases a; cases b; exact Sm.int rfl
  | i + 2 => simp at a
end

/-! ### readings -/
section
variable {K : PySem.W.Frag} {σ : L2.St} {H : Hp} {Q : VK} {ta tb tc te : TE} {v x y : V} {r : R2} {g : Int → Int → V} {i j : Int} {C : Int → Int → Prop} {t tr : TA} {QA : List V → Hp → Prop} {QT : Bool → Hp → Prop} {tt tu : TT}
  {D : Ends} {s1 s2 : TS} {p : Addr} {xs : List V}
theorem r_var {n : Nat} (h : σ[n]? = some (some v)) (q : Q v H) : tVar n σ H Q := ⟨v, h, q⟩
theorem r_c (q : Q v H) : tC v σ H Q := q
theorem r_op (h : ta σ H fun x H1 => tb σ H1 fun y H2 => r x y H2 Q) : tOp r ta tb σ H Q := h
theorem r_un {r : V → Hp → VK → Prop} (h : ta σ H fun x H1 => r x H1 Q) : tUn r ta σ H Q := h
theorem r_I0 (q : Q (g i j) H) : rI0 g (.int i) (.int j) H Q := ⟨i, j, rfl, rfl, q⟩
theorem r_I (q : Q (g i j) H) (c : C i j) : rI C g (.int i) (.int j) H Q := ⟨i, j, rfl, rfl, c, q⟩
theorem r_U {g : Int → V} (q : Q (g i) H) : rU g (.int i) H Q := ⟨i, rfl, q⟩
theorem r_nil (q : QA [] H) : tNil σ H QA := q
theorem r_cons (h : ta σ H fun x H1 => tr σ H1 fun xs H2 => QA (x :: xs) H2) : tCons ta tr σ H QA := h
theorem r_ixL (h : SqL K H p xs) (e : atI xs i = some v) (q : Q v H) : rIx K (.ref p) (.int i) H Q := .inl ⟨p, xs, i, v, rfl, rfl, h, e, q⟩
theorem r_ixT (h : SqT K H p xs) (e : atI xs i = some v) (q : Q v H) : rIx K (.ref p) (.int i) H Q := .inr (.inl ⟨p, xs, i, v, rfl, rfl, h, e, q⟩)
/-- what is asked of a new object -/
def rNew (l : Nat) (o : HO) (H : Hp) (Q : VK) : Prop := l ≤ sizeLine ∧ ∀ p, H p = none → Q (.ref p) (upd H p o)
theorem r_new {l : Nat} {o : HO} (h : l ≤ 1000000) (q : ∀ p H2, Nw p o H H2 → Q (.ref p) H2) : rNew l o H Q := ⟨Nat.le_trans h (by decide), fun p np => q p _ ⟨np, rfl⟩⟩
theorem r_tup (h : t σ H fun xs H1 => rNew xs.length (.tup xs) H1 Q) : tTup t σ H Q := h
theorem r_lst (h : t σ H fun xs H1 => rNew xs.length (.lst xs) H1 Q) : tLst t σ H Q := h
theorem r_eqI (q : Q (.bl (decide (i = j))) H) : rEq (.int i) (.int j) H Q := ⟨rfl, by rw [dec_int, Bool.beq_eq_decide_eq]; exact q⟩
theorem r_neI (q : Q (.bl (!decide (i = j))) H) : rNe (.int i) (.int j) H Q := ⟨rfl, by rw [dec_int, Bool.beq_eq_decide_eq]; exact q⟩
theorem r_eq (s : scal x y = true) (q : Q (.bl (decide (x = y))) H) : rEq x y H Q := ⟨s, q⟩
theorem r_ne (s : scal x y = true) (q : Q (.bl (!decide (x = y))) H) : rNe x y H Q := ⟨s, q⟩
/-- what a test asks of its value -/
def rTr (x : V) (H : Hp) (QT : Bool → Hp → Prop) : Prop := ∃ k, x = .bl k ∧ QT k H
theorem r_tr {k : Bool} (q : QT k H) : rTr (.bl k) H QT := ⟨k, rfl, q⟩
theorem r_test (h : ta σ H fun x H1 => rTr x H1 QT) : tTest ta σ H QT := h
theorem r_tB (h : ta σ H fun x H1 => rTr x H1 QT) : tB ta σ H QT := h
theorem r_and (h : tt σ H fun c H1 => if c = true then tu σ H1 QT else QT false H1) : tAnd tt tu σ H QT := h
theorem r_or (h : tt σ H fun c H1 => if c = true then QT true H1 else tu σ H1 QT) : tOr tt tu σ H QT := h
theorem r_not (h : tt σ H fun c H1 => QT (!c) H1) : tNot tt σ H QT := h
theorem r_ifE (h : tt σ H fun c H1 => if c = true then ta σ H1 Q else tb σ H1 Q) : tIf tt ta tb σ H Q := h
theorem r_CB {r : List V → Hp → VK → Prop} (h : t σ H fun vs H1 => r vs H1 Q) : tCB r t σ H Q := h
theorem r_call {sp : Sp} {E : XK} (h : t σ H fun vs H1 => sp (vs ++ []) H1 Q E) : tCall sp [] E t σ H Q := h
theorem r_gcd (q : Q (.int ((Nat.gcd i.natAbs j.natAbs : Nat) : Int)) H) : rGcd [.int i, .int j] H Q := ⟨i, j, rfl, q⟩
-- statements
theorem r_seq (h : s1 { D with nx := s2 D } σ H) : tSeq s1 s2 D σ H := h
theorem r_set {n : Nat} (h : te σ H fun x H1 => D.nx (σ.set n (some x)) H1) : tAsg te (gName n) D σ H := h
theorem r_asg {G : TG} (h : te σ H fun x H1 => G x σ H1 D.nx) : tAsg te G D σ H := h
theorem r_ret (h : te σ H D.rt) : tRet te D σ H := h
theorem r_if (h : tt σ H fun b H1 => if b = true then s1 D σ H1 else s2 D σ H1) : tIfS tt s1 s2 D σ H := h
theorem r_drop (h : te σ H fun _ H1 => D.nx σ H1) : tDrop te D σ H := h
theorem r_next (h : D.nx σ H) : tNext D σ H := h
def rPar (vs : List V) (H : Hp) (k : V → V → Hp → Prop) : Prop := ∃ v w, vs = [v, w] ∧ k v w H
theorem r_par {n m : Nat} (h : t σ H fun vs H1 => rPar vs H1 fun v w H2 => D.nx ((σ.set n (some v)).set m (some w)) H2) : tPar n m t D σ H := h
theorem r_two {v w : V} {R : V → V → Hp → Prop} (h : R v w H) : rPar [v, w] H R := ⟨v, w, rfl, h⟩
theorem r_callK {sp : Sp} {E : XK} {gV : List V → List V → List V} {tk : TA} (h : t σ H fun vs H1 => tk σ H1 fun zs H2 => sp (gV vs zs) H2 Q E) : tCallK sp gV E t tk σ H Q := h
theorem r_dec {p : Prop} [Decidable p] {A B : Prop} (h1 : p → A) (h2 : ¬ p → B) : if decide p = true then A else B := ite2 (fun h => h1 (of_decide_eq_true h)) (fun h => h2 fun z => h (decide_eq_true z))
theorem r_ndec {p : Prop} [Decidable p] {A B : Prop} (h1 : ¬ p → A) (h2 : p → B) : if (!decide p) = true then A else B := by
  by_cases h : p
  · rw [decide_eq_true h]; exact iteF (h2 h)
  · rw [decide_eq_false h]; exact iteT (h1 h)
theorem r_yes {b : Bool} {A B : Prop} (h : b = true) (q : A) : if b = true then A else B := by rw [if_pos h]; exact q
theorem r_no {b : Bool} {A B : Prop} (h : b = false) (q : B) : if b = true then A else B := by rw [h]; exact iteF q
end

/-! ### loops -/
/-- a list or a tuple -/
def Sq (K : PySem.W.Frag) (H : Hp) (a : Addr) (xs : List V) : Prop := SqL K H a xs ∨ SqT K H a xs
theorem Sq.keep {K : PySem.W.Frag} {H H' : Hp} {a : Addr} {xs : List V} (h : Sq K H a xs) (k : Same H H') : Sq K H' a xs := by
  rcases h with h | (h | ⟨o, h⟩) | h
  · exact .inl (k.seq h)
  · exact .inr (.inl (.inl (k _ _ h)))
  · exact .inr (.inl (.inr ⟨o, k _ _ h⟩))
  · exact .inr (.inr h)
def iSeqV (K : PySem.W.Frag) (n : Nat) : TI := fun σ H R => iList K (tVar n) σ H R ∨ iTup K (tVar n) σ H R
theorem pi_seqV {X : Cx} {tg l : Expr} {n : Nat} (hl : PE X l (tVar n)) : PI X tg l (iSeqV X.K n) :=
  ⟨fun pins s σ H R I h => h.elim ((pi_list hl).run pins s σ H R I) ((pi_tup hl).run pins s σ H R I)⟩
def rFor (g : TG) (tb : TS) (D : Ends) (σ0 : L2.St) (J : It) (H1 : Hp) : Prop := ∃ W : Nat → Nat → L2.St → Hp → Prop, (∃ m, W 0 m σ0 H1) ∧ ∀ i m σ H, W i m σ H →
  (J.stop i H ∧ D.nx σ H) ∨ (J.go i H ∧ ∃ N : L2.St → Hp → Prop, (∀ σ' H', N σ' H' → ∃ m', m' < m ∧ W (i + 1) m' σ' H') ∧ ∀ x H', J.yld i H x H' → g x σ H' fun σ2 H2 => tb { D with nx := N, ct := N, bk := D.nx } σ2 H2)
def rForL (K : PySem.W.Frag) (g : TG) (tb : TS) (D : Ends) (σ : L2.St) (x : V) (H : Hp) : Prop := ∃ a, x = .ref a ∧ (∃ xs, SqL K H a xs) ∧ rFor g tb D σ (Itl K a) H
def rForR1 (g : TG) (tb : TS) (D : Ends) (σ : L2.St) (vs : List V) (H : Hp) : Prop := ∃ j : Int, vs = [.int j] ∧ -(2 ^ 62) ≤ j ∧ j < 2 ^ 62 ∧ rFor g tb D σ (Itr 0 j.toNat) H
def rForR2 (g : TG) (tb : TS) (D : Ends) (σ : L2.St) (vs : List V) (H : Hp) : Prop := ∃ i j : Int, vs = [.int i, .int j] ∧ (-(2 ^ 62) ≤ i ∧ i < 2 ^ 62 ∧ -(2 ^ 62) ≤ j ∧ j < 2 ^ 62) ∧ rFor g tb D σ (Itr i (j - i).toNat) H
section
variable {K : PySem.W.Frag} {g : TG} {tb : TS} {D : Ends} {σ : L2.St} {H : Hp} {te : TE} {ta : TA} {a : Addr} {xs : List V} {n j : Nat}
theorem r_forL (h : te σ H fun x H1 => rForL K g tb D σ x H1) : tFor (iList K te) g tb D σ H := h
theorem r_forR1 (h : ta σ H fun vs H1 => rForR1 g tb D σ vs H1) : tFor (iRng1 ta) g tb D σ H := h
theorem r_forR2 (h : ta σ H fun vs H1 => rForR2 g tb D σ vs H1) : tFor (iRng2 ta) g tb D σ H := h
theorem l_seq (h : σ[n]? = some (some (.ref a))) (hq : Sq K H a xs) (Pv : Nat → L2.St → Hp → Prop) (h0 : Pv 0 σ H) (hl : ∀ i σ' H', i ≤ xs.length → Pv i σ' H' → Same H H')
    (hs : ∀ (i : Nat) x σ' H', xs[i]? = some x → Pv i σ' H' → tb { D with nx := Pv (i + 1), ct := Pv (i + 1), bk := D.nx } (σ'.set j (some x)) H') (hd : ∀ σ' H', Pv xs.length σ' H' → D.nx σ' H') : tFor (iSeqV K n) (gName j) tb D σ H := by
  rcases hq with hq | hq
  · exact .inl ⟨_, h, a, rfl, ⟨xs, hq⟩, for_list Pv h0 (fun i σ' H' l p => (hl i σ' H' l p).seq hq) hs hd⟩
  · refine .inr ⟨_, h, a, rfl, ⟨xs, hq⟩, for_tup Pv h0 (fun i σ' H' l p => ?_) hs hd⟩
    rcases hq with (hq | ⟨o, hq⟩) | hq
    · exact .inl (.inl (hl i σ' H' l p _ _ hq))
    · exact .inl (.inr ⟨o, hl i σ' H' l p _ _ hq⟩)
    · exact .inr hq
theorem l_list (hq : SqL K H a xs) (Pv : Nat → L2.St → Hp → Prop) (h0 : Pv 0 σ H) (hl : ∀ i σ' H', i ≤ xs.length → Pv i σ' H' → SqL K H' a xs)
    (hs : ∀ (i : Nat) x σ' H', xs[i]? = some x → Pv i σ' H' → tb { D with nx := Pv (i + 1), ct := Pv (i + 1), bk := D.nx } (σ'.set j (some x)) H') (hd : ∀ σ' H', Pv xs.length σ' H' → D.nx σ' H') : rForL K (gName j) tb D σ (.ref a) H :=
  ⟨a, rfl, ⟨xs, hq⟩, for_list Pv h0 hl hs hd⟩
theorem l_range1 {m : Int} (hm : m < 2 ^ 62) (h00 : 0 ≤ m) (Pv : Nat → L2.St → Hp → Prop) (h0 : Pv 0 σ H)
    (hs : ∀ (i : Nat) σ' H', (i : Int) < m → Pv i σ' H' → tb { D with nx := Pv (i + 1), ct := Pv (i + 1), bk := D.nx } (σ'.set j (some (.int (i : Int)))) H') (hd : ∀ σ' H', Pv m.toNat σ' H' → D.nx σ' H') : rForR1 (gName j) tb D σ [.int m] H :=
  ⟨m, rfl, by omega, hm, for_range Pv h0 (fun i σ' H' l p => by
    show tb _ (σ'.set j (some (.int (0 + (i : Int))))) H'
    rw [Int.zero_add]
    exact hs i σ' H' (by omega) p) hd⟩
theorem l_range2 {lo hi : Int} (h1 : -(2 ^ 62) ≤ lo) (h2 : lo < 2 ^ 62) (h3 : -(2 ^ 62) ≤ hi) (h4 : hi < 2 ^ 62) (Pv : Nat → L2.St → Hp → Prop) (h0 : Pv 0 σ H)
    (hs : ∀ (i : Nat) σ' H', lo + (i : Int) < hi → Pv i σ' H' → tb { D with nx := Pv (i + 1), ct := Pv (i + 1), bk := D.nx } (σ'.set j (some (.int (lo + (i : Int))))) H') (hd : ∀ σ' H', Pv (hi - lo).toNat σ' H' → D.nx σ' H') : rForR2 (gName j) tb D σ [.int lo, .int hi] H :=
  ⟨lo, hi, rfl, ⟨h1, h2, h3, h4⟩, for_range Pv h0 (fun i σ' H' l p => hs i σ' H' (by omega) p) hd⟩
end

/-! ### comprehensions -/
def rLc (g : TG) (tt : TT) (te : TE) (vs : List Nat) (σ : L2.St) (Q : VK) (J : It) (H1 : Hp) : Prop := ∀ D, H1 D = none → ∃ W : Nat → Nat → Hp → Prop, (∃ m, W 0 m (upd H1 D (.lst []))) ∧ ∀ i m H, W i m H →
  (J.stop i H ∧ Q (.ref D) H) ∨ (J.go i H ∧ ∃ Nx : Hp → Prop, (∀ H', Nx H' → ∃ m', m' < m ∧ W (i + 1) m' H') ∧ ∀ x H', J.yld i H x H' → g x (wipe σ vs) H' fun σ2 H2 => wipe σ2 vs = wipe σ vs ∧ tt σ2 H2 fun b H3 =>
    if b = true then te σ2 H3 fun y H4 => ∃ acc, H4 D = some (.lst acc) ∧ acc.length < sizeLine ∧ Nx (upd H4 D (.lst (acc ++ [y]))) else Nx H3)
/-- what is asked of the next item -/
def rIt (D : Addr) (N : Hp → Prop) (y : V) (H : Hp) : Prop := ∃ acc, H D = some (.lst acc) ∧ acc.length < sizeLine ∧ N (upd H D (.lst (acc ++ [y])))
def rLcL (K : PySem.W.Frag) (g : TG) (tt : TT) (te : TE) (vs : List Nat) (σ : L2.St) (Q : VK) (x : V) (H : Hp) : Prop := ∃ a, x = .ref a ∧ (∃ xs, SqL K H a xs) ∧ rLc g tt te vs σ Q (Itl K a) H
def rLcR1 (g : TG) (tt : TT) (te : TE) (vs : List Nat) (σ : L2.St) (Q : VK) (ws : List V) (H : Hp) : Prop := ∃ j : Int, ws = [.int j] ∧ -(2 ^ 62) ≤ j ∧ j < 2 ^ 62 ∧ rLc g tt te vs σ Q (Itr 0 j.toNat) H
def rLcR2 (g : TG) (tt : TT) (te : TE) (vs : List Nat) (σ : L2.St) (Q : VK) (ws : List V) (H : Hp) : Prop := ∃ i j : Int, ws = [.int i, .int j] ∧ (-(2 ^ 62) ≤ i ∧ i < 2 ^ 62 ∧ -(2 ^ 62) ≤ j ∧ j < 2 ^ 62) ∧ rLc g tt te vs σ Q (Itr i (j - i).toNat) H
section
variable {K : PySem.W.Frag} {g : TG} {tt : TT} {te tl : TE} {vs : List Nat} {σ : L2.St} {H : Hp} {Q : VK} {ta : TA} {a : Addr} {xs : List V} {j : Nat}
theorem r_lcL (h : tl σ H fun x H1 => rLcL K g tt te vs σ Q x H1) : tLc (iList K tl) g tt te vs σ H Q := h
theorem r_lcR1 (h : ta σ H fun ws H1 => rLcR1 g tt te vs σ Q ws H1) : tLc (iRng1 ta) g tt te vs σ H Q := h
theorem r_lcR2 (h : ta σ H fun ws H1 => rLcR2 g tt te vs σ Q ws H1) : tLc (iRng2 ta) g tt te vs σ H Q := h
theorem c_list (hq : SqL K H a xs) (Pv : Addr → Nat → Hp → Prop) (hw : ∀ x, wipe ((wipe σ vs).set j (some x)) vs = wipe σ vs) (h0 : ∀ D H1, Nw D (.lst []) H H1 → Pv D 0 H1) (hl : ∀ D i H', i ≤ xs.length → Pv D i H' → SqL K H' a xs)
    (hs : ∀ D (i : Nat) x H', xs[i]? = some x → Pv D i H' → tt ((wipe σ vs).set j (some x)) H' fun b H3 => if b = true then te ((wipe σ vs).set j (some x)) H3 fun y H4 => rIt D (Pv D (i + 1)) y H4 else Pv D (i + 1) H3)
    (hd : ∀ D H', Pv D xs.length H' → Q (.ref D) H') : rLcL K (gName j) tt te vs σ Q (.ref a) H :=
  ⟨a, rfl, ⟨xs, hq⟩, fun D hD => lc_list (Pv D) (h0 D _ ⟨hD, rfl⟩) (hl D) (fun i x H' e p => ⟨hw x, hs D i x H' e p⟩) (hd D)⟩
theorem c_range1 {m : Int} (hm : m < 2 ^ 62) (h00 : 0 ≤ m) (Pv : Addr → Nat → Hp → Prop) (hw : ∀ x, wipe ((wipe σ vs).set j (some x)) vs = wipe σ vs) (h0 : ∀ D H1, Nw D (.lst []) H H1 → Pv D 0 H1)
    (hs : ∀ D (i : Nat) H', (i : Int) < m → Pv D i H' → tt ((wipe σ vs).set j (some (.int (i : Int)))) H' fun b H3 => if b = true then te ((wipe σ vs).set j (some (.int (i : Int)))) H3 fun y H4 => rIt D (Pv D (i + 1)) y H4 else Pv D (i + 1) H3)
    (hd : ∀ D H', Pv D m.toNat H' → Q (.ref D) H') : rLcR1 (gName j) tt te vs σ Q [.int m] H :=
  ⟨m, rfl, by omega, hm, fun D hD => lc_range (lo := 0) (Pv D) (h0 D _ ⟨hD, rfl⟩) (fun i H' e p => by
    show wipe ((wipe σ vs).set j (some (.int (0 + (i : Int))))) vs = wipe σ vs ∧ tt ((wipe σ vs).set j (some (.int (0 + (i : Int))))) H' _
    rw [Int.zero_add]
    exact ⟨hw _, hs D i H' (by omega) p⟩) (hd D)⟩
theorem c_range2 {lo hi : Int} (h1 : -(2 ^ 62) ≤ lo) (h2 : lo < 2 ^ 62) (h3 : -(2 ^ 62) ≤ hi) (h4 : hi < 2 ^ 62) (Pv : Addr → Nat → Hp → Prop) (hw : ∀ x, wipe ((wipe σ vs).set j (some x)) vs = wipe σ vs) (h0 : ∀ D H1, Nw D (.lst []) H H1 → Pv D 0 H1)
    (hs : ∀ D (i : Nat) H', lo + (i : Int) < hi → Pv D i H' → tt ((wipe σ vs).set j (some (.int (lo + (i : Int))))) H' fun b H3 => if b = true then te ((wipe σ vs).set j (some (.int (lo + (i : Int))))) H3 fun y H4 => rIt D (Pv D (i + 1)) y H4 else Pv D (i + 1) H3)
    (hd : ∀ D H', Pv D (hi - lo).toNat H' → Q (.ref D) H') : rLcR2 (gName j) tt te vs σ Q [.int lo, .int hi] H :=
  ⟨lo, hi, rfl, ⟨h1, h2, h3, h4⟩, fun D hD => lc_range (lo := lo) (Pv D) (h0 D _ ⟨hD, rfl⟩) (fun i H' e p => ⟨hw _, hs D i H' (by omega) p⟩) (hd D)⟩
theorem r_it {D : Addr} {N : Hp → Prop} {y : V} {acc : List V} (h : H D = some (.lst acc)) (hl : acc.length ≤ 1000000) (q : ∀ H', Mu D (.lst (acc ++ [y])) H H' → N H') : rIt D N y H := ⟨acc, h, Nat.lt_of_le_of_lt hl (by decide), q _ rfl⟩
theorem r_yesT {QT : Bool → Hp → Prop} (q : QT true H) : tYes σ H QT := q
end

/-! ### built-ins, by names -/
def rInt : List V → Hp → VK → Prop := fun xs H Q => (∃ i, xs = [.int i] ∧ Q (.int i) H) ∨ ∃ k, xs = [.bl k] ∧ Q (.int (if k then 1 else 0)) H
def rAbs : List V → Hp → VK → Prop := fun xs H Q => ∃ i, xs = [.int i] ∧ Q (.int (if i < 0 then -i else i)) H
def rMax2 : List V → Hp → VK → Prop := fun xs H Q => ∃ i j, xs = [.int i, .int j] ∧ Q (.int (if j > i then j else i)) H
def rMin2 : List V → Hp → VK → Prop := fun xs H Q => ∃ i j, xs = [.int i, .int j] ∧ Q (.int (if j < i then j else i)) H
def rLen (K : PySem.W.Frag) : List V → Hp → VK → Prop := fun xs H Q => ∃ p ys, xs = [.ref p] ∧ (SqL K H p ys ∨ SqT K H p ys) ∧ Q (.int ys.length) H
def rIsNo : R2 := fun x y H Q => y = .non ∧ Q (.bl (decide (x = .non))) H
def rNotNo : R2 := fun x y H Q => y = .non ∧ Q (.bl (!decide (x = .non))) H
section
variable {X : Cx}
theorem cr_int : CallR X (.type "int") rInt := call_int1
theorem cr_abs : CallR X (.builtin "abs") rAbs := call_abs
theorem cr_max2 (h : X.calm = true) : CallR X (.builtin "max") rMax2 := call_max2 h
theorem cr_min2 (h : X.calm = true) : CallR X (.builtin "min") rMin2 := call_min2 h
theorem cr_len : CallR X (.builtin "len") (rLen X.K) := call_len_seq
theorem op_isNo : OpR X (compareOp .Is) rIsNo := op_isN
theorem op_notNo : OpR X (compareOp .IsNot) rNotNo := op_notN
end
def rBMa (K : PySem.W.Frag) (T : String) (r : V → List V → Hp → VK → Prop) (t : TA) (σ : L2.St) (x : V) (H : Hp) (Q : VK) : Prop := tyV K T x H ∧ t σ H fun xs H2 => r x xs H2 Q
def rBM0 (K : PySem.W.Frag) (T : String) (r : V → List V → Hp → VK → Prop) (x : V) (H : Hp) (Q : VK) : Prop := tyV K T x H ∧ r x [] H Q
section
variable {K : PySem.W.Frag} {σ : L2.St} {H : Hp} {Q : VK} {i j : Int} {k : Bool} {p a : Addr} {xs ys : List V} {x y v : V} {to : TE} {t : TA} {T : String} {r : V → List V → Hp → VK → Prop} {QU : Hp → Prop}
theorem r_int (q : Q (.int i) H) : rInt [.int i] H Q := .inl ⟨i, rfl, q⟩
theorem r_intB (q : Q (.int (if k then 1 else 0)) H) : rInt [.bl k] H Q := .inr ⟨k, rfl, q⟩
theorem r_abs (q : Q (.int (if i < 0 then -i else i)) H) : rAbs [.int i] H Q := ⟨i, rfl, q⟩
theorem r_max2 (q : Q (.int (if j > i then j else i)) H) : rMax2 [.int i, .int j] H Q := ⟨i, j, rfl, q⟩
theorem r_min2 (q : Q (.int (if j < i then j else i)) H) : rMin2 [.int i, .int j] H Q := ⟨i, j, rfl, q⟩
theorem r_lenT (h : SqT K H p xs) (q : Q (.int (xs.length : Int)) H) : rLen K [.ref p] H Q := ⟨p, xs, rfl, .inr h, q⟩
theorem r_lenL (h : SqL K H p xs) (q : Q (.int (xs.length : Int)) H) : rLen K [.ref p] H Q := ⟨p, xs, rfl, .inl h, q⟩
theorem r_isNo (q : Q (.bl (decide (x = .non))) H) : rIsNo x .non H Q := ⟨rfl, q⟩
theorem r_notNo (q : Q (.bl (!decide (x = .non))) H) : rNotNo x .non H Q := ⟨rfl, q⟩
theorem r_isBl {b : Bool} (q : Q (.bl (decide (k = b))) H) : rIsB (.bl k) (.bl b) H Q := ⟨k, b, rfl, rfl, q⟩
theorem r_isi {s b : String} {c : Bool} (t : TyX K H x (.type s)) (h : PySem.W.kitOne K (.type s) (.type b) = some c) (q : Q (.bl c) H) : rIsi K [x, .ty b] H Q := ⟨x, _, _, _, c, rfl, .ty b, t, h, q⟩
theorem ty_int : TyX K H (.int i) (.type "int") := .base (.int i)
theorem ty_bl : TyX K H (.bl k) (.type "bool") := .base (.bl k)
theorem ty_non : TyX K H .non (.type "NoneType") := .base .non
theorem ty_str {s : Str} : TyX K H (.str s) (.type "str") := .base (.str s)
theorem ty_tup (h : Tp K H p xs) : TyX K H (.ref p) (.type "tuple") := by
  rcases h with h | ⟨o, _, _, e, c, _⟩
  · exact .base (.tup h)
  · exact .kTuple e c
theorem r_isi_it (q : Q (.bl false) H) : rIsi K [.int i, .ty "tuple"] H Q := r_isi ty_int (kit_ty (by decide +kernel)) q
theorem r_isi_ib (q : Q (.bl false) H) : rIsi K [.int i, .ty "bool"] H Q := r_isi ty_int (kit_ty (by decide +kernel)) q
theorem r_isi_ii (q : Q (.bl true) H) : rIsi K [.int i, .ty "int"] H Q := r_isi ty_int (kit_ty (by decide +kernel)) q
theorem r_isi_bt (q : Q (.bl false) H) : rIsi K [.bl k, .ty "tuple"] H Q := r_isi ty_bl (kit_ty (by decide +kernel)) q
theorem r_isi_bb (q : Q (.bl true) H) : rIsi K [.bl k, .ty "bool"] H Q := r_isi ty_bl (kit_ty (by decide +kernel)) q
theorem r_isi_nt (q : Q (.bl false) H) : rIsi K [.non, .ty "tuple"] H Q := r_isi ty_non (kit_ty (by decide +kernel)) q
theorem r_isi_st {s : Str} (q : Q (.bl false) H) : rIsi K [.str s, .ty "tuple"] H Q := r_isi ty_str (kit_ty (by decide +kernel)) q
theorem r_isi_sb {s : Str} (q : Q (.bl false) H) : rIsi K [.str s, .ty "bool"] H Q := r_isi ty_str (kit_ty (by decide +kernel)) q
theorem r_isi_si {s : Str} (q : Q (.bl false) H) : rIsi K [.str s, .ty "int"] H Q := r_isi ty_str (kit_ty (by decide +kernel)) q
theorem r_isi_ss {s : Str} (q : Q (.bl true) H) : rIsi K [.str s, .ty "str"] H Q := r_isi ty_str (kit_ty (by decide +kernel)) q
theorem r_isi_tt (h : Tp K H p xs) (q : Q (.bl true) H) : rIsi K [.ref p, .ty "tuple"] H Q := r_isi (ty_tup h) (kit_ty (by decide +kernel)) q
-- methods of lists, stores
theorem r_BMa (h : to σ H fun x H1 => rBMa K T r t σ x H1 Q) : tBM K T r to t σ H Q := h
theorem r_BM0 (h : to σ H fun x H1 => rBM0 K T r x H1 Q) : tBM0 K T r to σ H Q := h
theorem r_lm (h : SqL K H p xs) (q : t σ H fun ys H2 => r (.ref p) ys H2 Q) : rBMa K "list" r t σ (.ref p) H Q := ⟨.inl ⟨rfl, xs, h⟩, q⟩
theorem r_app (h : H p = some (.lst xs)) (l : xs.length ≤ 1000000) (q : ∀ H', Mu p (.lst (xs ++ [y])) H H' → Q .non H') : rAppend (.ref p) [y] H Q := ⟨p, xs, y, rfl, rfl, h, Nat.lt_of_le_of_lt l (by decide), q _ rfl⟩
theorem r_pop (h : H p = some (.lst (xs ++ [y]))) (q : ∀ H', Mu p (.lst xs) H H' → Q y H') : rBM0 K "list" rPop (.ref p) H Q := by
  refine ⟨.inl ⟨rfl, _, SqL.of h⟩, p, _, y, rfl, rfl, h, ?_, ?_⟩
  · rw [List.length_append, List.length_singleton, Nat.add_sub_cancel]
    exact List.getElem?_concat_length
  · rw [List.dropLast_concat]
    exact q _ rfl
def rSub (t : TSet) (o i v : V) (H : Hp) (Q : Hp → Prop) : Prop := t o i v H Q
theorem r_gSub {ti : TE} {ts : TSet} {QS : L2.St → Hp → Prop} (h : to σ H fun o H1 => ti σ H1 fun i H2 => rSub ts o i v H2 fun H3 => QS σ H3) : gSub to ti ts v σ H QS := h
theorem r_setL {n : Nat} (h : H p = some (.lst xs)) (e : ixN xs.length i = some n) (q : ∀ H', Mu p (.lst (xs.set n v)) H H' → QU H') : rSub rSetL (.ref p) (.int i) v H QU := ⟨p, xs, i, n, rfl, rfl, h, e, q _ rfl⟩
-- comparisons of lists of ints with the empty one
theorem dp_ints : ∀ cs : List Int, DpAll K H (cs.map V.int) (cs.map PyData.int)
  | [] => .nil
  | c :: cs => .cons (.int c) (dp_ints cs)
theorem lay_ints : ∀ cs : List Int, PyData.canLayAll0 (cs.map PyData.int) = true
  | [] => rfl
  | c :: cs => by
    show (PyData.canLay0 (.int c) && PyData.canLayAll0 (cs.map PyData.int)) = true
    rw [lay_ints cs]
    rfl
theorem dep_ints : ∀ cs : List Int, PyData.depthAll (cs.map PyData.int) = 0
  | [] => rfl
  | c :: cs => by
    show max (PyData.depth (.int c)) (PyData.depthAll (cs.map PyData.int)) = 0
    rw [dep_ints cs]
    rfl
theorem shaped_ints (cs : List Int) : SeqAt.shaped (.list (cs.map PyData.int)) = true := by
  show (PyData.canLay0 (.list (cs.map PyData.int)) && decide (PyData.depthAll (cs.map PyData.int) + 1 ≤ 64)) = true
  rw [dep_ints]
  show (PyData.canLayAll0 (cs.map PyData.int) && decide (0 + 1 ≤ 64)) = true
  rw [lay_ints]
  rfl
theorem r_neNil {cs : List Int} (h : SqL K H p (cs.map V.int)) (h' : SqL K H a []) (q : Q (.bl (!decide (cs = []))) H) : rNeD K (.ref p) (.ref a) H Q := by
  refine ⟨_, _, .lst h (dp_ints cs), .lst h' .nil, shaped_ints cs, shaped_ints [], ?_⟩
  cases cs with
  | nil => exact q
  | cons c cs => exact q
end

/-! ### joins -/
section
variable {tt : TT} {tb s1 s2 : TS} {D : Ends} {σ : L2.St} {H : Hp}
theorem l_while (W : Nat → L2.St → Hp → Prop) (Post : L2.St → Hp → Prop) {m0 : Nat} (h0 : W m0 σ H)
    (hs : ∀ nx : L2.St → Hp → Prop, (∀ σ' H', Post σ' H' → nx σ' H') → ∀ m σ' H', W m σ' H' → tt σ' H' fun b H1 => if b = true then ∃ N : L2.St → Hp → Prop, (∀ σ2 H2, N σ2 H2 → ∃ m', m' < m ∧ W m' σ2 H2) ∧ tb { D with nx := N, ct := N, bk := nx } σ' H1 else nx σ' H1)
    (hd : ∀ σ' H', Post σ' H' → D.nx σ' H') : tWhile tt tb D σ H := ⟨W, ⟨m0, h0⟩, hs D.nx hd⟩
theorem l_if (Post : L2.St → Hp → Prop) (hs : ∀ nx : L2.St → Hp → Prop, (∀ σ' H', Post σ' H' → nx σ' H') → tt σ H fun b H1 => if b = true then s1 { D with nx := nx } σ H1 else s2 { D with nx := nx } σ H1)
    (hd : ∀ σ' H', Post σ' H' → D.nx σ' H') : tIfS tt s1 s2 D σ H := hs D.nx hd
end

/-! ### more readings -/
def rCh (x : V) (k : Bool → Prop) : Prop := ∃ c, x = .bl c ∧ k c
def rPa (x : V) (H : Hp) (Q : Option Int → Hp → Prop) : Prop := ∃ i, x = .int i ∧ Q (some i) H
def rRev (K : PySem.W.Frag) (x : V) (H : Hp) (Q : VK) : Prop := ∃ a xs, x = .ref a ∧ SqL K H a xs ∧ ∀ p, H p = none → Q (.ref p) (upd H p (.lst xs.reverse))
section
variable {K : PySem.W.Frag} {σ : L2.St} {H H0 H' : Hp} {Q : VK} {ta tb te : TE} {tl th : TO} {i : Int} {c : Bool} {kk : Bool → Prop} {p a : Addr} {xs : List V} {QO : Option Int → Hp → Prop} {lo hi : Option Int} {o : HO}
theorem r_ch (h : kk c) : rCh (.bl c) kk := ⟨c, rfl, h⟩
theorem r_andV (h : ta σ H fun x H1 => rCh x fun c => if c = true then tb σ H1 Q else Q (.bl false) H1) : tAndV ta tb σ H Q := h
theorem r_orV (h : ta σ H fun x H1 => rCh x fun c => if c = true then Q (.bl true) H1 else tb σ H1 Q) : tOrV ta tb σ H Q := h
theorem r_notV (h : ta σ H fun x H1 => rCh x fun c => Q (.bl (!c)) H1) : tNotV ta σ H Q := h
theorem r_sl {r : V → Option Int → Option Int → Hp → VK → Prop} (h : te σ H fun x H1 => tl σ H1 fun l H2 => th σ H2 fun u H3 => r x l u H3 Q) : tSl r te tl th σ H Q := h
theorem r_noPart (h : QO none H) : tNoPart σ H QO := h
theorem r_part (h : te σ H fun x H1 => rPa x H1 QO) : tPart te σ H QO := h
theorem r_pa (h : QO (some i) H) : rPa (.int i) H QO := ⟨i, rfl, h⟩
theorem r_slL (h : SqL K H a xs) (q : ∀ p H', Nw p (.lst (cutV xs lo hi)) H H' → Q (.ref p) H') : rSlL K (.ref a) lo hi H Q := ⟨a, xs, rfl, h, fun p np => q p _ ⟨np, rfl⟩⟩
theorem r_tRev (h : te σ H fun x H1 => rRev K x H1 Q) : tRevL K te σ H Q := h
theorem r_rev (h : SqL K H a xs) (q : ∀ p H', Nw p (.lst xs.reverse) H H' → Q (.ref p) H') : rRev K (.ref a) H Q := ⟨a, xs, rfl, h, fun p np => q p _ ⟨np, rfl⟩⟩
theorem Mu.same0 (m : Mu p o H H') (h : Same H0 H) (n : H0 p = none) : Same H0 H' := fun x u e => by rw [m.ne (ne_of_none e n)]; exact h x u e
theorem at_ok {r : Int} (h0 : 0 ≤ r) (h1 : r < xs.length) : ∃ x, x ∈ xs ∧ xs[r.toNat]? = some x ∧ atI xs r = some x := by
  have hl : r.toNat < xs.length := by omega
  refine ⟨xs[r.toNat], List.getElem_mem hl, List.getElem?_eq_getElem hl, ?_⟩
  have := atI_nat (List.getElem?_eq_getElem hl)
  rw [Int.toNat_of_nonneg h0] at this
  exact this
end
/-- a promise of nothing -/
theorem fn_no {P : Program} {w : World} {K : PySem.W.Frag} {mg : Str → Option Value} {base : Heap} {k : Nat} {f : Addr} {fd : FuncData} {ps : List Str} : FnOk P w K mg base CX0 k f fd ps (fun _ _ _ _ => False) :=
  ⟨fun _ _ _ _ h => h.elim, fun _ _ _ _ _ _ _ _ _ _ _ _ _ h => h.elim⟩
theorem cut_all {xs : List V} {n : Nat} (h : xs.length ≤ n) : cutV xs none (some (n : Int)) = xs := by
  unfold cutV
  rw [HT.sIx_none, HT.sIx_nat, Nat.min_eq_right h]
  show (xs.drop 0).take (xs.length - 0) = xs
  rw [List.drop_zero, Nat.sub_zero, List.take_length]

/-! ### rules with the written part told -/
section
variable {X : Cx} (K : PySem.W.Frag)
theorem ix_sqK (h : X.K = K := by rfl) : IxR X (rIx K) := by subst h; exact ix_seq
theorem cr_lenK (h : X.K = K := by rfl) : CallR X (.builtin "len") (rLen K) := by subst h; exact cr_len
theorem cr_isiK (h : X.K = K := by rfl) : CallR X (.builtin "isinstance") (rIsi K) := by subst h; exact call_isi
theorem op_eqDK (hu : X.A.units + 64 < cLine) (h : X.K = K := by rfl) : OpR X (compareOp .Eq) (rEqD K) := by subst h; exact op_eqD hu
theorem op_neDK (hu : X.A.units + 64 < cLine) (h : X.K = K := by rfl) : OpR X (compareOp .NotEq) (rNeD K) := by subst h; exact op_neD hu
theorem op_inK (h : X.K = K := by rfl) : OpR X (compareOp .In) (rIn K false) := by subst h; exact op_in_seq
theorem op_notInK (h : X.K = K := by rfl) : OpR X (compareOp .NotIn) (rIn K true) := by subst h; exact op_notIn_seq
theorem sl_listK (h : X.K = K := by rfl) : SlR X (rSlL K) := by subst h; exact sl_list
theorem pi_listK {tg l : Expr} {tl : TE} (hl : PE X l tl) (h : X.K = K := by rfl) : PI X tg l (iList K tl) := by subst h; exact pi_list hl
theorem pi_seqVK {tg l : Expr} {n : Nat} (hl : PE X l (tVar n)) (h : X.K = K := by rfl) : PI X tg l (iSeqV K n) := by subst h; exact pi_seqV hl
theorem pe_revLK {e : Expr} {te : TE} {k : Nat} {p1 p2 p3 pos : Pos} (he : PE X e te) (h : X.K = K := by rfl) : PE X (.Subscript e (.Slice none none (some (.UnaryOp .USub (.Constant (.int 1) k p1) p2)) p3) pos) (tRevL K te) := by subst h; exact pe_revL he
end

theorem r_nF {A B : Prop} (q : A) : if (!false) = true then A else B := q
theorem r_nT {A B : Prop} (q : B) : if (!true) = true then A else B := iteF q

section
variable {K : PySem.W.Frag} {σ : L2.St} {H : Hp} {Q : VK} {QS : L2.St → Hp → Prop} {a p : Addr} {xs : List V} {x v : V} {n : Nat} {g : TG} {u : TGs}
theorem r_gTup (h : SqT K H a xs) (hl : xs.length = n) (q : u xs σ H QS) : gTup K n u (.ref a) σ H QS := ⟨a, xs, rfl, h, hl, q⟩
theorem r_gCons (q : g v σ H fun σ' H' => u xs σ' H' QS) : gCons g u (v :: xs) σ H QS := ⟨v, xs, rfl, q⟩
theorem r_gNil (q : QS σ H) : gNil [] σ H QS := ⟨rfl, q⟩
theorem r_gName (q : QS (σ.set n (some v)) H) : gName n v σ H QS := q
theorem r_inL (h : SqL K H p xs) (hx : flatV x = true) (ha : xs.all flatV = true) (q : Q (.bl (inV x xs)) H) : rIn K false x (.ref p) H Q := ⟨p, xs, rfl, .inl h, hx, ha, q⟩
theorem r_inT (h : SqT K H p xs) (hx : flatV x = true) (ha : xs.all flatV = true) (q : Q (.bl (inV x xs)) H) : rIn K false x (.ref p) H Q := ⟨p, xs, rfl, .inr h, hx, ha, q⟩
theorem r_b {b : Bool} {A B : Prop} (h1 : b = true → A) (h2 : b = false → B) : if b = true then A else B := by
  cases b with
  | true => exact iteT (h1 rfl)
  | false => exact iteF (h2 rfl)
end

def rTuple (K : PySem.W.Frag) : List V → Hp → VK → Prop := fun xs H Q => ∃ p ys, xs = [.ref p] ∧ ((SqL K H p ys ∧ ∀ l, H l = none → Q (.ref l) (upd H l (.tup ys))) ∨ (SqT K H p ys ∧ Q (.ref p) H))
theorem cr_tupleK {X : Cx} (K : PySem.W.Frag) (h : X.K = K := by rfl) : CallR X (.type "tuple") (rTuple K) := by subst h; exact call_tuple_of
section
variable {K : PySem.W.Frag} {H : Hp} {Q : VK} {p a : Addr} {xs ys : List V}
theorem r_tupleL (h : SqL K H p xs) (q : ∀ l H', Nw l (.tup xs) H H' → Q (.ref l) H') : rTuple K [.ref p] H Q := ⟨p, xs, rfl, .inl ⟨h, fun l nl => q l _ ⟨nl, rfl⟩⟩⟩
theorem r_tupleT (h : SqT K H p xs) (q : Q (.ref p) H) : rTuple K [.ref p] H Q := ⟨p, xs, rfl, .inr ⟨h, q⟩⟩
theorem r_cat (h : H p = some (.lst xs)) (h' : H a = some (.lst ys)) (l : xs.length + ys.length ≤ 1000000) (q : ∀ l H', Nw l (.lst (xs ++ ys)) H H' → Q (.ref l) H') : rCat (.ref p) (.ref a) H Q :=
  ⟨p, a, xs, ys, rfl, rfl, h, h', Nat.le_trans l (by decide), fun l nl => q l _ ⟨nl, rfl⟩⟩
end
end Al

set_option Elab.async false
set_option linter.all false
set_option maxRecDepth 100000
set_option maxHeartbeats 4000000
set_option exponentiation.threshold 20000
namespace Al
open PySem PySem.Spec PyProof.Rows L2

/-! ### t[::-1] -/
theorem adjust_rev (n : Nat) : Builtin.Slice.sliceAdjust none none (-1) (n : Int) = ((n : Int) - 1, -1) := by
  unfold Builtin.Slice.sliceAdjust
  rfl
theorem places_rev (n : Nat) : Builtin.Slice.slicePlaces ((n : Int) - 1) (-1) (-1) = n := by
  unfold Builtin.Slice.slicePlaces
  have h1 : ¬ ((-1 : Int) > 0) := by omega
  simp only [h1, if_false]
  split
  · rw [show (- -1 : Int) = 1 by decide, Int.ediv_one]; omega
  · omega
section
variable {prog : Program} {w : World} {A : Around} {E : Value → Shared → Prop} {s : Shared}
theorem applied_rev {sl : Addr} {vl vu vs : Value} {n : Nat} {Q : Int × Int × Nat → Shared → Prop} (hs : s.heap.IsSliceOf sl vl vu vs) (pl : IsPart vl none) (pu : IsPart vu none) (ps : IsPart vs (some (-1)))
    (h : Q ((n : Int) - 1, -1, n) s) : wpAny (model prog w) A (Builtin.Slice.sliceApplied (.ref sl) (pure (n : Int))) Q E s := by
  obtain ⟨os, hos, hcs, hds⟩ := id hs
  unfold Builtin.Slice.sliceApplied Builtin.Slice.sliceFields
  refine wpAny_bind (wpAny_bind (wpAny_field hos hds (x := vl) rfl (wpAny_bind (wpAny_field hos hds (x := vu) rfl (wpAny_bind (wpAny_field hos hds (x := vs) rfl (wpAny_pure ?_)))))))
  refine wpAny_bind (HT.slicePart_ ps ?_)
  show wpAny _ _ (if ((-1 : Int) == 0) = true then _ else _) _ _ s
  rw [if_neg (by decide)]
  refine wpAny_bind (HT.slicePart_ pl (wpAny_bind (HT.slicePart_ pu (wpAny_bind (wpAny_pure ?_)))))
  show wpAny _ _ (match Builtin.Slice.sliceAdjust none none (-1) (n : Int) with | (lo, hi) => pure (lo, (-1 : Int), Builtin.Slice.slicePlaces lo hi (-1))) _ _ s
  rw [adjust_rev n]
  show wpAny _ _ (pure ((n : Int) - 1, (-1 : Int), Builtin.Slice.slicePlaces ((n : Int) - 1) (-1) (-1))) _ _ s
  rw [places_rev]
  exact wpAny_pure h
theorem pick_rev (xs : Array Value) : ((List.range xs.size).filterMap fun (m : Nat) => xs[((xs.size : Int) - 1 + (m : Int) * -1).toNat]?).toArray = xs.toList.reverse.toArray := by
  have e : (fun (m : Nat) => xs[((xs.size : Int) - 1 + (m : Int) * -1).toNat]?) = (fun m => xs[m]?) ∘ fun m => xs.size - 1 - m := by
    funext m
    show xs[((xs.size : Int) - 1 + (m : Int) * -1).toNat]? = xs[xs.size - 1 - m]?
    by_cases h : xs.size = 0
    · rw [Array.getElem?_eq_none (by omega), Array.getElem?_eq_none (by omega)]
    · by_cases h2 : m ≤ xs.size - 1
      · rw [show ((xs.size : Int) - 1 + (m : Int) * -1).toNat = xs.size - 1 - m by omega]
      · rw [show ((xs.size : Int) - 1 + (m : Int) * -1).toNat = 0 by omega, show xs.size - 1 - m = 0 by omega]
  rw [e, ← List.filterMap_map, PySem.W.krv_range, List.filterMap_reverse, PySem.W.krv_all]
theorem getItem_rev {t sl : Addr} {items : Array Value} {vl vu vs : Value} {Q : Value → Shared → Prop} (ht : IsTup s.heap t items) (hs : s.heap.IsSliceOf sl vl vu vs) (pl : IsPart vl none) (pu : IsPart vu none) (ps : IsPart vs (some (-1)))
    (h : Q (.ref s.heap.objs.size) { s with heap := s.heap.push { cls := .type "tuple", data := .seq items.toList.reverse.toArray } })
    (hsz : items.size ≤ sizeLine) : wpAny (model prog w) A (getItem (.ref t) (.ref sl)) Q E s := by
  have hz : sizeOk (.seq items.toList.reverse.toArray) := by
    show items.toList.reverse.toArray.size ≤ sizeLine
    rw [List.size_toArray, List.length_reverse, Array.length_toList]
    exact hsz
  obtain ⟨os, hos, hcs, hds⟩ := id hs
  have hTs : s.TypeIs (.ref sl) "slice" := ⟨os, hos, hcs⟩
  unfold getItem
  try with_reducible refine wpAny_holding ?_
  first | refine wpAny_bind (wpAny_pure ?_) | skip
  refine wpAny_bind (wpAny_sequenceKey ht.typeIs (by decide) ?_)
  refine wpAny_bind (wpAny_callSpecial?_slot (name := Str.ofString "__getitem__") ht.typeIs PyProof.Rows.slot_tuple_getitem
    (wpAny_call_entry PyProof.Rows.slot_tuple_getitem ht.typeIs entry_tuple_getitem ?_ (args_tuple_getitem _ _)))
  show wpAny _ _ (Builtin.Tuple.tupleItemsOf (.ref t) >>= _) _ _ s
  refine wpAny_bind (tupleItemsOf_ ht ?_)
  refine wpAny_bind (wpAny_typeOf hTs ?_)
  rw [if_pos (by decide)]
  refine wpAny_bind (applied_rev hs pl pu ps ?_)
  have hno : ¬ (((items.size : Int) - 1 == 0 && (-1 : Int) == 1 && items.size == items.size) = true) := by
    intro q
    rw [Bool.and_eq_true, Bool.and_eq_true] at q
    exact absurd q.1.2 (by decide)
  show wpAny _ _ (if ((items.size : Int) - 1 == 0 && (-1 : Int) == 1 && items.size == items.size) = true then _ else _) _ _ s
  rw [if_neg hno, pick_rev]
  first
    | exact wpAny_bind (m := Builtin.Tuple.tupleExact _) (wpAny_newObj_type (wpAny_pure ⟨_, rfl, wpAny_pure h⟩) hz)
    | exact wpAny_bind (m := Builtin.Tuple.tupleExact _) (wpAny_newObj_type (wpAny_bind (wpAny_pure (wpAny_pure ⟨_, rfl, wpAny_pure h⟩))) hz)
    | exact wpAny_bind (wpAny_bind (m := Builtin.Tuple.tupleExact _) (wpAny_newObj_type (wpAny_pure (wpAny_pure ⟨_, rfl, wpAny_pure h⟩)) hz))
    | exact wpAny_bind (wpAny_bind (m := Builtin.Tuple.tupleExact _) (wpAny_newObj_type (wpAny_pure ⟨_, rfl, wpAny_pure h⟩) hz))
end
def rRevT (K : PySem.W.Frag) (x : V) (H : Hp) (Q : VK) : Prop := ∃ a xs, x = .ref a ∧ SqT K H a xs ∧ ∀ p, H p = none → Q (.ref p) (upd H p (.tup xs.reverse))
def tRevT (K : PySem.W.Frag) (te : TE) : TE := fun σ H Q => te σ H fun x H1 => rRevT K x H1 Q
section
variable {X : Cx}
theorem pe_revTK (K : PySem.W.Frag) {e : Expr} {te : TE} {k : Nat} {p1 p2 p3 pos : Pos} (he : PE X e te) (hK : X.K = K := by rfl) : PE X (.Subscript e (.Slice none none (some (.UnaryOp .USub (.Constant (.int 1) k p1) p2)) p3) pos) (tRevT K te) := by
  subst hK
  refine ⟨fun pins s σ H Q I h => ?_⟩
  refine Subscript_ (thn (he.run pins s σ H _ I h) fun v s1 ⟨x, H1, I1, r1, q1⟩ => ?_)
  obtain ⟨a, xs, ex, hx, q⟩ := q1
  subst ex
  cases r1
  have hst : PO X (some (.UnaryOp .USub (.Constant (.int 1) k p1) p2)) (tPart (tUn (rU fun i => .int (-i)) (tC (.int 1)))) := po_some (pe_un un_neg pe_int)
  refine wpAny_Slice (thn (po_none.run pins s1 σ H1 (fun o H2 => o = none ∧ H2 = H1) I1 ⟨rfl, rfl⟩) fun vl s2 ⟨l, H2, I2, pl, el, e2⟩ => ?_)
  subst el e2
  refine thn (po_none.run pins s2 σ H2 (fun o H3 => o = none ∧ H3 = H2) I2 ⟨rfl, rfl⟩) fun vu s3 ⟨u, H3, I3, pu, eu, e3⟩ => ?_
  subst eu e3
  refine thn (hst.run pins s3 σ H3 (fun o H4 => o = some (-1) ∧ H4 = H3) I3 ⟨1, rfl, -1, rfl, rfl, rfl⟩) fun vs s4 ⟨o, H4, I4, ps, eo, e4⟩ => ?_
  subst eo e4
  have I5 : Inv X pins σ H4 { s4 with heap := s4.heap.push { cls := .type "slice", data := .fields #[vl, vu, vs] } } := I4.kept (t' := s4.toks) fun b ob q => Heap.get?_push_of_some _ q
  obtain ⟨its, r, ht, hz⟩ := I5.tuple hx
  have hlen := r.length
  show wpAny (model X.prog X.w) X.A (subscriptTail e (.Slice none none (some (.UnaryOp .USub (.Constant (.int 1) k p1) p2)) p3) (.ref a) (.ref s4.heap.objs.size)) (EP X pins σ Q) X.xe { s4 with heap := s4.heap.push { cls := .type "slice", data := .fields #[vl, vu, vs] } }
  refine tail_any (ops := [.ref a, .ref s4.heap.objs.size]) ht.typeIs (PyProof.Rows.slot_tuple_getitem.lookup) ?_ (by with_unfolding_all rfl)
  refine getItem_rev ht (Heap.IsSliceOf.new _ vl vu vs) pl pu ps ?_ (by rw [List.size_toArray]; omega)
  refine ⟨.ref _, _, I5.laid (t' := s4.toks) (o := .tup xs.reverse) (fun b ob q => Heap.get?_push_of_some _ q) (Nat.le_refl _) ?_, rfl, q _ (I5.hok.fresh (Nat.le_refl _))⟩
  exact ⟨by rw [List.length_reverse]; exact hz, _, r.reverse, IsTup.new _ _⟩
end

/-! ### t * k, any k -/
section
open PySem.AutoSeq1 (wpAny_loadPart')
theorem mul_same (l : Addr) (items : Array Value) (n : Nat) (dd : Option Addr) (sl : Array (Option Value)) (x : Int) (u : Tok) (c0 : (decide (x < -(2 ^ 63)) || decide (x ≥ 2 ^ 63)) = false) (c1 : (items.isEmpty || x == 1) = true) :
    Meets (Builtin.«tuple.__mul__» ⟨[.ref l, .int x u], []⟩) (fun _ R s => s.heap.get? l = some { cls := .type "tuple", dict := dd, data := .seq items n, slots := sl } ∧
      R (.ok (.ret (Value.ref l))) { s with heap := s.heap, toks := s.toks }) :=
  .of_wp fun prog w A R s h => by
    obtain ⟨hp, g, d, tk, os⟩ := s
    obtain ⟨hl, h⟩ := h
    have f1 := AutoSeq1.idx_int
    wp_walk using wpAny_loadPart' hl
    repeat (first
      | (refine wpAny_ite_false (decide_eq_false (by rw [c0]; exact Bool.false_ne_true)) ?_; wp_walk using wpAny_loadPart' hl)
      | (refine wpAny_ite_true (decide_eq_true (by rw [c1])) ?_; wp_walk using wpAny_loadPart' hl))
    exact ⟨_, rfl, h⟩
theorem mul_none (l : Addr) (items : Array Value) (n : Nat) (dd : Option Addr) (sl : Array (Option Value)) (x : Int) (u : Tok) (c0 : (decide (x < -(2 ^ 63)) || decide (x ≥ 2 ^ 63)) = false) (c1 : (items.isEmpty || x == 1) = false) (c2 : (decide (x ≤ 0) || items.isEmpty) = true) :
    Meets (Builtin.«tuple.__mul__» ⟨[.ref l, .int x u], []⟩) (fun _ R s => s.heap.get? l = some { cls := .type "tuple", dict := dd, data := .seq items n, slots := sl } ∧
      R (.ok (.ret (Value.ref s.heap.objs.size))) { s with heap := s.heap.push { cls := Value.type "tuple", data := Data.seq #[] }, toks := s.toks }) :=
  .of_wp fun prog w A R s h => by
    obtain ⟨hp, g, d, tk, os⟩ := s
    obtain ⟨hl, h⟩ := h
    have f1 := AutoSeq1.idx_int
    wp_walk using wpAny_loadPart' hl
    repeat (first
      | (refine wpAny_ite_false (decide_eq_false (by rw [c0]; exact Bool.false_ne_true)) ?_; wp_walk using wpAny_loadPart' hl)
      | (refine wpAny_ite_false (decide_eq_false (by rw [c1]; exact Bool.false_ne_true)) ?_; wp_walk using wpAny_loadPart' hl)
      | (refine wpAny_ite_true (decide_eq_true (by rw [c2])) ?_; wp_walk using wpAny_loadPart' hl))
    exact ⟨_, rfl, h⟩
end
def rRepA (K : PySem.W.Frag) : R2 := fun x y H Q => ∃ l k xs, x = .ref l ∧ y = .int k ∧ SqT K H l xs ∧ xs ≠ [] ∧ -1000 ≤ k ∧ k ≤ 1000 ∧ xs.length ≤ 1000 ∧
  (k = 1 → Q (.ref l) H) ∧ (k ≠ 1 → ∀ p, H p = none → Q (.ref p) (upd H p (.tup (List.replicate k.toNat xs).flatten)))
section
variable {X : Cx}
theorem op_repA : OpR X (binaryOp .Mult) (rRepA X.K) := by
  intro pins s σ H x y v u Q I rx ry h
  obtain ⟨l, k, xs, rfl, rfl, hT, hne, h0, h1, hz, q1, q⟩ := h
  by_cases hk : 2 ≤ k
  · exact op_repT pins s σ H _ _ v u Q I rx ry ⟨l, k, xs, rfl, rfl, hT, hne, hk, h1, hz, q (by omega)⟩
  cases rx
  obtain ⟨t, rfl⟩ := ry
  obtain ⟨its, r, ⟨⟨cls, dd, data, sl⟩, ho, hc, n, hd⟩, hs⟩ := I.tuple hT
  simp only at hc hd
  subst hc hd
  have hle : its.length = xs.length := r.length.symm
  have hn : its ≠ [] := fun e => hne (by
    rw [e] at hle
    exact List.eq_nil_of_length_eq_zero hle.symm)
  have hi : its.toArray.isEmpty = false := by
    cases its with
    | nil => exact absurd rfl hn
    | cons a b => rfl
  have c0 : (decide (k < -(2 ^ 63)) || decide (k ≥ 2 ^ 63)) = false := by
    rw [decide_eq_false (by omega), decide_eq_false (by omega)] <;> rfl
  by_cases e : k = 1
  · have c1 : (its.toArray.isEmpty || k == 1) = true := by
      rw [hi, Bool.false_or, e]
      rfl
    refine wpAny_binaryOp_repeat_ref (T := "tuple") (U := "int") (by decide) ⟨_, ho, rfl⟩ (fun s' => typeIs_int s' k t) noFill_tuple_mul F.fills_int_mul F.slot_int_rmul repeat_tuple F.slot_int_index.lookup
      (call_meets F.slot_int_rmul (typeIs_int s k t) F.entry_int_rmul (F.args_int_rmul_2 _ _) (int_rmul_tuple k t l its.toArray n dd sl)
        ⟨ho, rfl, ⟨_, ho, rfl⟩, call_meets F.slot_tuple_mul ⟨_, ho, rfl⟩ F.entry_tuple_mul (F.args_tuple_mul_2 _ _) (mul_same l its.toArray n dd sl k t c0 c1) ⟨ho, ?_⟩⟩)
    exact ⟨.ref l, H, I, rfl, q1 e⟩
  · have c1 : (its.toArray.isEmpty || k == 1) = false := by
      rw [hi, Bool.false_or]
      exact beq_eq_false_iff_ne.mpr e
    have c2 : (decide (k ≤ 0) || its.toArray.isEmpty) = true := by
      rw [hi, Bool.or_false]
      exact decide_eq_true (by omega)
    refine wpAny_binaryOp_repeat_ref (T := "tuple") (U := "int") (by decide) ⟨_, ho, rfl⟩ (fun s' => typeIs_int s' k t) noFill_tuple_mul F.fills_int_mul F.slot_int_rmul repeat_tuple F.slot_int_index.lookup
      (call_meets F.slot_int_rmul (typeIs_int s k t) F.entry_int_rmul (F.args_int_rmul_2 _ _) (int_rmul_tuple k t l its.toArray n dd sl)
        ⟨ho, rfl, ⟨_, ho, rfl⟩, call_meets F.slot_tuple_mul ⟨_, ho, rfl⟩ F.entry_tuple_mul (F.args_tuple_mul_2 _ _) (mul_none l its.toArray n dd sl k t c0 c1 c2) ⟨ho, ?_⟩⟩)
    have hq := q e
    have ek : k.toNat = 0 := by omega
    rw [ek] at hq
    refine ⟨.ref s.heap.objs.size, _, I.laid (t' := s.toks) (o := .tup []) (fun b ob q => Heap.get?_push_of_some _ q) (Nat.le_refl _) ?_, rfl, hq _ (I.hok.fresh (Nat.le_refl _))⟩
    exact ⟨Nat.zero_le _, _, .nil, IsTup.new _ _⟩
end
theorem op_repAK {X : Cx} (K : PySem.W.Frag) (h : X.K = K := by rfl) : OpR X (binaryOp .Mult) (rRepA K) := by subst h; exact op_repA

/-! ### readings -/
def rDivmod : List V → Hp → VK → Prop := fun xs H Q => ∃ i j, xs = [.int i, .int j] ∧ CDivP i j ∧ ∀ p, H p = none → Q (.ref p) (upd H p (.tup [.int (i / j), .int (i % j)]))
theorem cr_divmod {X : Cx} : CallR X (.builtin "divmod") rDivmod := call_divmodW
def rListOf (K : PySem.W.Frag) : List V → Hp → VK → Prop := fun xs H Q => ∃ p ys, xs = [.ref p] ∧ (SqL K H p ys ∨ SqT K H p ys) ∧ ∀ l, H l = none → Q (.ref l) (upd H l (.lst ys))
theorem cr_listK {X : Cx} (K : PySem.W.Frag) (h : X.K = K := by rfl) : CallR X (.type "list") (rListOf K) := by subst h; exact call_list_of
theorem op_catAK {X : Cx} (K : PySem.W.Frag) (h : X.K = K := by rfl) : OpR X (binaryOp .Add) (rCatA K) := by subst h; exact op_catA
theorem op_repTK {X : Cx} (K : PySem.W.Frag) (h : X.K = K := by rfl) : OpR X (binaryOp .Mult) (rRepT K) := by subst h; exact op_repT
theorem flat_one {α : Type} (x : α) : ∀ n : Nat, (List.replicate n [x]).flatten = List.replicate n x
  | 0 => rfl
  | n + 1 => by
    show [x] ++ (List.replicate n [x]).flatten = _
    rw [flat_one x n]
    rfl
section
variable {K : PySem.W.Frag} {H : Hp} {Q : VK} {i j : Int} {p a b : Addr} {xs ys : List V} {x y v : V} {σ : L2.St} {te : TE}
theorem r_divmod (h0 : 0 < j) (h1 : j.natAbs < 2 ^ 8000) (q : ∀ p H', Nw p (.tup [.int (i / j), .int (i % j)]) H H' → Q (.ref p) H') : rDivmod [.int i, .int j] H Q :=
  ⟨i, j, rfl, ⟨h0, PyProof.noPylong_of_log2 (Nat.lt_of_lt_of_le (PySem.Flt.log2_lt_of (k := 8000) (by decide) h1) (by decide))⟩, fun p np => q p _ ⟨np, rfl⟩⟩
theorem r_listL (h : SqL K H p xs) (q : ∀ l H', Nw l (.lst xs) H H' → Q (.ref l) H') : rListOf K [.ref p] H Q := ⟨p, xs, rfl, .inl h, fun l nl => q l _ ⟨nl, rfl⟩⟩
theorem r_listT (h : SqT K H p xs) (q : ∀ l H', Nw l (.lst xs) H H' → Q (.ref l) H') : rListOf K [.ref p] H Q := ⟨p, xs, rfl, .inr h, fun l nl => q l _ ⟨nl, rfl⟩⟩
theorem r_revT (h : SqT K H a xs) (q : ∀ p H', Nw p (.tup xs.reverse) H H' → Q (.ref p) H') : rRevT K (.ref a) H Q := ⟨a, xs, rfl, h, fun p np => q p _ ⟨np, rfl⟩⟩
theorem r_tRevT (h : te σ H fun x H1 => rRevT K x H1 Q) : tRevT K te σ H Q := h
/-- [x] * k -/
theorem r_rep1 (h : H a = some (.lst [x])) (h1 : j ≤ 1000000) (h0 : -1000000 ≤ j) (q : ∀ p H', Nw p (.lst (List.replicate j.toNat x)) H H' → Q (.ref p) H') : rRep (.ref a) (.int j) H Q :=
  ⟨a, j, [x], rfl, rfl, h, Int.le_trans (by decide) h0, Int.lt_of_le_of_lt h1 (by decide), by
    rw [show [x].length = 1 from rfl, Nat.one_mul]
    exact Nat.le_trans (show j.toNat ≤ 1000000 by omega) (by decide), fun p np => by
    rw [flat_one]
    exact q p _ ⟨np, rfl⟩⟩
/-- (x,) * k -/
theorem r_repT1 (h : Tp K H a [x]) (h1 : 0 ≤ j) (h0 : j ≤ 1000) (q : ∀ p H', Same H H' → Tp K H' p (List.replicate j.toNat x) → Q (.ref p) H') : rRepA K (.ref a) (.int j) H Q :=
  ⟨a, j, [x], rfl, rfl, h.sq, List.cons_ne_nil _ _, by omega, h0, (show 1 ≤ 1000 by decide), fun e => by
    subst e
    exact q a H (Same.refl H) h, fun _ p np => by
    rw [flat_one]
    have n : Nw p (.tup (List.replicate j.toNat x)) H (upd H p (.tup (List.replicate j.toNat x))) := ⟨np, rfl⟩
    exact q p _ n.same (Tp.new n)⟩
/-- t + u -/
theorem r_catT (h : Tp K H a xs) (h' : Tp K H b ys) (l : xs.length + ys.length ≤ 1000000) (q : ∀ p H', Same H H' → Tp K H' p (xs ++ ys) → Q (.ref p) H') : rCatA K (.ref a) (.ref b) H Q :=
  ⟨a, b, xs, ys, rfl, rfl, h.sq, h'.sq, Nat.le_trans l (by decide), fun z => by
    subst z
    exact q b H (Same.refl H) h', fun _ z => by
    subst z
    rw [List.append_nil] at q
    exact q a H (Same.refl H) h, fun _ _ p np => by
    have n : Nw p (.tup (xs ++ ys)) H (upd H p (.tup (xs ++ ys))) := ⟨np, rfl⟩
    exact q p _ n.same (Tp.new n)⟩
/-- x == 0, x an int or a pair of ints -/
theorem r_eqD0 (q : Q (.bl (decide (i = j))) H) : rEqD K (.int i) (.int j) H Q := by
  refine ⟨_, _, .int i, .int j, rfl, rfl, ?_⟩
  rw [show PyData.eqv (.int i) (.int j) = decide (i = j) from ?_]
  · exact q
  · show (i == j) = decide (i = j)
    rw [Bool.beq_eq_decide_eq]
theorem r_eqDF {f : Int × Int} (h : Fr K H v f) (q : Q (.bl false) H) : rEqD K v (.int j) H Q := by
  obtain ⟨t, rfl, h⟩ := h
  exact ⟨_, _, .tup h.sq (dp_ints [f.1, f.2]), .int j, rfl, rfl, q⟩
theorem r_isi_ti (h : Tp K H p xs) (q : Q (.bl false) H) : rIsi K [.ref p, .ty "int"] H Q := r_isi (ty_tup h) (kit_ty (by decide +kernel)) q
theorem r_isi_tb (h : Tp K H p xs) (q : Q (.bl false) H) : rIsi K [.ref p, .ty "bool"] H Q := r_isi (ty_tup h) (kit_ty (by decide +kernel)) q
theorem r_isi_nb (q : Q (.bl false) H) : rIsi K [.non, .ty "bool"] H Q := r_isi ty_non (kit_ty (by decide +kernel)) q
theorem r_isi_nS (q : Q (.bl false) H) : rIsi K [.non, .ty "str"] H Q := r_isi ty_non (kit_ty (by decide +kernel)) q
theorem r_isi_is (q : Q (.bl false) H) : rIsi K [.int i, .ty "str"] H Q := r_isi ty_int (kit_ty (by decide +kernel)) q
end
theorem cut_to {xs : List V} {e : Int} (h : 0 ≤ e) (h' : e ≤ xs.length) : cutV xs none (some e) = xs.take e.toNat := by
  unfold cutV
  obtain ⟨n, rfl⟩ : ∃ n : Nat, e = (n : Int) := ⟨e.toNat, by omega⟩
  rw [HT.sIx_none, HT.sIx_nat]
  show (xs.drop 0).take (min n xs.length - 0) = xs.take n
  rw [List.drop_zero, Nat.sub_zero, Nat.min_eq_left (by omega)]
theorem cut_from {xs : List V} {e : Int} (h : 0 ≤ e) : cutV xs (some e) none = xs.drop e.toNat := by
  unfold cutV
  obtain ⟨n, rfl⟩ : ∃ n : Nat, e = (n : Int) := ⟨e.toNat, by omega⟩
  rw [HT.sIx_none, HT.sIx_nat, Int.toNat_natCast]
  by_cases hn : n ≤ xs.length
  · rw [Nat.min_eq_left hn, List.take_of_length_le (by rw [List.length_drop]; exact Nat.le_refl _)]
  · rw [Nat.min_eq_right (by omega), List.drop_of_length_le (by omega), List.drop_of_length_le (by omega), List.take_nil]

/-! ### enumerate, ranges downwards -/
def rForE (K : PySem.W.Frag) (g : TG) (tb : TS) (D : Ends) (σ : L2.St) (vs : List V) (H : Hp) : Prop := ∃ a xs, vs = [.ref a] ∧ SqL K H a xs ∧ rFor g tb D σ (Ite K a) H
def rForR3 (g : TG) (tb : TS) (D : Ends) (σ : L2.St) (vs : List V) (H : Hp) : Prop := ∃ (i j c : Int) (n : Nat), vs = [.int i, .int j, .int c] ∧ RgC i j c n ∧ rFor g tb D σ (Itc i c n) H
theorem pi_enumK {X : Cx} (K : PySem.W.Frag) {e : Expr} {ta : TA} {p pos tpos : Pos} {elts : List Expr} {kk : Nat} (hg : Gl X "enumerate") (hm : X.mg "enumerate" = none) (ha : PA X [e] ta) (hs : starEach [e] X.env = [(false, eval e X.env)] := by rfl) (h : X.K = K := by rfl) :
    PI X (.Tuple elts kk tpos) (.Call (.Name "enumerate" p) [e] [] pos) (iEnum K ta) := by subst h; exact pi_enum hg hm ha hs
section
variable {K : PySem.W.Frag} {g : TG} {tb : TS} {D : Ends} {σ : L2.St} {H : Hp} {ta : TA} {a : Addr} {xs : List V}
theorem r_break (h : D.bk σ H) : tBreak D σ H := h
theorem r_forE (h : ta σ H fun vs H1 => rForE K g tb D σ vs H1) : tFor (iEnum K ta) g tb D σ H := h
theorem r_forR3 (h : ta σ H fun vs H1 => rForR3 g tb D σ vs H1) : tFor (iRng3 ta) g tb D σ H := h
/-- for i, x in enumerate(xs): the list may change, but for what it says at the turn -/
theorem l_enum (hq : SqL K H a xs) (Pv : Nat → L2.St → Hp → Prop) (h0 : Pv 0 σ H) (hl : ∀ i σ' H', i ≤ xs.length → Pv i σ' H' → SqL K H' a xs)
    (hs : ∀ (i : Nat) x σ' H' t H2, xs[i]? = some x → Pv i σ' H' → Nw t (.tup [.int (i : Int), x]) H' H2 → g (.ref t) σ' H2 fun σ2 H3 => tb { D with nx := Pv (i + 1), ct := Pv (i + 1), bk := D.nx } σ2 H3) (hd : ∀ σ' H', Pv xs.length σ' H' → D.nx σ' H') : rForE K g tb D σ [.ref a] H := by
  refine ⟨a, xs, rfl, hq, fun i m σ' H' => m = xs.length - i ∧ i ≤ xs.length ∧ Pv i σ' H', ⟨xs.length, by simp, Nat.zero_le _, h0⟩, ?_⟩
  rintro i m σ' H' ⟨rfl, hi, p⟩
  have hq' := hl i σ' H' hi p
  by_cases hlt : i < xs.length
  · refine .inr ⟨⟨xs, xs[i], hq', List.getElem?_eq_getElem hlt⟩, Pv (i + 1), fun σ'' H'' p' => ⟨xs.length - (i + 1), by omega, rfl, hlt, p'⟩, fun x H2 y => ?_⟩
    obtain ⟨T, z, rfl, nT, eH, hz⟩ := y
    exact hs i z σ' H' T H2 (hz xs hq') p ⟨nT, eH⟩
  · have e : i = xs.length := by omega
    subst e
    exact .inl ⟨⟨xs, hq', Nat.le_refl _⟩, hd σ' H' p⟩
/-- for i in range(n - 1, -1, -1) -/
theorem l_down {j : Nat} {m : Int} (h0' : 0 ≤ m + 1) (hm : m < 1000000) (Pv : Nat → L2.St → Hp → Prop) (h0 : Pv (m + 1).toNat σ H)
    (hs : ∀ (i : Nat) σ' H', (i : Int) ≤ m → Pv (i + 1) σ' H' → tb { D with nx := Pv i, ct := Pv i, bk := D.nx } (σ'.set j (some (.int (i : Int)))) H') (hd : ∀ σ' H', Pv 0 σ' H' → D.nx σ' H') : rForR3 (gName j) tb D σ [.int m, .int (-1), .int (-1)] H := by
  refine ⟨m, -1, -1, (m - -1).toNat, rfl, RgC.neg (by omega) (Int.lt_trans hm (by decide)) (by decide) (by decide), for_rangeC (fun i => Pv ((m + 1).toNat - i)) (by simpa using h0) (fun i σ' H' hi p => ?_) (fun σ' H' p => ?_)⟩
  · have e1 : (m + 1).toNat - i = ((m + 1).toNat - (i + 1)) + 1 := by omega
    rw [e1] at p
    have e2 : m + ((i : Nat) : Int) * -1 = (((m + 1).toNat - (i + 1) : Nat) : Int) := by omega
    show tb _ (σ'.set j (some (.int (m + ((i : Nat) : Int) * -1)))) H'
    rw [e2]
    exact hs _ σ' H' (by omega) p
  · have e : (m + 1).toNat - (m - -1).toNat = 0 := by omega
    rw [e] at p
    exact hd σ' H' p
theorem l_range1n {j : Nat} {m : Int} (h1 : -1000000 ≤ m) (hm : m < 1000000) (Pv : Nat → L2.St → Hp → Prop) (h0 : Pv 0 σ H)
    (hs : ∀ (i : Nat) σ' H', (i : Int) < m → Pv i σ' H' → tb { D with nx := Pv (i + 1), ct := Pv (i + 1), bk := D.nx } (σ'.set j (some (.int (i : Int)))) H') (hd : ∀ σ' H', Pv m.toNat σ' H' → D.nx σ' H') : rForR1 (gName j) tb D σ [.int m] H :=
  ⟨m, rfl, Int.le_trans (by decide) h1, Int.lt_trans hm (by decide), for_range Pv h0 (fun i σ' H' l p => by
    show tb _ (σ'.set j (some (.int (0 + (i : Int))))) H'
    rw [Int.zero_add]
    exact hs i σ' H' (by omega) p) hd⟩
/-- a walk over a list or a tuple that stood in an earlier heap -/
theorem l_seq0 {H0 : Hp} {n j : Nat} (h : σ[n]? = some (some (.ref a))) (hq : Sq K H0 a xs) (Pv : Nat → L2.St → Hp → Prop) (h0 : Pv 0 σ H) (hl : ∀ i σ' H', Pv i σ' H' → Same H0 H')
    (hs : ∀ (i : Nat) x σ' H', xs[i]? = some x → Pv i σ' H' → tb { D with nx := Pv (i + 1), ct := Pv (i + 1), bk := D.nx } (σ'.set j (some x)) H') (hd : ∀ σ' H', Pv xs.length σ' H' → D.nx σ' H') : tFor (iSeqV K n) (gName j) tb D σ H := by
  have k0 := hl 0 σ H h0
  rcases hq with hq | hq
  · exact .inl ⟨_, h, a, rfl, ⟨xs, k0.seq hq⟩, for_list Pv h0 (fun i σ' H' l p => (hl i σ' H' p).seq hq) hs hd⟩
  · have kt : ∀ {H'}, Same H0 H' → SqT K H' a xs := fun {H'} k => by
      rcases hq with (hq | ⟨o, hq⟩) | hq
      · exact .inl (.inl (k _ _ hq))
      · exact .inl (.inr ⟨o, k _ _ hq⟩)
      · exact .inr hq
    exact .inr ⟨_, h, a, rfl, ⟨xs, kt k0⟩, for_tup Pv h0 (fun i σ' H' l p => kt (hl i σ' H' p)) hs hd⟩
end
end Al

set_option linter.all false
set_option maxHeartbeats 4000000
namespace Al
/-! ### fractions in lowest terms -/
def lo (a b : Int) : Int × Int := if b < 0 then (a.fdiv (-((Nat.gcd a.natAbs b.natAbs : Nat) : Int)), b.fdiv (-((Nat.gcd a.natAbs b.natAbs : Nat) : Int))) else (a.fdiv ((Nat.gcd a.natAbs b.natAbs : Nat) : Int), b.fdiv ((Nat.gcd a.natAbs b.natAbs : Nat) : Int))
theorem lo_neg {a b : Int} (h : b < 0) : lo a b = (a.fdiv (-((Nat.gcd a.natAbs b.natAbs : Nat) : Int)), b.fdiv (-((Nat.gcd a.natAbs b.natAbs : Nat) : Int))) := if_pos h
theorem lo_pos {a b : Int} (h : ¬ b < 0) : lo a b = (a.fdiv ((Nat.gcd a.natAbs b.natAbs : Nat) : Int), b.fdiv ((Nat.gcd a.natAbs b.natAbs : Nat) : Int)) := if_neg h
theorem gcd_pos' {a b : Int} (h : b ≠ 0) : 0 < Nat.gcd a.natAbs b.natAbs := Nat.gcd_pos_of_pos_right _ (by omega)
theorem gcd_le' {a b : Int} (h : b ≠ 0) : Nat.gcd a.natAbs b.natAbs ≤ b.natAbs := Nat.le_of_dvd (by omega) (Nat.gcd_dvd_right _ _)
theorem gcd_lt {a b : Int} {n : Nat} (h : b ≠ 0) (hb : b.natAbs < n) : Nat.gcd a.natAbs b.natAbs < n := Nat.lt_of_le_of_lt (gcd_le' h) hb
/-- by what both are multiplied -/
theorem lo_spec {a b : Int} (h : b ≠ 0) : ∃ s : Int, s ≠ 0 ∧ s.natAbs = Nat.gcd a.natAbs b.natAbs ∧ a = (lo a b).1 * s ∧ b = (lo a b).2 * s ∧ 0 < (lo a b).2 := by
  have hg := gcd_pos' (a := a) h
  have d1 : ((Nat.gcd a.natAbs b.natAbs : Nat) : Int) ∣ a := Int.ofNat_dvd_left.mpr (Nat.gcd_dvd_left _ _)
  have d2 : ((Nat.gcd a.natAbs b.natAbs : Nat) : Int) ∣ b := Int.ofNat_dvd_left.mpr (Nat.gcd_dvd_right _ _)
  generalize hgg : ((Nat.gcd a.natAbs b.natAbs : Nat) : Int) = g at d1 d2
  have g0 : 0 < g := by omega
  obtain ⟨x, rfl⟩ := d1
  obtain ⟨y, rfl⟩ := d2
  by_cases hb : g * y < 0
  · refine ⟨-g, by omega, by omega, ?_, ?_, ?_⟩
    · rw [lo_neg hb, hgg]
      show g * x = (g * x).fdiv (-g) * -g
      rw [show g * x = (-g) * (-x) by rw [Int.neg_mul_neg], Int.mul_fdiv_cancel_left _ (by omega), Int.mul_comm]
    · rw [lo_neg hb, hgg]
      show g * y = (g * y).fdiv (-g) * -g
      rw [show g * y = (-g) * (-y) by rw [Int.neg_mul_neg], Int.mul_fdiv_cancel_left _ (by omega), Int.mul_comm]
    · rw [lo_neg hb, hgg]
      show 0 < (g * y).fdiv (-g)
      rw [show g * y = (-g) * (-y) by rw [Int.neg_mul_neg], Int.mul_fdiv_cancel_left _ (by omega)]
      have : y < 0 := by
        refine Int.lt_of_not_ge fun z => ?_
        have := Int.mul_nonneg (Int.le_of_lt g0) z
        omega
      omega
  · refine ⟨g, by omega, by omega, ?_, ?_, ?_⟩
    · rw [lo_pos hb, hgg]
      show g * x = (g * x).fdiv g * g
      rw [Int.mul_fdiv_cancel_left _ (by omega), Int.mul_comm]
    · rw [lo_pos hb, hgg]
      show g * y = (g * y).fdiv g * g
      rw [Int.mul_fdiv_cancel_left _ (by omega), Int.mul_comm]
    · rw [lo_pos hb, hgg]
      show 0 < (g * y).fdiv g
      rw [Int.mul_fdiv_cancel_left _ (by omega)]
      have h1 : y ≠ 0 := fun z => h (by rw [z, Int.mul_zero])
      have h2 : ¬ y < 0 := fun z => hb (Int.mul_neg_of_pos_of_neg g0 z)
      omega
theorem lo_den {a b : Int} (h : b ≠ 0) : 0 < (lo a b).2 := by obtain ⟨_, _, _, _, _, h⟩ := lo_spec (a := a) h; exact h
theorem lo_eq {a b : Int} (h : b ≠ 0) : (lo a b).1 * b = a * (lo a b).2 := by
  obtain ⟨s, _, _, h1, h2, _⟩ := lo_spec (a := a) h
  generalize lo a b = q at h1 h2
  rw [h1, h2, Int.mul_comm q.2 s, ← Int.mul_assoc]
theorem lo_cop {a b : Int} (h : b ≠ 0) : Nat.gcd (lo a b).1.natAbs (lo a b).2.natAbs = 1 := by
  obtain ⟨s, s0, hs, h1, h2, _⟩ := lo_spec (a := a) h
  generalize lo a b = q at h1 h2
  rw [h1, h2, Int.natAbs_mul, Int.natAbs_mul, Nat.gcd_mul_right] at hs
  have : 0 < s.natAbs := by omega
  have e : 1 * s.natAbs = Nat.gcd q.1.natAbs q.2.natAbs * s.natAbs := by omega
  exact (Nat.eq_of_mul_eq_mul_right this e).symm
theorem lo_le1 {a b : Int} (h : b ≠ 0) : (lo a b).1.natAbs ≤ a.natAbs := by
  obtain ⟨s, s0, _, h1, _, _⟩ := lo_spec (a := a) h
  generalize lo a b = q at h1
  rw [h1, Int.natAbs_mul]
  exact Nat.le_mul_of_pos_right _ (by omega)
theorem lo_le2 {a b : Int} (h : b ≠ 0) : (lo a b).2.natAbs ≤ b.natAbs := by
  obtain ⟨s, s0, _, _, h1, _⟩ := lo_spec (a := a) h
  generalize lo a b = q at h1
  rw [h1, Int.natAbs_mul]
  exact Nat.le_mul_of_pos_right _ (by omega)
/-- lowest terms are one -/
theorem low_unique {p q : Int × Int} (hp : 0 < p.2) (hq : 0 < q.2) (cp : Nat.gcd p.1.natAbs p.2.natAbs = 1) (cq : Nat.gcd q.1.natAbs q.2.natAbs = 1) (h : p.1 * q.2 = q.1 * p.2) : p = q := by
  have e : p.1.natAbs * q.2.natAbs = q.1.natAbs * p.2.natAbs := by rw [← Int.natAbs_mul, ← Int.natAbs_mul, h]
  have d1 : p.2.natAbs ∣ q.2.natAbs := by
    have : p.2.natAbs ∣ p.1.natAbs * q.2.natAbs := ⟨q.1.natAbs, by rw [e, Nat.mul_comm]⟩
    exact Nat.Coprime.dvd_of_dvd_mul_left (Nat.Coprime.symm cp) this
  have d2 : q.2.natAbs ∣ p.2.natAbs := by
    have : q.2.natAbs ∣ q.1.natAbs * p.2.natAbs := ⟨p.1.natAbs, by rw [← e, Nat.mul_comm]⟩
    exact Nat.Coprime.dvd_of_dvd_mul_left (Nat.Coprime.symm cq) this
  have e2 : p.2.natAbs = q.2.natAbs := Nat.dvd_antisymm d1 d2
  have e3 : p.2 = q.2 := by omega
  have e4 : p.1 = q.1 := by
    rw [e3] at h
    exact Int.eq_of_mul_eq_mul_right (by omega) h
  exact Prod.ext e4 e3
theorem lo_congr {a b c d : Int} (hb : b ≠ 0) (hd : d ≠ 0) (h : a * d = c * b) : lo a b = lo c d := by
  refine low_unique (lo_den hb) (lo_den hd) (lo_cop hb) (lo_cop hd) ?_
  have e1 := lo_eq (a := a) hb
  have e2 := lo_eq (a := c) hd
  generalize lo a b = p at *
  generalize lo c d = q at *
  -- p1 b = a p2, q1 d = c q2, a d = c b
  have hbd : b * d ≠ 0 := Int.mul_ne_zero hb hd
  refine Int.eq_of_mul_eq_mul_right hbd ?_
  calc p.1 * q.2 * (b * d) = (p.1 * b) * (q.2 * d) := by ac_rfl
    _ = (a * p.2) * (q.2 * d) := by rw [e1]
    _ = (a * d) * (p.2 * q.2) := by ac_rfl
    _ = (c * b) * (p.2 * q.2) := by rw [h]
    _ = (c * q.2) * (p.2 * b) := by ac_rfl
    _ = (q.1 * d) * (p.2 * b) := by rw [e2]
    _ = q.1 * p.2 * (b * d) := by ac_rfl
theorem lo_self {p : Int × Int} (h : 0 < p.2) (c : Nat.gcd p.1.natAbs p.2.natAbs = 1) : lo p.1 p.2 = p := by
  have h0 : p.2 ≠ 0 := by omega
  exact low_unique (lo_den h0) h (lo_cop h0) c (lo_eq h0)
theorem lo_one (a : Int) : lo a 1 = (a, 1) := lo_self (p := (a, 1)) (by show (0 : Int) < 1; decide) (Nat.gcd_one_right _)
end Al

set_option linter.all false
set_option maxHeartbeats 4000000
set_option exponentiation.threshold 20000
namespace Al
/-! ### polynomials as lists of integers -/
def cf (l : List Int) (i : Nat) : Int := l.getD i 0
theorem cf_nil (i : Nat) : cf [] i = 0 := rfl
theorem cf_zero (a : Int) (l : List Int) : cf (a :: l) 0 = a := rfl
theorem cf_succ (a : Int) (l : List Int) (i : Nat) : cf (a :: l) (i + 1) = cf l i := rfl
theorem cf_ge {l : List Int} {i : Nat} (h : l.length ≤ i) : cf l i = 0 := by
  unfold cf
  rw [List.getD_eq_getElem?_getD, List.getElem?_eq_none h]
  rfl
theorem cf_get {l : List Int} {i : Nat} {x : Int} (h : l[i]? = some x) : cf l i = x := by
  unfold cf
  rw [List.getD_eq_getElem?_getD, h]
  rfl
theorem cf_lt {l : List Int} {i : Nat} (h : i < l.length) : l[i]? = some (cf l i) := by
  rw [List.getElem?_eq_getElem h, cf_get (List.getElem?_eq_getElem h)]
theorem cf_set {l : List Int} {i j : Nat} {x : Int} (h : i < l.length) : cf (l.set i x) j = if j = i then x else cf l j := by
  unfold cf
  rw [List.getD_eq_getElem?_getD, List.getD_eq_getElem?_getD, List.getElem?_set]
  by_cases e : i = j
  · subst e
    rw [if_pos rfl, if_pos h, if_pos rfl]
    rfl
  · rw [if_neg e, if_neg (Ne.symm e)]
theorem cf_ext {l m : List Int} (hl : l.length = m.length) (h : ∀ i, cf l i = cf m i) : l = m := by
  apply List.ext_getElem? 
  intro i
  by_cases hi : i < l.length
  · rw [cf_lt hi, cf_lt (by omega), h]
  · rw [List.getElem?_eq_none (by omega), List.getElem?_eq_none (by omega)]
theorem cf_map {l : List Int} {f : Int → Int} (h : f 0 = 0) (i : Nat) : cf (l.map f) i = f (cf l i) := by
  by_cases hi : i < l.length
  · rw [cf_get (by rw [List.getElem?_map, cf_lt hi]; rfl)]
  · rw [cf_ge (by rw [List.length_map]; omega), cf_ge (by omega), h]
theorem cf_replicate (n i : Nat) : cf (List.replicate n 0) i = 0 := by
  by_cases hi : i < n
  · exact cf_get (by rw [List.getElem?_replicate, if_pos hi])
  · exact cf_ge (by rw [List.length_replicate]; omega)
def sh (h : Nat → Int) : Nat → Int
  | 0 => 0
  | k + 1 => h k
/-- a list times a row -/
def pmul : List Int → (Nat → Int) → Nat → Int
  | [], _, _ => 0
  | a :: f, g, k => a * g k + sh (pmul f g) k
theorem sh_congr {f g : Nat → Int} (h : ∀ k, f k = g k) : ∀ k, sh f k = sh g k
  | 0 => rfl
  | k + 1 => h k
theorem sh_add (f g : Nat → Int) : ∀ k, sh (fun i => f i + g i) k = sh f k + sh g k
  | 0 => rfl
  | _ + 1 => rfl
theorem sh_mul (c : Int) (f : Nat → Int) : ∀ k, sh (fun i => c * f i) k = c * sh f k
  | 0 => by show 0 = c * 0; omega
  | _ + 1 => rfl
theorem pmul_congr {g h : Nat → Int} (e : ∀ k, g k = h k) : ∀ (f : List Int) (k : Nat), pmul f g k = pmul f h k
  | [], _ => rfl
  | a :: f, k => by
    show a * g k + sh (pmul f g) k = a * h k + sh (pmul f h) k
    rw [e, sh_congr (pmul_congr e f)]
theorem pmul_add (g h : Nat → Int) : ∀ (f : List Int) (k : Nat), pmul f (fun i => g i + h i) k = pmul f g k + pmul f h k
  | [], _ => rfl
  | a :: f, k => by
    show a * (g k + h k) + sh (pmul f fun i => g i + h i) k = (a * g k + sh (pmul f g) k) + (a * h k + sh (pmul f h) k)
    rw [sh_congr (pmul_add g h f), sh_add]
    grind
theorem pmul_scale (c : Int) (g : Nat → Int) : ∀ (f : List Int) (k : Nat), pmul f (fun i => c * g i) k = c * pmul f g k
  | [], _ => by show 0 = c * 0; omega
  | a :: f, k => by
    show a * (c * g k) + sh (pmul f fun i => c * g i) k = c * (a * g k + sh (pmul f g) k)
    rw [sh_congr (pmul_scale c g f), sh_mul]
    grind
theorem pmul_scaleL {c d : Int} (g : Nat → Int) : ∀ {f f' : List Int}, (∀ i, c * cf f i = d * cf f' i) → ∀ k, c * pmul f g k = d * pmul f' g k
  | [], [], _, k => by show c * 0 = d * 0; omega
  | [], b :: f', h, k => by
    have h0 := h 0
    have ih : ∀ k, c * pmul [] g k = d * pmul f' g k := pmul_scaleL g fun i => h (i + 1)
    show c * 0 = d * (b * g k + sh (pmul f' g) k)
    have h0' : c * 0 = d * b := h0
    have e : sh (fun i => d * pmul f' g i) k = sh (fun i => c * pmul [] g i) k := sh_congr (fun i => (ih i).symm) k
    rw [sh_mul, sh_mul] at e
    have z : sh (pmul [] g) k = 0 := by cases k <;> rfl
    rw [z] at e
    grind
  | a :: f, [], h, k => by
    have h0 := h 0
    have ih : ∀ k, c * pmul f g k = d * pmul [] g k := pmul_scaleL g fun i => h (i + 1)
    show c * (a * g k + sh (pmul f g) k) = d * 0
    have h0' : c * a = d * 0 := h0
    have e : sh (fun i => c * pmul f g i) k = sh (fun i => d * pmul [] g i) k := sh_congr (fun i => ih i) k
    rw [sh_mul, sh_mul] at e
    have z : sh (pmul [] g) k = 0 := by cases k <;> rfl
    rw [z] at e
    grind
  | a :: f, b :: f', h, k => by
    have h0 : c * a = d * b := h 0
    have ih : ∀ k, c * pmul f g k = d * pmul f' g k := pmul_scaleL g fun i => h (i + 1)
    show c * (a * g k + sh (pmul f g) k) = d * (b * g k + sh (pmul f' g) k)
    have e : sh (fun i => c * pmul f g i) k = sh (fun i => d * pmul f' g i) k := sh_congr (fun i => ih i) k
    rw [sh_mul, sh_mul] at e
    grind
/-- a + t h -/
def hd (a : Int) (h : Nat → Int) : Nat → Int
  | 0 => a
  | k + 1 => h k
theorem pmul_hd (a : Int) (h : Nat → Int) : ∀ (g : List Int) (k : Nat), pmul g (hd a h) k = a * cf g k + sh (pmul g h) k
  | [], k => by
    show 0 = a * 0 + sh (pmul [] h) k
    have : sh (pmul [] h) k = 0 := by cases k <;> rfl
    omega
  | b :: g, 0 => by
    show b * a + 0 = a * b + 0
    grind
  | b :: g, k + 1 => by
    show b * h k + pmul g (hd a h) k = a * cf g k + (b * h k + sh (pmul g h) k)
    rw [pmul_hd a h g k]
    grind
theorem cf_hd (a : Int) (f : List Int) : ∀ k, cf (a :: f) k = hd a (cf f) k
  | 0 => rfl
  | _ + 1 => rfl
theorem pmul_zero : ∀ (g : List Int) (k : Nat), pmul g (fun _ => 0) k = 0
  | [], _ => rfl
  | a :: g, k => by
    show a * 0 + sh (pmul g fun _ => 0) k = 0
    rw [sh_congr (pmul_zero g), Int.mul_zero]
    cases k <;> rfl
theorem pmul_comm : ∀ (f g : List Int) (k : Nat), pmul f (cf g) k = pmul g (cf f) k
  | [], g, k => by
    rw [pmul_congr (h := fun _ => 0) (fun i => cf_nil i) g k, pmul_zero]
    rfl
  | a :: f, g, k => by
    rw [pmul_congr (cf_hd a f) g, pmul_hd]
    show a * cf g k + sh (pmul f (cf g)) k = a * cf g k + sh (pmul g (cf f)) k
    rw [sh_congr (pmul_comm f g)]
theorem pmul_cf {f f' : List Int} (g : Nat → Int) (h : ∀ i, cf f i = cf f' i) (k : Nat) : pmul f g k = pmul f' g k := by
  have : 1 * pmul f g k = 1 * pmul f' g k := pmul_scaleL g (fun i => by rw [h]) k
  rw [Int.one_mul, Int.one_mul] at this
  exact this
/-! ### what divides low coefficients -/
theorem dvd_low {p : Int} {g : Nat → Int} {b : Nat} (hg : ∀ j, j < b → p ∣ g j) : ∀ (f : List Int) (k : Nat), k < b → p ∣ pmul f g k
  | [], _, _ => Int.dvd_zero p
  | a :: f, 0, h => by
    show p ∣ a * g 0 + 0
    rw [Int.add_zero]
    exact Int.dvd_mul_of_dvd_right (hg 0 h)
  | a :: f, k + 1, h => by
    show p ∣ a * g (k + 1) + pmul f g k
    exact Int.dvd_add (Int.dvd_mul_of_dvd_right (hg _ h)) (dvd_low hg f k (by omega))
theorem low {p : Int} {g : Nat → Int} {b : Nat} (hg : ∀ j, j < b → p ∣ g j) : ∀ (f : List Int) (a : Nat), (∀ i, i < a → p ∣ cf f i) → p ∣ pmul f g (a + b) - cf f a * g b
  | [], a, _ => by
    show p ∣ 0 - 0 * g b
    rw [Int.zero_mul]
    exact Int.dvd_zero p
  | c :: f, 0, _ => by
    rw [Nat.zero_add]
    show p ∣ c * g b + sh (pmul f g) b - c * g b
    rw [show c * g b + sh (pmul f g) b - c * g b = sh (pmul f g) b by omega]
    cases b with
    | zero => exact Int.dvd_zero p
    | succ b => exact dvd_low hg f b (by omega)
  | c :: f, a + 1, hf => by
    have ih := low hg f a fun i hi => hf (i + 1) (by omega)
    rw [show a + 1 + b = (a + b) + 1 by omega]
    show p ∣ c * g (a + b + 1) + pmul f g (a + b) - cf f a * g b
    rw [show c * g (a + b + 1) + pmul f g (a + b) - cf f a * g b = c * g (a + b + 1) + (pmul f g (a + b) - cf f a * g b) by omega]
    exact Int.dvd_add (Int.dvd_mul_of_dvd_left (hf 0 (by omega))) ih
/-- the first place of a kind -/
theorem first_of {P : Nat → Prop} [DecidablePred P] {n : Nat} (h : P n) : ∃ m, P m ∧ ∀ i, i < m → ¬ P i := by
  induction n using Nat.strongRecOn with
  | _ n ih =>
    by_cases e : ∃ i, i < n ∧ P i
    · obtain ⟨i, hi, hp⟩ := e
      exact ih i hi hp
    · exact ⟨n, h, fun i hi hp => e ⟨i, hi, hp⟩⟩
/-- a list that is not nought divides in one way -/
theorem pmul_cancel {f : List Int} {g h : Nat → Int} {i : Nat} (hf : cf f i ≠ 0) (e : ∀ k, pmul f g k = pmul f h k) (j : Nat) : g j = h j := by
  refine Classical.byContradiction fun hj => ?_
  have d0 : ∀ k, pmul f (fun i => g i + (-1) * h i) k = 0 := fun k => by
    rw [pmul_add, pmul_scale, e]
    omega
  generalize hd : (fun i => g i + (-1) * h i) = d at d0
  have dj : d j ≠ 0 := by
    rw [← hd]
    show g j + (-1) * h j ≠ 0
    omega
  obtain ⟨a, ha, la⟩ := first_of (P := fun i => cf f i ≠ 0) hf
  obtain ⟨b, hb, lb⟩ := first_of (P := fun i => d i ≠ 0) dj
  have := low (p := 0) (g := d) (b := b) (fun i hi => by
    have := lb i hi
    have : d i = 0 := Classical.byContradiction fun z => this z
    rw [this]
    exact Int.dvd_zero 0) f a (fun i hi => by
    have := la i hi
    have : cf f i = 0 := Classical.byContradiction fun z => this z
    rw [this]
    exact Int.dvd_zero 0)
  rw [d0] at this
  have h0 : (0 : Int) - cf f a * d b = 0 := Int.zero_dvd.mp this
  have : cf f a * d b ≠ 0 := Int.mul_ne_zero ha hb
  omega
/-! ### high coefficients -/
theorem high {g : Nat → Int} {J : Nat} (hg : ∀ j, J < j → g j = 0) : ∀ (f : List Int) (n : Nat), f.length = n + 1 → pmul f g (J + n) = cf f n * g J ∧ ∀ k, J + n < k → pmul f g k = 0
  | [], n, h => by cases h
  | [c], n, h => by
    have : n = 0 := by
      have : 1 = n + 1 := h
      omega
    subst this
    have z : ∀ k, sh (pmul [] g) k = 0 := fun k => by cases k <;> rfl
    refine ⟨?_, fun k hk => ?_⟩
    · show c * g (J + 0) + sh (pmul [] g) (J + 0) = c * g J
      rw [z]
      simp
    · show c * g k + sh (pmul [] g) k = 0
      rw [z, hg k (by omega), Int.mul_zero]
      rfl
  | c :: d :: f, n, h => by
    obtain ⟨m, rfl⟩ : ∃ m, n = m + 1 := ⟨f.length, by
      have : f.length + 2 = n + 1 := h
      omega⟩
    obtain ⟨h1, h2⟩ := high hg (d :: f) m (by
      have : (d :: f).length + 1 = m + 1 + 1 := h
      omega)
    refine ⟨?_, fun k hk => ?_⟩
    · show c * g (J + m + 1) + pmul (d :: f) g (J + m) = cf (d :: f) m * g J
      rw [hg _ (by omega), h1, Int.mul_zero, Int.zero_add]
    · obtain ⟨k', rfl⟩ : ∃ k', k = k' + 1 := ⟨k - 1, by omega⟩
      show c * g (k' + 1) + pmul (d :: f) g k' = 0
      rw [hg _ (by omega), h2 k' (by omega), Int.mul_zero]
      rfl
/-- a row that ends, times a list with a last coefficient: where the product ends -/
theorem ends {g : Nat → Int} {f : List Int} {n at' : Nat} (hn : f.length = n + 1) (hl : cf f n ≠ 0) (h : ∀ k, at' + n < k → pmul f g k = 0) : ∀ (N : Nat), (∀ j, N < j → g j = 0) → ∀ j, at' < j → g j = 0
  | 0, hN, j, hj => hN j (by omega)
  | N + 1, hN, j, hj => by
    by_cases hc : at' < N + 1
    · have h1 := (high hN f n hn).1
      rw [h _ (by omega)] at h1
      have g0 : g (N + 1) = 0 := by
        rcases Int.mul_eq_zero.mp h1.symm with z | z
        · exact absurd z hl
        · exact z
      exact ends hn hl h N (fun i hi => by
        by_cases e : i = N + 1
        · rw [e]; exact g0
        · exact hN i (by omega)) j hj
    · exact hN j (by omega)
end Al

set_option linter.all false
set_option maxHeartbeats 4000000
set_option exponentiation.threshold 20000
namespace Al
/-! ### primes, Gauss -/
theorem least_factor {m : Nat} (h : 1 < m) : ∃ p, 1 < p ∧ p ∣ m ∧ ∀ d, d ∣ p → d = 1 ∨ d = p := by
  obtain ⟨p, ⟨h1, h2⟩, h3⟩ := first_of (P := fun d => 1 < d ∧ d ∣ m) (n := m) ⟨h, Nat.dvd_refl m⟩
  refine ⟨p, h1, h2, fun d hd => ?_⟩
  have hle := Nat.le_of_dvd (by omega) hd
  have hpos : 0 < d := Nat.pos_of_dvd_of_pos hd (by omega)
  by_cases e : d = 1
  · exact .inl e
  · refine .inr (Classical.byContradiction fun z => h3 d (by omega) ⟨by omega, Nat.dvd_trans hd h2⟩)
theorem prime_dvd {p : Nat} (hp : 1 < p) (hd : ∀ d, d ∣ p → d = 1 ∨ d = p) {x y : Int} (h : (p : Int) ∣ x * y) : (p : Int) ∣ x ∨ (p : Int) ∣ y := by
  have h' : p ∣ x.natAbs * y.natAbs := by
    rw [← Int.natAbs_mul]
    exact Int.ofNat_dvd_left.mp h
  rcases hd _ (Nat.gcd_dvd_left p x.natAbs) with e | e
  · exact .inr (Int.ofNat_dvd_left.mpr (Nat.Coprime.dvd_of_dvd_mul_left e h'))
  · refine .inl (Int.ofNat_dvd_left.mpr ?_)
    rw [← e]
    exact Nat.gcd_dvd_right _ _
theorem gauss {f : List Int} (hc : ∀ d : Int, (∀ i, d ∣ cf f i) → d ∣ 1) : ∀ (m : Nat), 0 < m → ∀ g : Nat → Int, (∀ k, (m : Int) ∣ pmul f g k) → ∀ j, (m : Int) ∣ g j := by
  intro m
  induction m using Nat.strongRecOn with
  | _ m ih =>
    intro hm g hg j
    by_cases h1 : m = 1
    · subst h1
      exact Int.one_dvd _
    · obtain ⟨p, p1, ⟨m', hm'⟩, pd⟩ := least_factor (m := m) (by omega)
      have pall : ∀ j, (p : Int) ∣ g j := fun j => by
        refine Classical.byContradiction fun hj => ?_
        obtain ⟨b, hb, lb⟩ := first_of (P := fun j => ¬ (p : Int) ∣ g j) hj
        have hi : ∃ i, ¬ (p : Int) ∣ cf f i := Classical.byContradiction fun z => by
          have := hc p fun i => Classical.byContradiction fun y => z ⟨i, y⟩
          have := Int.le_of_dvd (by decide) this
          omega
        obtain ⟨i, hi⟩ := hi
        obtain ⟨a, ha, la⟩ := first_of (P := fun i => ¬ (p : Int) ∣ cf f i) hi
        have l := low (p := (p : Int)) (g := g) (b := b) (fun j hj => Classical.byContradiction fun z => lb j hj z) f a fun i hi => Classical.byContradiction fun z => la i hi z
        have d : (p : Int) ∣ pmul f g (a + b) := Int.dvd_trans ⟨(m' : Int), by rw [hm', Int.natCast_mul]⟩ (hg (a + b))
        have d2 : (p : Int) ∣ cf f a * g b := by
          have := Int.dvd_sub d l
          rw [show pmul f g (a + b) - (pmul f g (a + b) - cf f a * g b) = cf f a * g b by omega] at this
          exact this
        rcases prime_dvd p1 pd d2 with z | z
        · exact ha z
        · exact hb z
      have m0 : 0 < m' := Nat.pos_of_ne_zero fun z => by rw [z] at hm'; omega
      have lt : m' < m := by
        rw [hm']
        have := Nat.mul_lt_mul_of_pos_right p1 m0
        omega
      have e : ∀ j, g j = p * (g j / p) := fun j => (Int.mul_ediv_cancel' (pall j)).symm
      have := ih m' lt m0 (fun j => g j / p) (fun k => by
        have hk := hg k
        rw [pmul_congr e, pmul_scale, hm', Int.natCast_mul] at hk
        exact Int.dvd_of_mul_dvd_mul_left (by omega) hk) j
      rw [e j, hm', Int.natCast_mul]
      exact Int.mul_dvd_mul_left _ this
/-! ### rows of rationals -/
def qf (l : List Rat) (i : Nat) : Rat := l.getD i 0
theorem qf_ge {l : List Rat} {i : Nat} (h : l.length ≤ i) : qf l i = 0 := by
  unfold qf
  rw [List.getD_eq_getElem?_getD, List.getElem?_eq_none h]
  rfl
theorem qf_get {l : List Rat} {i : Nat} {x : Rat} (h : l[i]? = some x) : qf l i = x := by
  unfold qf
  rw [List.getD_eq_getElem?_getD, h]
  rfl
theorem qf_lt {l : List Rat} {i : Nat} (h : i < l.length) : l[i]? = some (qf l i) := by
  rw [List.getElem?_eq_getElem h, qf_get (List.getElem?_eq_getElem h)]
/-- where a row ends -/
def IsEnd (f : Nat → Rat) (e : Nat) : Prop := (∀ i, e ≤ i → f i = 0) ∧ (e = 0 ∨ f (e - 1) ≠ 0)
theorem IsEnd.one {f : Nat → Rat} {a b : Nat} (h : IsEnd f a) (h' : IsEnd f b) : a = b := by
  have go : ∀ {a b : Nat}, IsEnd f a → IsEnd f b → ¬ a < b := fun {a b} h h' l => by
    rcases h'.2 with e | e
    · omega
    · exact e (h.1 _ (by omega))
  have := go h h'
  have := go h' h
  omega
def cutLen : List Rat → Nat
  | [] => 0
  | x :: xs => if cutLen xs = 0 then (if x = 0 then 0 else 1) else cutLen xs + 1
theorem cutLen_le : ∀ l : List Rat, cutLen l ≤ l.length
  | [] => Nat.le_refl _
  | x :: xs => by
    have := cutLen_le xs
    show (if cutLen xs = 0 then (if x = 0 then 0 else 1) else cutLen xs + 1) ≤ xs.length + 1
    split
    · split <;> omega
    · omega
theorem cutLen_end : ∀ l : List Rat, IsEnd (qf l) (cutLen l)
  | [] => ⟨fun i _ => rfl, .inl rfl⟩
  | x :: xs => by
    obtain ⟨h1, h2⟩ := cutLen_end xs
    show IsEnd (qf (x :: xs)) (if cutLen xs = 0 then (if x = 0 then 0 else 1) else cutLen xs + 1)
    by_cases e : cutLen xs = 0
    · rw [if_pos e]
      rw [e] at h1
      by_cases ex : x = 0
      · rw [if_pos ex]
        refine ⟨fun i _ => ?_, .inl rfl⟩
        cases i with
        | zero => exact ex
        | succ i => exact h1 i (by omega)
      · rw [if_neg ex]
        refine ⟨fun i hi => ?_, .inr ex⟩
        cases i with
        | zero => omega
        | succ i => exact h1 i (by omega)
    · rw [if_neg e]
      refine ⟨fun i hi => ?_, .inr ?_⟩
      · cases i with
        | zero => omega
        | succ i => exact h1 i (by omega)
      · rcases h2 with h2 | h2
        · exact absurd h2 e
        · obtain ⟨n, hn⟩ : ∃ n, cutLen xs = n + 1 := ⟨cutLen xs - 1, by omega⟩
          rw [hn] at h2 ⊢
          exact h2
def cutR (l : List Rat) : List Rat := l.take (cutLen l)
theorem cut_is {l : List Rat} {e : Nat} (he : IsEnd (qf l) e) : l.take e = cutR l := by
  rw [he.one (cutLen_end l)]
  rfl
theorem cut_len (l : List Rat) : (cutR l).length = cutLen l := by
  unfold cutR
  rw [List.length_take]
  have := cutLen_le l
  omega
theorem qf_cut (l : List Rat) (i : Nat) : qf (cutR l) i = qf l i := by
  by_cases h : i < cutLen l
  · have h2 : i < l.length := by have := cutLen_le l; omega
    refine qf_get ?_
    unfold cutR
    rw [List.getElem?_take_of_lt h]
    exact qf_lt h2
  · rw [qf_ge (by rw [cut_len]; omega), (cutLen_end l).1 i (by omega)]
theorem cut_eq {l m : List Rat} (h : ∀ i, qf l i = qf m i) : cutR l = cutR m := by
  have e : cutLen l = cutLen m := by
    refine (cutLen_end l).one ?_
    have := cutLen_end m
    rw [show qf l = qf m from funext h]
    exact this
  apply List.ext_getElem?
  intro i
  by_cases hi : i < cutLen l
  · rw [qf_lt (by rw [cut_len]; exact hi), qf_lt (by rw [cut_len]; omega), qf_cut, qf_cut, h]
  · rw [List.getElem?_eq_none (by rw [cut_len]; omega), List.getElem?_eq_none (by rw [cut_len]; omega)]
theorem cut_cut (l : List Rat) : cutR (cutR l) = cutR l := cut_eq (qf_cut l)
theorem cut_self {l : List Rat} (h : l = [] ∨ qf l (l.length - 1) ≠ 0) : cutR l = l := by
  have e : IsEnd (qf l) l.length := ⟨fun i hi => qf_ge hi, by
    rcases h with h | h
    · rw [h]; exact .inl rfl
    · exact .inr h⟩
  rw [← cut_is e, List.take_length]
theorem cut_last {l : List Rat} (h : cutR l ≠ []) : qf (cutR l) ((cutR l).length - 1) ≠ 0 := by
  rw [qf_cut, cut_len]
  rcases (cutLen_end l).2 with e | e
  · exact absurd (List.length_eq_zero_iff.mp (by rw [cut_len, e])) h
  · exact e
/-- a line over one bottom -/
def Ln (ns : List Int) (b : Int) : List Rat := cutR (ns.map fun n => Rat.divInt n b)
theorem qf_div (ns : List Int) (b : Int) (i : Nat) : qf (ns.map fun n => Rat.divInt n b) i = Rat.divInt (cf ns i) b := by
  by_cases h : i < ns.length
  · exact qf_get (by rw [List.getElem?_map, cf_lt h]; rfl)
  · rw [qf_ge (by rw [List.length_map]; omega), cf_ge (by omega), Rat.zero_divInt]
theorem qf_Ln (ns : List Int) (b : Int) (i : Nat) : qf (Ln ns b) i = Rat.divInt (cf ns i) b := by
  unfold Ln
  rw [qf_cut, qf_div]
theorem Ln_eq {ns ms : List Int} {b c : Int} (hb : b ≠ 0) (hc : c ≠ 0) (h : ∀ i, cf ns i * c = cf ms i * b) : Ln ns b = Ln ms c :=
  cut_eq fun i => by rw [qf_div, qf_div, (Rat.divInt_eq_divInt_iff hb hc).mpr (h i)]
theorem Ln_inj {ns ms : List Int} {b c : Int} (hb : b ≠ 0) (hc : c ≠ 0) (h : Ln ns b = Ln ms c) (i : Nat) : cf ns i * c = cf ms i * b := by
  refine (Rat.divInt_eq_divInt_iff hb hc).mp ?_
  rw [← qf_Ln, ← qf_Ln, h]
theorem Ln_cut (ns : List Int) (b : Int) : cutR (Ln ns b) = Ln ns b := cut_cut _
theorem Ln_nil (b : Int) : Ln [] b = [] := rfl
theorem Ln_len (ns : List Int) (b : Int) : (Ln ns b).length ≤ ns.length := by
  unfold Ln
  rw [cut_len]
  have := cutLen_le (ns.map fun n => Rat.divInt n b)
  rw [List.length_map] at this
  exact this
theorem div_zero_iff {a b : Int} (hb : b ≠ 0) : Rat.divInt a b = 0 ↔ a = 0 := by
  rw [← Rat.zero_divInt b, Rat.divInt_eq_divInt_iff hb hb, Int.zero_mul, Int.mul_eq_zero]
  exact ⟨fun h => h.resolve_right hb, .inl⟩
theorem Ln_empty {ns : List Int} {b : Int} (hb : b ≠ 0) : Ln ns b = [] ↔ ∀ i, cf ns i = 0 := by
  constructor
  · intro h i
    have := qf_Ln ns b i
    rw [h] at this
    exact (div_zero_iff hb).mp this.symm
  · intro h
    rw [Ln_eq (ms := []) hb hb (fun i => by rw [h, cf_nil])]
    rfl
/-- lowest terms -/
theorem lo_rat {a b : Int} (h : b ≠ 0) : lo a b = ((Rat.divInt a b).num, ((Rat.divInt a b).den : Int)) := by
  have e : Rat.divInt a b = Rat.divInt (Rat.divInt a b).num ((Rat.divInt a b).den : Int) := (Rat.num_divInt_den _).symm
  have d0 : ((Rat.divInt a b).den : Int) ≠ 0 := by have := (Rat.divInt a b).den_nz; omega
  have e2 := (Rat.divInt_eq_divInt_iff h d0).mp e
  refine low_unique (lo_den h) (by show (0 : Int) < ((Rat.divInt a b).den : Int); have := (Rat.divInt a b).den_nz; omega) (lo_cop h) (by
    show Nat.gcd (Rat.divInt a b).num.natAbs (((Rat.divInt a b).den : Int)).natAbs = 1
    rw [Int.natAbs_natCast]
    exact (Rat.divInt a b).reduced) ?_
  have l := lo_eq (a := a) h
  have ld := lo_den (a := a) h
  generalize lo a b = p at *
  show p.1 * ((Rat.divInt a b).den : Int) = (Rat.divInt a b).num * p.2
  generalize ((Rat.divInt a b).den : Int) = d at *
  generalize (Rat.divInt a b).num = n at *
  refine Int.eq_of_mul_eq_mul_right h ?_
  calc p.1 * d * b = (p.1 * b) * d := by ac_rfl
    _ = (a * p.2) * d := by rw [l]
    _ = (a * d) * p.2 := by ac_rfl
    _ = (n * b) * p.2 := by rw [e2]
    _ = n * p.2 * b := by ac_rfl
theorem den_dvd {a b : Int} (h : b ≠ 0) : ((Rat.divInt a b).den : Int) ∣ b := by
  have e := lo_rat (a := a) h
  obtain ⟨s, _, _, _, h2, _⟩ := lo_spec (a := a) h
  rw [e] at h2
  exact ⟨s, h2⟩
end Al

set_option Elab.async false
set_option linter.all false
set_option maxRecDepth 100000
set_option maxHeartbeats 4000000
set_option exponentiation.threshold 20000
namespace Al
open PySem PySem.Spec PyProof.Rows L2
/-! ### a coefficient, a line -/
def Cq (K : PySem.W.Frag) (H : Hp) (v : V) (q : Rat) : Prop := (q.den = 1 ∧ v = .int q.num) ∨ (q.den ≠ 1 ∧ Fr K H v (q.num, (q.den : Int)))
def CL (K : PySem.W.Frag) (H : Hp) (vs : List V) (qs : List Rat) : Prop := vs.length = qs.length ∧ ∀ (i : Nat) v, vs[i]? = some v → ∃ q, qs[i]? = some q ∧ Cq K H v q
def LnV (K : PySem.W.Frag) (H : Hp) (v : V) (qs : List Rat) : Prop := ∃ t vs, v = .ref t ∧ Tp K H t vs ∧ CL K H vs qs
def El (K : PySem.W.Frag) (H : Hp) (x : V) : Prop := (∃ i, x = .int i) ∨ ∃ f, Fr K H x f
def IsCut (xs : List V) (e : Nat) : Prop := e ≤ xs.length ∧ (∀ (i : Nat) x, e ≤ i → xs[i]? = some x → x = .int 0) ∧ (e = 0 ∨ ∃ x, xs[e - 1]? = some x ∧ x ≠ .int 0)
section
variable {K : PySem.W.Frag} {H H' : Hp} {v w x : V} {q r : Rat} {qs rs : List Rat} {vs ws xs : List V}
theorem Cq.keep (h : Cq K H v q) (k : TK H H') : Cq K H' v q := by
  rcases h with ⟨d, h⟩ | ⟨d, h⟩
  · exact .inl ⟨d, h⟩
  · exact .inr ⟨d, h.keep k⟩
theorem Cq.from (k : TK H H') (h : Cq K H v q) : Cq K H' v q := h.keep k
theorem Cq.sm {n : Nat} (h : Cq K H v q) (h' : Cq K H w q) : Sm K H (n + 1) v w := by
  rcases h with ⟨d, h⟩ | ⟨d, h⟩
  · rcases h' with ⟨_, h'⟩ | ⟨d', _⟩
    · rw [h, h']; exact Sm.int rfl
    · exact absurd d d'
  · rcases h' with ⟨d', _⟩ | ⟨_, h'⟩
    · exact absurd d' d
    · exact h.sm h' rfl
theorem Cq.el (h : Cq K H v q) : El K H v := by
  rcases h with ⟨_, h⟩ | ⟨_, h⟩
  · exact .inl ⟨_, h⟩
  · exact .inr ⟨_, h⟩
theorem Cq.zero (h : Cq K H v q) : v = .int 0 ↔ q = 0 := by
  rcases h with ⟨d, rfl⟩ | ⟨d, t, rfl, _⟩
  · constructor
    · intro e
      injection e with e
      exact Rat.num_eq_zero.mp e
    · intro e
      rw [e]
      rfl
  · constructor
    · intro e
      cases e
    · intro e
      exact absurd (by rw [e]; rfl) d
theorem Cq.int (i : Int) : Cq K H (.int i) (Rat.divInt i 1) := by
  have : Rat.divInt i 1 = (i : Rat) := Rat.num_divInt_den (i : Rat)
  rw [this]
  exact .inl ⟨rfl, rfl⟩
theorem CL.keep (h : CL K H vs qs) (k : TK H H') : CL K H' vs qs := ⟨h.1, fun i v e => by
  obtain ⟨q, e1, e2⟩ := h.2 i v e
  exact ⟨q, e1, e2.keep k⟩⟩
theorem CL.nil : CL K H [] [] := ⟨rfl, fun i v e => by cases e⟩
theorem CL.snoc (h : CL K H vs qs) (h' : Cq K H v q) : CL K H (vs ++ [v]) (qs ++ [q]) := by
  refine ⟨by rw [List.length_append, List.length_append, h.1]; rfl, fun i w e => ?_⟩
  by_cases hi : i < vs.length
  · rw [List.getElem?_append_left hi] at e
    rw [List.getElem?_append_left (by rw [← h.1]; exact hi)]
    exact h.2 i w e
  · rw [List.getElem?_append_right (by omega)] at e
    rw [List.getElem?_append_right (by rw [← h.1]; omega), ← h.1]
    have hi0 : i - vs.length = 0 := by
      have := (List.getElem?_eq_some_iff.mp e).1
      rw [List.length_singleton] at this
      omega
    rw [hi0] at e ⊢
    cases e
    exact ⟨q, rfl, h'⟩
theorem CL.take (h : CL K H vs qs) (n : Nat) : CL K H (vs.take n) (qs.take n) := by
  refine ⟨by rw [List.length_take, List.length_take, h.1], fun i v e => ?_⟩
  rw [List.getElem?_take] at e ⊢
  split at e
  · rename_i hi
    rw [if_pos hi]
    exact h.2 i v e
  · cases e
theorem CL.el (h : CL K H vs qs) : ∀ x ∈ vs, El K H x := fun x hx => by
  obtain ⟨i, _, e⟩ := List.mem_iff_getElem?.mp hx |>.elim fun i e => (⟨i, trivial, e⟩ : ∃ i, True ∧ vs[i]? = some x)
  obtain ⟨q, _, c⟩ := h.2 i x e
  exact c.el
theorem CL.cut {e : Nat} (h : CL K H vs qs) (c : IsCut vs e) : CL K H (vs.take e) (cutR qs) := by
  obtain ⟨c1, c2, c3⟩ := c
  have he : IsEnd (qf qs) e := by
    refine ⟨fun i hi => ?_, ?_⟩
    · by_cases hl : i < vs.length
      · obtain ⟨q, e1, e2⟩ := h.2 i _ (List.getElem?_eq_getElem hl)
        rw [qf_get e1]
        exact e2.zero.mp (c2 i _ hi (List.getElem?_eq_getElem hl))
      · exact qf_ge (by rw [← h.1]; omega)
    · rcases c3 with c3 | ⟨x, e1, e2⟩
      · exact .inl c3
      · obtain ⟨q, e3, e4⟩ := h.2 _ _ e1
        refine .inr ?_
        rw [qf_get e3]
        exact fun z => e2 (e4.zero.mpr z)
  rw [← cut_is he]
  exact h.take e
theorem LnV.keep (h : LnV K H v qs) (k : TK H H') : LnV K H' v qs := by
  obtain ⟨t, vs, e, h1, h2⟩ := h
  exact ⟨t, vs, e, h1.keep k, h2.keep k⟩
theorem LnV.from (k : TK H H') (h : LnV K H v qs) : LnV K H' v qs := h.keep k
theorem LnV.sm {n : Nat} (h : LnV K H v qs) (h' : LnV K H w rs) (e : qs = rs) (l : qs.length ≤ 100000) : Sm K H (n + 2) v w := by
  subst e
  obtain ⟨t, vs, rfl, a1, a2⟩ := h
  obtain ⟨u, ws, rfl, b1, b2⟩ := h'
  refine .inr ⟨t, u, vs, ws, rfl, rfl, a1, b1, a2.1.trans b2.1.symm, by rw [a2.1]; exact l, fun i x y e1 e2 => ?_⟩
  obtain ⟨q, f1, f2⟩ := a2.2 i x e1
  obtain ⟨r, g1, g2⟩ := b2.2 i y e2
  cases f1.symm.trans g1
  exact f2.sm g2
theorem LnV.nil {t : Addr} (h : Tp K H t []) : LnV K H (.ref t) [] := ⟨t, [], rfl, h, CL.nil⟩
/-- whole numbers as they are -/
theorem CL.ints (ns : List Int) : CL K H (ns.map V.int) (ns.map fun n => Rat.divInt n 1) := by
  refine ⟨by rw [List.length_map, List.length_map], fun i v e => ?_⟩
  rw [List.getElem?_map] at e ⊢
  cases h : ns[i]? with
  | none => rw [h] at e; cases e
  | some n =>
    rw [h] at e
    cases e
    exact ⟨_, rfl, Cq.int n⟩
end
/-! ### whole lines, cut -/
theorem cut_ints {ns : List Int} {e : Nat} (c : IsCut (ns.map V.int) e) : (∀ i, cf (ns.take e) i = cf ns i) ∧ (e = 0 ∨ cf ns (e - 1) ≠ 0) ∧ e ≤ ns.length := by
  obtain ⟨c1, c2, c3⟩ := c
  rw [List.length_map] at c1
  refine ⟨fun i => ?_, ?_, c1⟩
  · by_cases h : i < e
    · refine cf_get ?_
      rw [List.getElem?_take_of_lt h]
      exact cf_lt (by omega)
    · rw [cf_ge (by rw [List.length_take]; omega)]
      by_cases hl : i < ns.length
      · have := c2 i (.int (cf ns i)) (by omega) (by rw [List.getElem?_map, cf_lt hl]; rfl)
        injection this with this
        exact this.symm
      · rw [cf_ge (by omega)]
  · rcases c3 with c3 | ⟨x, e1, e2⟩
    · exact .inl c3
    · refine .inr fun z => e2 ?_
      rw [List.getElem?_map] at e1
      cases h : ns[e - 1]? with
      | none => rw [h] at e1; cases e1
      | some n =>
        rw [h] at e1
        cases e1
        rw [cf_get h] at z
        rw [z]
theorem el_ints {K : PySem.W.Frag} {H : Hp} {ns : List Int} : ∀ x ∈ ns.map V.int, El K H x := fun x h => by
  obtain ⟨n, _, rfl⟩ := List.mem_map.mp h
  exact .inl ⟨n, rfl⟩
end Al

set_option Elab.async false
set_option linter.all false
set_option maxRecDepth 100000
set_option maxHeartbeats 4000000
set_option exponentiation.threshold 20000
namespace Al
open PySem PySem.Spec PyProof.Rows L2
/-! ### what line_of takes -/
def Cr (K : PySem.W.Frag) (H : Hp) (x : V) (q : Rat) : Prop := (∃ i, x = .int i ∧ q = Rat.divInt i 1) ∨ ∃ a b : Int, Fr K H x (a, b) ∧ b ≠ 0 ∧ b.natAbs < 2 ^ 8000 ∧ q = Rat.divInt a b
def CR (K : PySem.W.Frag) (H : Hp) (vs : List V) (qs : List Rat) : Prop := vs.length = qs.length ∧ ∀ (i : Nat) v, vs[i]? = some v → ∃ q, qs[i]? = some q ∧ Cr K H v q
section
variable {K : PySem.W.Frag} {H H' : Hp} {v w x : V} {q r : Rat} {qs rs : List Rat} {vs ws xs : List V}
theorem Cr.keep (h : Cr K H v q) (k : TK H H') : Cr K H' v q := by
  rcases h with h | ⟨a, b, h1, h2⟩
  · exact .inl h
  · exact .inr ⟨a, b, h1.keep k, h2⟩
theorem CR.keep (h : CR K H vs qs) (k : TK H H') : CR K H' vs qs := ⟨h.1, fun i v e => by
  obtain ⟨q, e1, e2⟩ := h.2 i v e
  exact ⟨q, e1, e2.keep k⟩⟩
theorem Cq.cr (h : Cq K H v q) (b : q.den < 2 ^ 8000) : Cr K H v q := by
  rcases h with ⟨d, h⟩ | ⟨d, h⟩
  · refine .inl ⟨_, h, ?_⟩
    have := Rat.num_divInt_den q
    rw [d] at this
    exact this.symm
  · refine .inr ⟨_, _, h, ?_, ?_, (Rat.num_divInt_den q).symm⟩
    · have := q.den_nz
      omega
    · rw [Int.natAbs_natCast]; exact b
theorem CL.cr (h : CL K H vs qs) (b : ∀ q ∈ qs, q.den < 2 ^ 8000) : CR K H vs qs := ⟨h.1, fun i v e => by
  obtain ⟨q, e1, e2⟩ := h.2 i v e
  exact ⟨q, e1, e2.cr (b q (List.mem_of_getElem? e1))⟩⟩
end
theorem den_lt {a b : Int} {n : Nat} (h : b ≠ 0) (hb : b.natAbs < n) : (Rat.divInt a b).den < n := by
  have := Int.natAbs_dvd_natAbs.mpr (den_dvd (a := a) h)
  rw [Int.natAbs_natCast] at this
  exact Nat.lt_of_le_of_lt (Nat.le_of_dvd (by omega) this) hb
theorem num_le {a b : Int} (h : b ≠ 0) : (Rat.divInt a b).num.natAbs ≤ a.natAbs := by
  have := lo_le1 (a := a) h
  rw [lo_rat h] at this
  exact this
/-! ### whole lines of lines -/
def WholeOf (qs : List Rat) (ns : List Int) (b : Int) (ws : List Int) (L : Int) : Prop := ws.length = qs.length ∧ 0 < L ∧ L ≤ b ∧ (∀ i, cf ws i * b = cf ns i * L) ∧ ∀ i, qf qs i = Rat.divInt (cf ws i) L
theorem WholeOf.size {qs : List Rat} {ns ws : List Int} {b L : Int} (h : WholeOf qs ns b ws L) (i : Nat) : (cf ws i).natAbs ≤ (cf ns i).natAbs := by
  obtain ⟨_, h0, h1, h2, _⟩ := h
  have e := congrArg Int.natAbs (h2 i)
  rw [Int.natAbs_mul, Int.natAbs_mul] at e
  have hl : L.natAbs ≤ b.natAbs := by omega
  have hb : 0 < b.natAbs := by omega
  have := Nat.mul_le_mul_left (cf ns i).natAbs hl
  rw [← e] at this
  exact Nat.le_of_mul_le_mul_right this hb
theorem WholeOf.zero {qs : List Rat} {ns ws : List Int} {b L : Int} (h : WholeOf qs ns b ws L) (i : Nat) : cf ws i = 0 ↔ qf qs i = 0 := by
  rw [h.2.2.2.2 i]
  exact (div_zero_iff (by have := h.2.1; omega)).symm
/-- one step of the least bottom -/
theorem lcm_step {L d b : Int} (hL : 0 < L) (hd : 0 < d) (h1 : L ∣ b) (h2 : d ∣ b) : 0 < (L * d).fdiv ((Nat.gcd L.natAbs d.natAbs : Nat) : Int) ∧ (L * d).fdiv ((Nat.gcd L.natAbs d.natAbs : Nat) : Int) ∣ b ∧ L ∣ (L * d).fdiv ((Nat.gcd L.natAbs d.natAbs : Nat) : Int) ∧ d ∣ (L * d).fdiv ((Nat.gcd L.natAbs d.natAbs : Nat) : Int) := by
  obtain ⟨l, rfl⟩ : ∃ l : Nat, L = (l : Int) := ⟨L.toNat, by omega⟩
  obtain ⟨m, rfl⟩ : ∃ m : Nat, d = (m : Int) := ⟨d.toNat, by omega⟩
  rw [Int.natAbs_natCast, Int.natAbs_natCast]
  have hg : 0 < Nat.gcd l m := Nat.gcd_pos_of_pos_left _ (by omega)
  have e : ((l : Int) * (m : Int)).fdiv ((Nat.gcd l m : Nat) : Int) = ((Nat.lcm l m : Nat) : Int) := by
    rw [Int.fdiv_eq_ediv_of_nonneg _ (by omega)]
    show ((l : Int) * (m : Int)) / ((Nat.gcd l m : Nat) : Int) = ((l * m / Nat.gcd l m : Nat) : Int)
    rw [Int.natCast_ediv, Int.natCast_mul]
  rw [e]
  refine ⟨?_, ?_, ?_, ?_⟩
  · have := Nat.lcm_pos (m := l) (n := m) (by omega) (by omega)
    omega
  · have h1' : l ∣ b.natAbs := Int.ofNat_dvd_left.mp h1
    have h2' : m ∣ b.natAbs := Int.ofNat_dvd_left.mp h2
    exact Int.ofNat_dvd_left.mpr (Nat.lcm_dvd h1' h2')
  · exact Int.natCast_dvd_natCast.mpr (Nat.dvd_lcm_left l m)
  · exact Int.natCast_dvd_natCast.mpr (Nat.dvd_lcm_right l m)
theorem whole_item {n b L : Int} (hb : 0 < b) (hL : 0 < L) (hd : ((Rat.divInt n b).den : Int) ∣ L) : (Rat.divInt n b).num * (L.fdiv ((Rat.divInt n b).den : Int)) * b = n * L ∧ Rat.divInt n b = Rat.divInt ((Rat.divInt n b).num * (L.fdiv ((Rat.divInt n b).den : Int))) L := by
  have d0 : ((Rat.divInt n b).den : Int) ≠ 0 := by have := (Rat.divInt n b).den_nz; omega
  have e1 := (Rat.divInt_eq_divInt_iff d0 (by omega : b ≠ 0)).mp (Rat.num_divInt_den (Rat.divInt n b))
  have e2 : L.fdiv ((Rat.divInt n b).den : Int) * ((Rat.divInt n b).den : Int) = L := by
    rw [Int.fdiv_eq_ediv_of_nonneg _ (by omega)]
    exact Int.ediv_mul_cancel hd
  generalize hx : L.fdiv ((Rat.divInt n b).den : Int) = x at *
  have key : (Rat.divInt n b).num * x * b = n * L := by
    generalize (Rat.divInt n b).num = u at *
    generalize ((Rat.divInt n b).den : Int) = d at *
    calc u * x * b = (u * b) * x := by ac_rfl
      _ = (n * d) * x := by rw [e1]
      _ = n * (x * d) := by ac_rfl
      _ = n * L := by rw [e2]
  exact ⟨key, (Rat.divInt_eq_divInt_iff (by omega : b ≠ 0) (by omega : L ≠ 0)).mpr key.symm⟩
end Al

set_option linter.all false
set_option maxHeartbeats 4000000
set_option exponentiation.threshold 20000
namespace Al
/-! ### products, one item more -/
/-- a row, behind n places -/
def beh (n : Nat) (g : Nat → Int) (k : Nat) : Int := if n ≤ k then g (k - n) else 0
theorem beh_zero (g : Nat → Int) (k : Nat) : beh 0 g k = g k := by
  unfold beh
  rw [if_pos (Nat.zero_le _), Nat.sub_zero]
theorem beh_succ (n : Nat) (g : Nat → Int) : ∀ k, beh (n + 1) g k = sh (beh n g) k
  | 0 => if_neg (by omega)
  | k + 1 => by
    show (if n + 1 ≤ k + 1 then g (k + 1 - (n + 1)) else 0) = if n ≤ k then g (k - n) else 0
    by_cases h : n ≤ k
    · rw [if_pos (by omega), if_pos h, show k + 1 - (n + 1) = k - n by omega]
    · rw [if_neg (by omega), if_neg h]
theorem pmul_snoc (a : Int) (g : Nat → Int) : ∀ (f : List Int) (k : Nat), pmul (f ++ [a]) g k = pmul f g k + a * beh f.length g k
  | [], k => by
    show a * g k + sh (pmul [] g) k = 0 + a * beh 0 g k
    have z : sh (pmul [] g) k = 0 := by cases k <;> rfl
    rw [z, beh_zero]
    omega
  | b :: f, k => by
    show b * g k + sh (pmul (f ++ [a]) g) k = (b * g k + sh (pmul f g) k) + a * beh (f.length + 1) g k
    rw [beh_succ, sh_congr (fun i => pmul_snoc a g f i), sh_add, sh_mul]
    omega
/-- a row of one number -/
def one' (n : Nat) (a : Int) (k : Nat) : Int := if k = n then a else 0
theorem cf_one (a : Int) : ∀ (n k : Nat), cf (List.replicate n 0 ++ [a]) k = one' n a k := fun n k => by
  unfold one'
  by_cases h : k < n
  · rw [if_neg (by omega)]
    refine cf_get ?_
    rw [List.getElem?_append_left (by rw [List.length_replicate]; exact h), List.getElem?_replicate, if_pos h]
  · by_cases e : k = n
    · rw [if_pos e]
      refine cf_get ?_
      rw [List.getElem?_append_right (by rw [List.length_replicate]; omega), List.length_replicate, e, Nat.sub_self]
      rfl
    · rw [if_neg e]
      exact cf_ge (by rw [List.length_append, List.length_replicate, List.length_singleton]; omega)
theorem pmul_rep (g : Nat → Int) : ∀ (n k : Nat), pmul (List.replicate n 0) g k = 0
  | 0, _ => rfl
  | n + 1, k => by
    show 0 * g k + sh (pmul (List.replicate n 0) g) k = 0
    rw [sh_congr (pmul_rep g n), Int.zero_mul]
    cases k <;> rfl
theorem pmul_one (s : List Int) (n : Nat) (a : Int) (k : Nat) : pmul s (one' n a) k = a * beh n (cf s) k := by
  rw [← pmul_congr (fun i => cf_one a n i) s k, pmul_comm, pmul_snoc, pmul_rep, List.length_replicate]
  omega
theorem pmul_set {s zs : List Int} {n : Nat} {a : Int} (h : n < zs.length) (h0 : cf zs n = 0) (k : Nat) : pmul s (cf (zs.set n a)) k = pmul s (cf zs) k + a * beh n (cf s) k := by
  rw [← pmul_one, ← pmul_add]
  refine pmul_congr (fun i => ?_) s k
  rw [cf_set h]
  unfold one'
  by_cases e : i = n
  · rw [if_pos e, if_pos e, e, h0]
    omega
  · rw [if_neg e, if_neg e]
    omega
theorem pmul_ge (f : List Int) {g : Nat → Int} {N : Nat} (hg : ∀ j, N ≤ j → g j = 0) : ∀ k, f.length + N ≤ k + 1 → pmul f g k = 0 := by
  intro k hk
  cases f with
  | nil => rfl
  | cons a f =>
    cases N with
    | zero =>
      rw [pmul_congr (h := fun _ => 0) (fun j => hg j (Nat.zero_le _)), pmul_zero]
    | succ N => exact (high (J := N) (fun j hj => hg j hj) (a :: f) f.length rfl).2 k (by rw [List.length_cons] at hk; omega)
/-- no row goes -/
def NoQ (f s : List Int) : Prop := ¬ ∃ (g : Nat → Int) (N : Nat), (∀ j, N < j → g j = 0) ∧ ∀ k, cf f k = pmul s g k
/-- what is left when high places are done -/
structure Left (f s zs rs : List Int) (at' last : Nat) : Prop where
  rest : ∀ k, cf f k = pmul s (cf zs) k + cf rs k
  gone : ∀ k, at' + last ≤ k → cf rs k = 0
theorem Left.diff {f s zs rs : List Int} {a l : Nat} (h : Left f s zs rs a l) {g : Nat → Int} (e : ∀ k, cf f k = pmul s g k) (k : Nat) : pmul s (fun i => g i + (-1) * cf zs i) k = cf rs k := by
  rw [pmul_add, pmul_scale, ← e, h.rest]
  omega
theorem Left.no {f s zs rs : List Int} {a l : Nat} (hs : s.length = l + 1) (hl : cf s l ≠ 0) (h : Left f s zs rs (a + 1) l) (hn : cf rs (a + l) % cf s l ≠ 0) : NoQ f s := by
  rintro ⟨g, N, hN, e⟩
  have d := h.diff e
  generalize hd : (fun i => g i + (-1) * cf zs i) = dd at d
  have fin : ∀ j, a < j → dd j = 0 := ends hs hl (at' := a) (fun k hk => by rw [d]; exact h.gone k (by omega)) (N + zs.length) (fun j hj => by
    rw [← hd]
    show g j + (-1) * cf zs j = 0
    rw [hN j (by omega), cf_ge (by omega)]
    rfl)
  have t := (high fin s l hs).1
  rw [d] at t
  rw [t] at hn
  exact hn (Int.mul_emod_right _ _)
theorem Left.end {f s zs rs : List Int} {l : Nat} (hs : s.length = l + 1) (hl : cf s l ≠ 0) (h : Left f s zs rs 0 l) (hn : ∃ k, cf rs k ≠ 0) : NoQ f s := by
  rintro ⟨g, N, hN, e⟩
  have d := h.diff e
  generalize hd : (fun i => g i + (-1) * cf zs i) = dd at d
  have fin : ∀ j, 0 < j → dd j = 0 := ends hs hl (at' := 0) (fun k hk => by rw [d]; exact h.gone k (by omega)) (N + zs.length) (fun j hj => by
    rw [← hd]
    show g j + (-1) * cf zs j = 0
    rw [hN j (by omega), cf_ge (by omega)]
    rfl)
  have t := (high fin s l hs).1
  rw [d, h.gone _ (by omega)] at t
  have d0 : dd 0 = 0 := (Int.mul_eq_zero.mp t.symm).resolve_left hl
  obtain ⟨k, hk⟩ := hn
  refine hk ?_
  rw [← d, pmul_congr (h := fun _ => 0) (fun j => ?_), pmul_zero]
  by_cases hj : j = 0
  · rw [hj]; exact d0
  · exact fin j (by omega)
theorem Left.next {f s zs rs rs' : List Int} {a l : Nat} {st : Int} (hs : s.length = l + 1) (h : Left f s zs rs (a + 1) l) (hz : a < zs.length) (h0 : cf zs a = 0) (hst : cf rs (a + l) = st * cf s l) (hr : ∀ k, cf rs' k = cf rs k - st * beh a (cf s) k) : Left f s (zs.set a st) rs' a l := by
  refine ⟨fun k => ?_, fun k hk => ?_⟩
  · rw [h.rest, pmul_set hz h0, hr]
    omega
  · rw [hr]
    by_cases e : k = a + l
    · unfold beh
      rw [if_pos (by omega), e, hst, show a + l - a = l by omega]
      omega
    · rw [h.gone k (by omega)]
      unfold beh
      rw [if_pos (by omega), cf_ge (by omega), Int.mul_zero]
      rfl
theorem Left.found {f s zs rs : List Int} {a l : Nat} (h : Left f s zs rs a l) (hn : ∀ k, cf rs k = 0) (k : Nat) : cf f k = pmul s (cf zs) k := by
  rw [h.rest, hn]
  omega
end Al

set_option Elab.async false
set_option linter.all false
set_option maxRecDepth 100000
set_option maxHeartbeats 4000000
set_option exponentiation.threshold 20000
namespace Al
open PySem PySem.Spec PyProof.Rows L2
theorem ixN_at {n i : Nat} (h : i < n) : ixN n (i : Int) = some i := by
  unfold ixN
  rw [if_pos (by omega), if_pos (by omega), Int.toNat_natCast]
section
variable {K : PySem.W.Frag} {H : Hp} {Q : VK} {QU : Hp → Prop} {p : Addr} {ns : List Int} {i : Nat} {j z : Int} {x : V}
theorem int_at (h : (ns.map V.int)[i]? = some x) : x = .int (cf ns i) ∧ i < ns.length := by
  rw [List.getElem?_map] at h
  cases e : ns[i]? with
  | none => rw [e] at h; cases h
  | some n =>
    rw [e] at h
    cases h
    exact ⟨by rw [cf_get e], (List.getElem?_eq_some_iff.mp e).1⟩
theorem r_ixLn (h : H p = some (.lst (ns.map V.int))) (e : j = (i : Int)) (hi : i < ns.length) (q : Q (.int (cf ns i)) H) : rIx K (.ref p) (.int j) H Q :=
  r_ixL (SqL.of h) (by rw [e]; exact atI_nat (by rw [List.getElem?_map, cf_lt hi]; rfl)) q
theorem r_ixLast (h : H p = some (.lst (ns.map V.int))) (hi : 0 < ns.length) (q : Q (.int (cf ns (ns.length - 1))) H) : rIx K (.ref p) (.int (-1)) H Q := by
  refine r_ixL (SqL.of h) ?_ q
  unfold atI ixN
  rw [if_neg (by decide), List.length_map, if_pos (by omega)]
  show (ns.map V.int)[(-1 + (ns.length : Int)).toNat]? = _
  rw [show (-1 + (ns.length : Int)).toNat = ns.length - 1 by omega, List.getElem?_map, cf_lt (by omega)]
  rfl
theorem r_setLn (h : H p = some (.lst (ns.map V.int))) (e : j = (i : Int)) (hi : i < ns.length) (q : ∀ H', Mu p (.lst ((ns.set i z).map V.int)) H H' → QU H') : rSub rSetL (.ref p) (.int j) (.int z) H QU :=
  r_setL h (n := i) (by rw [e, List.length_map]; exact ixN_at hi) (by rw [List.map_set] at q; exact q)
end
theorem r_setLlast {H : Hp} {QU : Hp → Prop} {p : Addr} {ns : List Int} {z : Int} (h : H p = some (.lst (ns.map V.int))) (hi : 0 < ns.length) (q : ∀ H', Mu p (.lst ((ns.set (ns.length - 1) z).map V.int)) H H' → QU H') : rSub rSetL (.ref p) (.int (-1)) (.int z) H QU := by
  refine r_setL h (n := ns.length - 1) ?_ (by rw [List.map_set] at q; exact q)
  unfold ixN
  rw [if_neg (by decide), List.length_map, if_pos (by omega), show (-1 + (ns.length : Int)).toNat = ns.length - 1 by omega]
theorem rep_ints (n : Nat) (z : Int) : List.replicate n (V.int z) = (List.replicate n z).map V.int := by rw [List.map_replicate]
/-! ### the greatest common divisor of a list -/
theorem gcd_cast (a b : Int) (d : Int) : d ∣ ((Nat.gcd a.natAbs b.natAbs : Nat) : Int) ↔ d ∣ a ∧ d ∣ b := by
  constructor
  · intro h
    exact ⟨Int.dvd_trans h (Int.ofNat_dvd_left.mpr (Nat.gcd_dvd_left _ _)), Int.dvd_trans h (Int.ofNat_dvd_left.mpr (Nat.gcd_dvd_right _ _))⟩
  · intro ⟨h1, h2⟩
    have a1 := Int.natAbs_dvd_natAbs.mpr h1
    have a2 := Int.natAbs_dvd_natAbs.mpr h2
    exact Int.natAbs_dvd.mp (Int.natCast_dvd_natCast.mpr (Nat.dvd_gcd a1 a2))
def Cont (ns : List Int) (c : Int) : Prop := 0 ≤ c ∧ ∀ d : Int, d ∣ c ↔ ∀ i, d ∣ cf ns i
theorem Cont.nil : Cont [] 0 := ⟨Int.le_refl _, fun d => ⟨fun _ i => Int.dvd_zero d, fun _ => Int.dvd_zero d⟩⟩
theorem cf_snoc (ns : List Int) (z : Int) (d : Int) : (∀ i, d ∣ cf (ns ++ [z]) i) ↔ (∀ i, d ∣ cf ns i) ∧ d ∣ z := by
  have e1 : ∀ i, i < ns.length → cf (ns ++ [z]) i = cf ns i := fun i hi => cf_get (by rw [List.getElem?_append_left hi]; exact cf_lt hi)
  have e2 : cf (ns ++ [z]) ns.length = z := cf_get (by rw [List.getElem?_append_right (Nat.le_refl _), Nat.sub_self]; rfl)
  constructor
  · intro h
    refine ⟨fun i => ?_, by have := h ns.length; rwa [e2] at this⟩
    by_cases hi : i < ns.length
    · rw [← e1 i hi]; exact h i
    · rw [cf_ge (by omega)]; exact Int.dvd_zero d
  · intro ⟨h1, h2⟩ i
    by_cases hi : i < ns.length
    · rw [e1 i hi]; exact h1 i
    · by_cases he : i = ns.length
      · rw [he, e2]; exact h2
      · rw [cf_ge (by rw [List.length_append, List.length_singleton]; omega)]; exact Int.dvd_zero d
theorem Cont.snoc {ns : List Int} {c z : Int} (h : Cont ns c) : Cont (ns ++ [z]) ((Nat.gcd c.natAbs z.natAbs : Nat) : Int) :=
  ⟨by omega, fun d => by rw [gcd_cast, cf_snoc, h.2]⟩
/-- one divides all -/
theorem Cont.one {ns : List Int} (h : Cont ns 1) (ms : List Int) : Cont (ns ++ ms) 1 := by
  refine ⟨by decide, fun d => ⟨fun hd i => Int.dvd_trans hd (Int.one_dvd _), fun hd => (h.2 d).mpr fun i => ?_⟩⟩
  by_cases hi : i < ns.length
  · have := hd i
    rwa [cf_get (l := ns ++ ms) (by rw [List.getElem?_append_left hi]; exact cf_lt hi)] at this
  · rw [cf_ge (by omega)]; exact Int.dvd_zero d
theorem Cont.dvd {ns : List Int} {c : Int} (h : Cont ns c) (i : Nat) : c ∣ cf ns i := (h.2 c).mp (Int.dvd_refl c) i
theorem Cont.pos {ns : List Int} {c : Int} (h : Cont ns c) {i : Nat} (hi : cf ns i ≠ 0) : 0 < c := by
  have := h.1
  by_cases e : c = 0
  · have d := h.dvd i
    rw [e] at d
    exact absurd (Int.zero_dvd.mp d) hi
  · omega
theorem Cont.le {ns : List Int} {c : Int} (h : Cont ns c) {i : Nat} (hi : cf ns i ≠ 0) : c.natAbs ≤ (cf ns i).natAbs :=
  Nat.le_of_dvd (by omega) (Int.natAbs_dvd_natAbs.mpr (h.dvd i))
/-- by the content -/
structure Prim (ns ps : List Int) (c : Int) : Prop where
  len : ps.length = ns.length
  eq : ∀ i, cf ns i = c * cf ps i
  c0 : c ≠ 0
  last : 0 < cf ps (ns.length - 1)
  one : ∀ d : Int, (∀ i, d ∣ cf ps i) → d ∣ 1
theorem Prim.of {ns : List Int} {c e : Int} (h : Cont ns c) (hn : cf ns (ns.length - 1) ≠ 0) (he : (cf ns (ns.length - 1) < 0 → e = -c) ∧ (¬ cf ns (ns.length - 1) < 0 → e = c)) : Prim ns (ns.map fun n => n.fdiv e) e := by
  have c0 := h.pos hn
  have e0 : e ≠ 0 := by
    by_cases l : cf ns (ns.length - 1) < 0
    · rw [he.1 l]; omega
    · rw [he.2 l]; omega
  have de : ∀ i, e ∣ cf ns i := fun i => by
    by_cases l : cf ns (ns.length - 1) < 0
    · rw [he.1 l]; exact Int.neg_dvd.mpr (h.dvd i)
    · rw [he.2 l]; exact h.dvd i
  have ef : ∀ i, cf (ns.map fun n => n.fdiv e) i = (cf ns i).fdiv e := fun i => cf_map (Int.zero_fdiv e) i
  have em : ∀ i, cf ns i = e * cf (ns.map fun n => n.fdiv e) i := fun i => by
    rw [ef]
    obtain ⟨k, hk⟩ := de i
    rw [hk, Int.mul_fdiv_cancel_left _ e0]
  refine ⟨List.length_map _, em, e0, ?_, fun d hd => ?_⟩
  · have := em (ns.length - 1)
    by_cases l : cf ns (ns.length - 1) < 0
    · rw [he.1 l] at this
      rcases Int.lt_trichotomy (cf (ns.map fun n => n.fdiv e) (ns.length - 1)) 0 with z | z | z
      · have m := Int.mul_pos_of_neg_of_neg (show -c < 0 by omega) z
        rw [he.1 l] at m
        omega
      · rw [he.1 l] at z
        rw [z] at this
        omega
      · exact z
    · rw [he.2 l] at this
      rcases Int.lt_trichotomy (cf (ns.map fun n => n.fdiv e) (ns.length - 1)) 0 with z | z | z
      · have m := Int.mul_neg_of_pos_of_neg c0 z
        rw [he.2 l] at m
        omega
      · rw [he.2 l] at z
        rw [z] at this
        omega
      · exact z
  · have m : e * d ∣ c := (h.2 (e * d)).mpr fun i => by
      rw [em i]
      exact Int.mul_dvd_mul_left _ (hd i)
    have m2 : e * d ∣ e * 1 := by
      rw [Int.mul_one]
      by_cases l : cf ns (ns.length - 1) < 0
      · rw [he.1 l] at m ⊢
        exact Int.dvd_neg.mpr m
      · rw [he.2 l] at m ⊢
        exact m
    exact Int.dvd_of_mul_dvd_mul_left e0 m2
theorem Prim.le {ns ps : List Int} {c : Int} (h : Prim ns ps c) (i : Nat) : (cf ps i).natAbs ≤ (cf ns i).natAbs := by
  rw [h.eq i, Int.natAbs_mul]
  have : 0 < c.natAbs := by have := h.c0; omega
  exact Nat.le_mul_of_pos_left _ this
end Al

set_option Elab.async false
set_option linter.all false
set_option maxRecDepth 100000
set_option maxHeartbeats 4000000
set_option exponentiation.threshold 20000
namespace Al
open PySem PySem.Spec PyProof.Rows L2
/-! ### sums, products, quotients of lines -/
theorem sum_eq {f s n1 n2 w b1 b2 L1 L2 B : Int} (h1 : b1 ≠ 0) (h2 : b2 ≠ 0) (e1 : f * b1 = n1 * L1) (e2 : s * b2 = n2 * L2) (e3 : w * (b1 * b2) = (n1 * b2 + n2 * b1) * B) : (f * L2 + s * L1) * B = w * (L1 * L2) := by
  refine Int.eq_of_mul_eq_mul_right (Int.mul_ne_zero h1 h2) ?_
  grind
theorem pmul_both {f s n1 n2 : List Int} {b1 b2 L1 L2 : Int} (e1 : ∀ i, cf f i * b1 = cf n1 i * L1) (e2 : ∀ i, cf s i * b2 = cf n2 i * L2) (k : Nat) : pmul f (cf s) k * (b1 * b2) = pmul n1 (cf n2) k * (L1 * L2) := by
  have a1 : b1 * pmul f (cf s) k = L1 * pmul n1 (cf s) k := pmul_scaleL _ (fun i => by have := e1 i; rw [Int.mul_comm b1, Int.mul_comm L1]; exact this) k
  have a2 : b2 * pmul n1 (cf s) k = L2 * pmul n1 (cf n2) k := by
    rw [← pmul_scale, ← pmul_scale]
    exact pmul_congr (fun i => by have := e2 i; rw [Int.mul_comm b2, Int.mul_comm L2]; exact this) n1 k
  generalize pmul f (cf s) k = x at *
  generalize pmul n1 (cf s) k = y at *
  generalize pmul n1 (cf n2) k = z at *
  calc x * (b1 * b2) = (b1 * x) * b2 := by ac_rfl
    _ = (L1 * y) * b2 := by rw [a1]
    _ = L1 * (b2 * y) := by ac_rfl
    _ = L1 * (L2 * z) := by rw [a2]
    _ = z * (L1 * L2) := by ac_rfl
theorem prod_eq {p n w b1 b2 L1 L2 B : Int} (h1 : b1 ≠ 0) (h2 : b2 ≠ 0) (e : p * (b1 * b2) = n * (L1 * L2)) (e3 : w * (b1 * b2) = n * B) : p * B = w * (L1 * L2) := by
  refine Int.eq_of_mul_eq_mul_right (Int.mul_ne_zero h1 h2) ?_
  grind
/-- ns1 by b1 is ns2 by b2 times ws by B -/
def Rel (n1 : List Int) (b1 : Int) (n2 : List Int) (b2 : Int) (ws : List Int) (B : Int) : Prop := ∀ k, cf n1 k * (b2 * B) = pmul n2 (cf ws) k * b1
section
variable {n1 n2 f s ps : List Int} {b1 b2 L1 L2 c : Int}
theorem quot_ps (e2 : ∀ i, cf s i * b2 = cf n2 i * L2) (hp : Prim s ps c) (g : Nat → Int) (k : Nat) : L2 * pmul n2 g k = b2 * c * pmul ps g k :=
  pmul_scaleL g (fun i => by
    have := e2 i
    rw [hp.eq i] at this
    grind) k
theorem quot_some (h1 : b1 ≠ 0) (h2 : b2 ≠ 0) (l2 : L2 ≠ 0) (e1 : ∀ i, cf f i * b1 = cf n1 i * L1) (e2 : ∀ i, cf s i * b2 = cf n2 i * L2) (hp : Prim s ps c) {ws : List Int} {B : Int} (hB : B ≠ 0) (rel : Rel n1 b1 n2 b2 ws B) : ¬ NoQ f ps := by
  intro no
  have key : ∀ k, pmul ps (fun i => L1 * c * cf ws i) k = (B * L2) * cf f k := fun k => by
    rw [pmul_scale]
    have a1 := quot_ps e2 hp (cf ws) k
    have a2 := rel k
    have a3 := e1 k
    generalize pmul ps (cf ws) k = x at *
    generalize pmul n2 (cf ws) k = y at *
    generalize cf f k = u at *
    generalize cf n1 k = v at *
    refine Int.eq_of_mul_eq_mul_right (Int.mul_ne_zero h1 h2) ?_
    calc L1 * c * x * (b1 * b2) = L1 * (b2 * c * x) * b1 := by ac_rfl
      _ = L1 * (L2 * y) * b1 := by rw [a1]
      _ = L1 * L2 * (y * b1) := by ac_rfl
      _ = L1 * L2 * (v * (b2 * B)) := by rw [a2]
      _ = (v * L1) * (L2 * (b2 * B)) := by ac_rfl
      _ = (u * b1) * (L2 * (b2 * B)) := by rw [a3]
      _ = B * L2 * u * (b1 * b2) := by ac_rfl
  have m0 : B * L2 ≠ 0 := Int.mul_ne_zero hB l2
  generalize B * L2 = m at *
  have gd := gauss (f := ps) hp.one m.natAbs (by omega) (fun i => L1 * c * cf ws i) (fun k => by
    rw [key k]
    exact Int.natAbs_dvd.mpr ⟨_, rfl⟩)
  have gd' : ∀ j, m ∣ L1 * c * cf ws j := fun j => Int.natAbs_dvd.mp (gd j)
  refine no ⟨fun j => L1 * c * cf ws j / m, ws.length, fun j hj => ?_, fun k => ?_⟩
  · show L1 * c * cf ws j / m = 0
    rw [cf_ge (by omega), Int.mul_zero, Int.zero_ediv]
  · refine Int.eq_of_mul_eq_mul_left m0 ?_
    rw [← key k, ← pmul_scale]
    exact pmul_congr (fun j => (Int.mul_ediv_cancel' (gd' j)).symm) ps k
theorem quot_rel (e1 : ∀ i, cf f i * b1 = cf n1 i * L1) (e2 : ∀ i, cf s i * b2 = cf n2 i * L2) (hp : Prim s ps c) {wq : List Int} (h : ∀ k, cf f k = pmul ps (cf wq) k) : Rel n1 b1 n2 b2 (wq.map fun n => n * L2) (L1 * c) := fun k => by
  have a1 := quot_ps e2 hp (cf wq) k
  have e : pmul n2 (cf (wq.map fun n => n * L2)) k = L2 * pmul n2 (cf wq) k := by
    rw [← pmul_scale]
    exact pmul_congr (fun i => by rw [cf_map (f := fun n => n * L2) (Int.zero_mul _), Int.mul_comm]) n2 k
  rw [e, a1, ← h k]
  have := e1 k
  generalize cf f k = u at *
  generalize cf n1 k = v at *
  calc v * (b2 * (L1 * c)) = (v * L1) * (b2 * c) := by ac_rfl
    _ = (u * b1) * (b2 * c) := by rw [this]
    _ = b2 * c * u * b1 := by ac_rfl
theorem quot_one (h1 : b1 ≠ 0) {i : Nat} (hn : cf n2 i ≠ 0) {ws ws' : List Int} {B B' : Int} (r : Rel n1 b1 n2 b2 ws B) (r' : Rel n1 b1 n2 b2 ws' B') (j : Nat) : cf ws j * B' = cf ws' j * B := by
  have := pmul_cancel (f := n2) (g := fun i => B' * cf ws i) (h := fun i => B * cf ws' i) hn (fun k => by
    rw [pmul_scale, pmul_scale]
    have a := r k
    have b := r' k
    generalize pmul n2 (cf ws) k = x at *
    generalize pmul n2 (cf ws') k = y at *
    generalize cf n1 k = v at *
    refine Int.eq_of_mul_eq_mul_right h1 ?_
    calc B' * x * b1 = B' * (x * b1) := by ac_rfl
      _ = B' * (v * (b2 * B)) := by rw [a]
      _ = B * (v * (b2 * B')) := by ac_rfl
      _ = B * (y * b1) := by rw [b]
      _ = B * y * b1 := by ac_rfl) j
  rw [Int.mul_comm, Int.mul_comm (cf ws' j)]
  exact this
end
/-- a line in the heap, as whole numbers by a bottom -/
structure LnB (K : PySem.W.Frag) (H : Hp) (v : V) (ns : List Int) (b : Int) : Prop where
  at' : LnV K H v (Ln ns b)
  b0 : 0 < b
  bs : b.natAbs < 2 ^ 400
  nz : ∀ i, (cf ns i).natAbs < 2 ^ 400
  len : ns.length ≤ 500
theorem LnB.keep {K : PySem.W.Frag} {H H' : Hp} {v : V} {ns : List Int} {b : Int} (h : LnB K H v ns b) (k : TK H H') : LnB K H' v ns b := ⟨h.at'.keep k, h.b0, h.bs, h.nz, h.len⟩
theorem LnB.from {K : PySem.W.Frag} {H H' : Hp} {v : V} {ns : List Int} {b : Int} (k : TK H H') (h : LnB K H v ns b) : LnB K H' v ns b := h.keep k
theorem LnV.ints {K : PySem.W.Frag} {H : Hp} {t : Addr} {ns : List Int} (h : Tp K H t (ns.map V.int)) (hl : ns = [] ∨ cf ns (ns.length - 1) ≠ 0) : LnV K H (.ref t) (Ln ns 1) := by
  have ic : IsCut (ns.map V.int) ns.length := by
    refine ⟨by rw [List.length_map]; exact Nat.le_refl _, fun i x hi e => ?_, ?_⟩
    · rw [List.getElem?_eq_none (by rw [List.length_map]; exact hi)] at e
      cases e
    · rcases hl with hl | hl
      · exact .inl (by rw [hl]; rfl)
      · refine .inr ⟨.int (cf ns (ns.length - 1)), ?_, fun z => by injection z with z; exact hl z⟩
        have : ns.length ≠ 0 := fun z => hl (cf_ge (by omega))
        rw [List.getElem?_map, cf_lt (by omega)]
        rfl
  have c := (CL.ints (K := K) (H := H) ns).cut ic
  rw [List.take_of_length_le (by rw [List.length_map]; exact Nat.le_refl _)] at c
  exact ⟨t, _, rfl, h, c⟩
theorem Ln_last {ns : List Int} {b : Int} (hb : b ≠ 0) (h : Ln ns b ≠ []) : cf ns ((Ln ns b).length - 1) ≠ 0 := by
  have e := cutLen_end (ns.map fun n => Rat.divInt n b)
  have l : (Ln ns b).length = cutLen (ns.map fun n => Rat.divInt n b) := cut_len _
  rw [← l] at e
  rcases e.2 with z | z
  · exact absurd (List.eq_nil_of_length_eq_zero z) h
  · intro y
    refine z ?_
    rw [qf_div, y, Rat.zero_divInt]
end Al

set_option Elab.async false
set_option linter.all false
set_option maxRecDepth 100000
set_option maxHeartbeats 4000000
set_option exponentiation.threshold 20000
namespace Al
open PySem PySem.Spec PyProof.Rows L2
/-! ### a list of ints and pairs is what it is -/
def toD : Int × Option Int → PyData
  | (i, none) => .int i
  | (i, some j) => .tuple [.int i, .int j]
theorem lay_es : ∀ es : List (Int × Option Int), PyData.canLayAll0 (es.map toD) = true
  | [] => rfl
  | (i, none) :: es => by
    show (PyData.canLay0 (.int i) && PyData.canLayAll0 (es.map toD)) = true
    rw [lay_es es]
    rfl
  | (i, some j) :: es => by
    show (PyData.canLay0 (.tuple [.int i, .int j]) && PyData.canLayAll0 (es.map toD)) = true
    rw [lay_es es]
    rfl
theorem dep_es : ∀ es : List (Int × Option Int), PyData.depthAll (es.map toD) ≤ 1
  | [] => Nat.zero_le _
  | (i, none) :: es => by
    show max (PyData.depth (.int i)) (PyData.depthAll (es.map toD)) ≤ 1
    exact Nat.max_le.mpr ⟨Nat.zero_le _, dep_es es⟩
  | (i, some j) :: es => by
    show max (PyData.depth (.tuple [.int i, .int j])) (PyData.depthAll (es.map toD)) ≤ 1
    exact Nat.max_le.mpr ⟨Nat.le_refl _, dep_es es⟩
theorem eqv_es : ∀ es : List (Int × Option Int), PyData.eqvAll (es.map toD) (es.map toD) = true
  | [] => rfl
  | (i, none) :: es => by
    show ((i == i) && PyData.eqvAll (es.map toD) (es.map toD)) = true
    rw [eqv_es es, beq_self_eq_true]
    rfl
  | (i, some j) :: es => by
    show (((i == i) && ((j == j) && true)) && PyData.eqvAll (es.map toD) (es.map toD)) = true
    rw [eqv_es es, beq_self_eq_true, beq_self_eq_true]
    rfl
theorem shaped_es (es : List (Int × Option Int)) : SeqAt.shaped (.list (es.map toD)) = true := by
  show (PyData.canLayAll0 (es.map toD) && decide (PyData.depthAll (es.map toD) + 1 ≤ 64)) = true
  have := dep_es es
  rw [lay_es, decide_eq_true (by omega)]
  rfl
theorem dp_es {K : PySem.W.Frag} {H : Hp} : ∀ {vs : List V}, (∀ x ∈ vs, El K H x) → ∃ es : List (Int × Option Int), DpAll K H vs (es.map toD)
  | [], _ => ⟨[], .nil⟩
  | v :: vs, h => by
    obtain ⟨es, he⟩ := dp_es (vs := vs) fun x hx => h x (List.mem_cons_of_mem _ hx)
    rcases h v (List.mem_cons_self ..) with ⟨i, rfl⟩ | ⟨f, t, rfl, ht⟩
    · exact ⟨(i, none) :: es, .cons (.int i) he⟩
    · exact ⟨(f.1, some f.2) :: es, .cons (.tup ht.sq (dp_ints [f.1, f.2])) he⟩
theorem r_neSelf {K : PySem.W.Frag} {H : Hp} {Q : VK} {p q : Addr} {vs : List V} (h : ∀ x ∈ vs, El K H x) (hp : SqL K H p vs) (hq : SqL K H q vs) (k : Q (.bl false) H) : rNeD K (.ref p) (.ref q) H Q := by
  obtain ⟨es, he⟩ := dp_es h
  refine ⟨_, _, .lst hp he, .lst hq he, shaped_es es, shaped_es es, ?_⟩
  rw [show PyData.eqv (.list (es.map toD)) (.list (es.map toD)) = true from eqv_es es]
  exact k
section
variable {K : PySem.W.Frag} {H H' : Hp} {v w x : V} {q r : Rat} {qs rs : List Rat} {vs ws xs : List V}
theorem Cr.el (h : Cr K H v q) : El K H v := by
  rcases h with ⟨i, h, _⟩ | ⟨a, b, h, _⟩
  · exact .inl ⟨_, h⟩
  · exact .inr ⟨_, h⟩
theorem CR.el (h : CR K H vs qs) : ∀ x ∈ vs, El K H x := fun x hx => by
  obtain ⟨i, e⟩ := List.mem_iff_getElem?.mp hx
  obtain ⟨q, _, c⟩ := h.2 i x e
  exact c.el
theorem CR.nil : CR K H [] [] := ⟨rfl, fun i v e => by cases e⟩
theorem CR.snoc (h : CR K H vs qs) (h' : Cr K H v q) : CR K H (vs ++ [v]) (qs ++ [q]) := by
  refine ⟨by rw [List.length_append, List.length_append, h.1]; rfl, fun i w e => ?_⟩
  by_cases hi : i < vs.length
  · rw [List.getElem?_append_left hi] at e
    rw [List.getElem?_append_left (by rw [← h.1]; exact hi)]
    exact h.2 i w e
  · rw [List.getElem?_append_right (by omega)] at e
    rw [List.getElem?_append_right (by rw [← h.1]; omega), ← h.1]
    have hi0 : i - vs.length = 0 := by
      have := (List.getElem?_eq_some_iff.mp e).1
      rw [List.length_singleton] at this
      omega
    rw [hi0] at e ⊢
    cases e
    exact ⟨q, rfl, h'⟩
theorem CR.append (h : CR K H vs qs) (h' : CR K H ws rs) : CR K H (vs ++ ws) (qs ++ rs) := by
  refine ⟨by rw [List.length_append, List.length_append, h.1, h'.1], fun i w e => ?_⟩
  by_cases hi : i < vs.length
  · rw [List.getElem?_append_left hi] at e
    rw [List.getElem?_append_left (by rw [← h.1]; exact hi)]
    exact h.2 i w e
  · rw [List.getElem?_append_right (by omega)] at e
    rw [List.getElem?_append_right (by rw [← h.1]; omega), ← h.1]
    exact h'.2 _ w e
theorem CR.set {i : Nat} (h : CR K H vs qs) (h' : Cr K H v q) : CR K H (vs.set i v) (qs.set i q) := by
  refine ⟨by rw [List.length_set, List.length_set, h.1], fun j w e => ?_⟩
  rw [List.getElem?_set] at e ⊢
  rw [← h.1]
  by_cases hj : i = j
  · subst hj
    rw [if_pos rfl] at e ⊢
    by_cases hl : i < vs.length
    · rw [if_pos hl] at e ⊢
      cases e
      exact ⟨q, rfl, h'⟩
    · rw [if_neg hl] at e
      cases e
  · rw [if_neg hj] at e ⊢
    exact h.2 j w e
end
/-- noughts at the end change nothing -/
theorem qf_pad (qs : List Rat) (n i : Nat) : qf (qs ++ List.replicate n 0) i = qf qs i := by
  by_cases h : i < qs.length
  · exact qf_get (by rw [List.getElem?_append_left h]; exact qf_lt h)
  · rw [qf_ge (l := qs) (by omega)]
    by_cases h2 : i < qs.length + n
    · refine qf_get ?_
      rw [List.getElem?_append_right (by omega), List.getElem?_replicate, if_pos (by omega)]
    · exact qf_ge (by rw [List.length_append, List.length_replicate]; omega)
theorem cut_pad {qs : List Rat} {n : Nat} : cutR (qs ++ List.replicate n 0) = cutR qs := cut_eq fun i => qf_pad qs n i
theorem zero_div1 : (0 : Rat) = Rat.divInt 0 1 := (Rat.zero_divInt 1).symm
theorem LnV.seq {K : PySem.W.Frag} {H : Hp} {v : V} {qs : List Rat} (h : LnV K H v qs) (hd : ∀ q ∈ qs, q.den < 2 ^ 8000) : ∃ t vs, v = .ref t ∧ Tp K H t vs ∧ CR K H vs qs := by
  obtain ⟨t, vs, e, h1, h2⟩ := h
  exact ⟨t, vs, e, h1, h2.cr hd⟩
theorem Ln_den {ns : List Int} {b : Int} (hb : b ≠ 0) (hs : b.natAbs < 2 ^ 8000) : ∀ q ∈ Ln ns b, q.den < 2 ^ 8000 := fun q hq => by
  have h2 := List.mem_of_mem_take hq
  obtain ⟨n, _, rfl⟩ := List.mem_map.mp h2
  exact den_lt hb hs
theorem qf_set {qs : List Rat} {i j : Nat} {q : Rat} (h : i < qs.length) : qf (qs.set i q) j = if j = i then q else qf qs j := by
  unfold qf
  rw [List.getD_eq_getElem?_getD, List.getD_eq_getElem?_getD, List.getElem?_set]
  by_cases e : i = j
  · subst e
    rw [if_pos rfl, if_pos h, if_pos rfl]
    rfl
  · rw [if_neg e, if_neg (Ne.symm e)]
end Al

set_option Elab.async false
set_option linter.all false
set_option maxRecDepth 100000
set_option maxHeartbeats 4000000
set_option exponentiation.threshold 20000
namespace Al
open PySem PySem.Spec PyProof.Rows L2
/-! ### read backwards -/
/-- how many noughts stand ahead -/
def Ahead (ns : List Int) (j L : Nat) : Prop := L ≤ j ∧ (∀ k, k < L → cf ns k = 0) ∧ (L = j ∨ cf ns L ≠ 0)
theorem Ahead.yes {ns : List Int} {j L : Nat} (h : Ahead ns j L) (hz : ∀ k, k < j + 1 → cf ns k = 0) : Ahead ns (j + 1) (L + 1) := by
  obtain ⟨h1, h2, h3⟩ := h
  have : L = j := by
    rcases h3 with h3 | h3
    · exact h3
    · exact absurd (hz L (by omega)) h3
  subst this
  exact ⟨Nat.le_refl _, hz, .inl rfl⟩
theorem Ahead.no {ns : List Int} {j L : Nat} (h : Ahead ns j L) (hz : ¬ ∀ k, k < j + 1 → cf ns k = 0) : Ahead ns (j + 1) L := by
  obtain ⟨h1, h2, h3⟩ := h
  refine ⟨by omega, h2, .inr ?_⟩
  rcases h3 with h3 | h3
  · subst h3
    intro z
    refine hz fun k hk => ?_
    by_cases e : k = L
    · rw [e]; exact z
    · exact h2 k (by omega)
  · exact h3
theorem qf_rev (l : List Rat) (i : Nat) (h : i < l.length) : qf l.reverse i = qf l (l.length - 1 - i) := by
  unfold qf
  rw [List.getD_eq_getElem?_getD, List.getD_eq_getElem?_getD, List.getElem?_reverse h]
theorem back_one {ns : List Int} {b : Int} (hb : b ≠ 0) (hl : (∀ i, cf ns i = 0) ∨ cf ns (ns.length - 1) ≠ 0) : cutR (Ln ns b).reverse = Ln ns.reverse b := by
  rcases hl with hl | hl
  · rw [(Ln_empty hb).mpr hl, (Ln_empty (ns := ns.reverse) hb).mpr]
    · rfl
    · intro i
      by_cases hi : i < ns.length
      · have := hl (ns.length - 1 - i)
        unfold cf at *
        rw [List.getD_eq_getElem?_getD] at *
        rw [List.getElem?_reverse hi]
        exact this
      · exact cf_ge (by rw [List.length_reverse]; omega)
  · have hne : ns.length ≠ 0 := fun z => hl (cf_ge (by omega))
    have e : Ln ns b = ns.map fun n => Rat.divInt n b := by
      unfold Ln
      rw [← cut_is (e := ns.length) ⟨fun i hi => qf_ge (by rw [List.length_map]; exact hi), .inr fun z => ?_⟩]
      · exact List.take_of_length_le (by rw [List.length_map]; exact Nat.le_refl _)
      · rw [qf_div] at z
        exact hl ((div_zero_iff hb).mp z)
    rw [e, ← List.map_reverse]
    rfl
theorem back_two {ns : List Int} {b : Int} {L : Nat} (hb : b ≠ 0) (h : Ahead ns ns.length L) : cutR (Ln ns.reverse b).reverse = Ln (ns.drop L) b := by
  obtain ⟨h1, h2, h3⟩ := h
  have e : Ln ns.reverse b = ((ns.map fun n => Rat.divInt n b).reverse).take (ns.length - L) := by
    unfold Ln
    rw [List.map_reverse]
    refine (cut_is ⟨fun i hi => ?_, ?_⟩).symm
    · by_cases hl : i < ns.length
      · rw [qf_rev _ _ (by rw [List.length_map]; exact hl), qf_div, List.length_map, h2 _ (by omega), Rat.zero_divInt]
      · exact qf_ge (by rw [List.length_reverse, List.length_map]; omega)
    · rcases h3 with h3 | h3
      · exact .inl (by omega)
      · by_cases hL : L = ns.length
        · exact .inl (by omega)
        · refine .inr fun z => h3 ?_
          rw [qf_rev _ _ (by rw [List.length_map]; omega), qf_div, List.length_map, show ns.length - 1 - (ns.length - L - 1) = L by omega] at z
          exact (div_zero_iff hb).mp z
  rw [e, List.take_reverse, List.reverse_reverse, List.length_map, show ns.length - (ns.length - L) = L by omega, ← List.map_drop]
  rfl
/-! ### 1 less t to the power of n -/
def oneL (n : Nat) : List Int := if n = 0 then [] else [1] ++ List.replicate (n - 1) 0 ++ [-1]
theorem oneL_len (n : Nat) : (oneL n).length ≤ n + 1 := by
  unfold oneL
  split
  · exact Nat.zero_le _
  · rw [List.length_append, List.length_append, List.length_replicate]
    show 1 + _ + 1 ≤ _
    omega
theorem cf_oneL {n : Nat} (h : 0 < n) (k : Nat) : cf (oneL n) k = if k = 0 then 1 else if k = n then -1 else 0 := by
  unfold oneL
  rw [if_neg (by omega)]
  have e : ([1] ++ List.replicate (n - 1) 0 ++ [-1] : List Int) = 1 :: (List.replicate (n - 1) 0 ++ [-1]) := rfl
  rw [e]
  cases k with
  | zero => rfl
  | succ k =>
    rw [cf_succ, cf_one, if_neg (by omega)]
    unfold one'
    by_cases hk : k = n - 1
    · rw [if_pos hk, if_pos (by omega)]
    · rw [if_neg hk, if_neg (by omega)]
theorem cf_rep1 (n k : Nat) : cf (List.replicate n 1) k = if k < n then 1 else 0 := by
  by_cases h : k < n
  · rw [if_pos h]
    exact cf_get (by rw [List.getElem?_replicate, if_pos h])
  · rw [if_neg h]
    exact cf_ge (by rw [List.length_replicate]; omega)
theorem oneL_rel {n : Nat} (h : 0 < n) : Rel (oneL n) 1 [1, -1] 1 (List.replicate n 1) 1 := fun k => by
  rw [cf_oneL h]
  cases k with
  | zero =>
    show (if 0 = 0 then (1 : Int) else _) * (1 * 1) = (1 * cf (List.replicate n 1) 0 + 0) * 1
    rw [cf_rep1, if_pos h, if_pos rfl]
    rfl
  | succ k =>
    show _ = (1 * cf (List.replicate n 1) (k + 1) + ((-1) * cf (List.replicate n 1) k + sh (pmul [] (cf (List.replicate n 1))) k)) * 1
    have z : sh (pmul [] (cf (List.replicate n 1))) k = 0 := by cases k <;> rfl
    rw [z, cf_rep1, cf_rep1, if_neg (by omega)]
    by_cases h1 : k + 1 = n
    · rw [if_pos h1, if_neg (by omega), if_pos (by omega)]
      rfl
    · rw [if_neg h1]
      by_cases h2 : k + 1 < n
      · rw [if_pos h2, if_pos (by omega)]
        rfl
      · rw [if_neg h2, if_neg (by omega)]
        rfl
theorem oneL_sz (n : Nat) (i : Nat) : (cf (oneL n) i).natAbs < 2 ^ 400 := by
  by_cases h : 0 < n
  · rw [cf_oneL h]
    split
    · decide +kernel
    · split
      · decide +kernel
      · exact Nat.two_pow_pos _
  · have : n = 0 := by omega
    subst this
    show (cf [] i).natAbs < _
    rw [cf_nil]
    exact Nat.two_pow_pos _
theorem oneL_last (n : Nat) : oneL n = [] ∨ cf (oneL n) ((oneL n).length - 1) ≠ 0 := by
  by_cases h : n = 0
  · exact .inl (by unfold oneL; rw [if_pos h])
  · refine .inr ?_
    have : (oneL n).length = n + 1 := by
      unfold oneL
      rw [if_neg h, List.length_append, List.length_append, List.length_replicate]
      show 1 + _ + 1 = _
      omega
    rw [this, cf_oneL (by omega), if_neg (by omega), if_pos (by omega)]
    decide
end Al

set_option Elab.async false
set_option linter.all false
set_option maxRecDepth 100000
set_option maxHeartbeats 4000000
set_option exponentiation.threshold 20000
namespace Al
open PySem PySem.Spec PyProof.Rows L2
theorem sh_le {g : Nat → Int} {m : Nat} (h : ∀ k, (g k).natAbs ≤ m) : ∀ k, (sh g k).natAbs ≤ m
  | 0 => Nat.zero_le _
  | k + 1 => h k
theorem pmul_le {g : Nat → Int} {A B : Nat} (hg : ∀ k, (g k).natAbs ≤ B) : ∀ (f : List Int), (∀ x ∈ f, x.natAbs ≤ A) → ∀ k, (pmul f g k).natAbs ≤ f.length * (A * B)
  | [], _, k => Nat.zero_le _
  | a :: f, h, k => by
    have h1 := sh_le (fun k => pmul_le hg f (fun x hx => h x (List.mem_cons_of_mem _ hx)) k) k
    have h2 : (a * g k).natAbs ≤ A * B := by
      rw [Int.natAbs_mul]
      exact Nat.mul_le_mul (h a (List.mem_cons_self ..)) (hg k)
    show (a * g k + sh (pmul f g) k).natAbs ≤ (f.length + 1) * (A * B)
    rw [Nat.succ_mul]
    generalize f.length * (A * B) = u at *
    generalize A * B = v at *
    omega
theorem short_zero {s : List Int} {l : Nat} (hs : s.length = l + 1) (hl : cf s l ≠ 0) {g : Nat → Int} {N : Nat} (hN : ∀ j, N < j → g j = 0) (h : ∀ k, l ≤ k → pmul s g k = 0) (j : Nat) : g j = 0 := by
  have fin : ∀ j, 0 < j → g j = 0 := ends hs hl (at' := 0) (fun k hk => h k (by omega)) N hN
  have t := (high fin s l hs).1
  rw [h _ (by omega)] at t
  by_cases hj : j = 0
  · rw [hj]
    exact (Int.mul_eq_zero.mp t.symm).resolve_left hl
  · exact fin j (by omega)
/-- a row with two coefficients makes none that stands alone -/
theorem no_mono {s : List Int} {l i n : Nat} {c : Int} (hs : s.length = l + 1) (hl : cf s l ≠ 0) (hi : i < l) (hi0 : cf s i ≠ 0) {g : Nat → Int} {N : Nat} (hN : ∀ j, N < j → g j = 0) (hc : c ≠ 0) (h : ∀ k, pmul s g k = if k = n then c else 0) : False := by
  by_cases hn : n < l
  · have z := short_zero hs hl hN fun k hk => by rw [h, if_neg (by omega)]
    have := h n
    rw [pmul_congr (h := fun _ => 0) z, pmul_zero, if_pos rfl] at this
    exact hc this.symm
  · have fin : ∀ j, n - l < j → g j = 0 := ends hs hl (at' := n - l) (fun k hk => by rw [h, if_neg (by omega)]) N hN
    have t := (high fin s l hs).1
    rw [h, if_pos (by omega)] at t
    have gn : g (n - l) ≠ 0 := fun z => hc (by rw [t, z, Int.mul_zero])
    obtain ⟨b, hb, lb⟩ := first_of (P := fun j => g j ≠ 0) gn
    obtain ⟨a, ha, la⟩ := first_of (P := fun j => cf s j ≠ 0) hi0
    have bl : b ≤ n - l := Classical.byContradiction fun z => lb (n - l) (by omega) gn
    have al : a ≤ i := Classical.byContradiction fun z => la i (by omega) hi0
    have d := low (p := 0) (g := g) (b := b) (fun j hj => by
      have : g j = 0 := Classical.byContradiction fun z => lb j hj z
      rw [this]
      exact Int.dvd_zero 0) s a (fun j hj => by
      have : cf s j = 0 := Classical.byContradiction fun z => la j hj z
      rw [this]
      exact Int.dvd_zero 0)
    rw [h, if_neg (by omega)] at d
    have d0 : (0 : Int) - cf s a * g b = 0 := Int.zero_dvd.mp d
    have := Int.mul_ne_zero ha hb
    omega
theorem no_short {s : List Int} {l i : Nat} {b : Int} (hs : s.length = l + 1) (hl : cf s l ≠ 0) (hi : i < l) (hi0 : cf s i ≠ 0) (hb : b ≠ 0) : ∀ ws B, B ≠ 0 → ¬ Rel (s.take l) b s b ws B := fun ws B hB r => by
  have cft : ∀ k, cf (s.take l) k = if k < l then cf s k else 0 := fun k => by
    by_cases hk : k < l
    · rw [if_pos hk]
      exact cf_get (by rw [List.getElem?_take_of_lt hk]; exact cf_lt (by omega))
    · rw [if_neg hk]
      exact cf_ge (by rw [List.length_take]; omega)
  have z := short_zero hs hl (g := cf ws) (N := ws.length) (fun j hj => cf_ge (by omega)) fun k hk => by
    have := r k
    rw [cft, if_neg (by omega), Int.zero_mul] at this
    exact (Int.mul_eq_zero.mp this.symm).resolve_right hb
  have := r i
  rw [pmul_congr (h := fun _ => 0) z, pmul_zero, Int.zero_mul, cft, if_pos hi] at this
  rcases Int.mul_eq_zero.mp this with e | e
  · exact hi0 e
  · exact absurd e (Int.mul_ne_zero hb hB)
theorem no_changed {s o w : List Int} {l i n : Nat} {b u d : Int} (hs : s.length = l + 1) (hl : cf s l ≠ 0) (hi : i < l) (hi0 : cf s i ≠ 0) (hb : b ≠ 0) (hu : u ≠ 0) (hd : d ≠ 0) (hn : n < w.length) (hw : ∀ k, cf w k = pmul s (cf o) k) :
    ∀ ws B, B ≠ 0 → ¬ Rel (w.set n (cf w n + d)) (b * u) s b ws B := fun ws B hB r => by
  refine no_mono hs hl hi hi0 (g := fun j => (b * u) * cf ws j + (-(b * B)) * cf o j) (N := ws.length + o.length) (n := n) (c := d * (b * B)) (fun j hj => ?_) (Int.mul_ne_zero hd (Int.mul_ne_zero hb hB)) fun k => ?_
  · show (b * u) * cf ws j + (-(b * B)) * cf o j = 0
    rw [cf_ge (by omega), cf_ge (by omega), Int.mul_zero, Int.mul_zero]
    rfl
  · rw [pmul_add, pmul_scale, pmul_scale, ← hw]
    have := r k
    rw [cf_set hn] at this
    generalize pmul s (cf ws) k = x at *
    by_cases hk : k = n
    · rw [if_pos hk] at this ⊢
      rw [hk]
      grind
    · rw [if_neg hk] at this ⊢
      grind
/-- a tuple that is not empty is not () -/
theorem r_eqNil {K : PySem.W.Frag} {H : Hp} {Q : VK} {p q : Addr} {vs : List V} (h : ∀ x ∈ vs, El K H x) (hp : Tp K H p vs) (hq : Tp K H q []) (hv : vs ≠ []) (k : Q (.bl false) H) : rEqD K (.ref p) (.ref q) H Q := by
  obtain ⟨es, he⟩ := dp_es h
  refine ⟨_, _, .tup hp.sq he, .tup hq.sq .nil, shaped_es es, rfl, ?_⟩
  cases es with
  | nil =>
    cases he
    exact absurd rfl hv
  | cons e es => exact k
end Al

set_option Elab.async false
set_option linter.all false
set_option maxRecDepth 100000
set_option maxHeartbeats 4000000
namespace Al
open PySem PySem.Spec PyProof.Rows L2
def topS (i : Nat) : Stmt := PySem.Challenge.pw_allunmoved_k29_lines_put_together_and_ta.main.body.getD i (.Pass ⟨0, 0, 0, 0⟩)
abbrev s_lowest : Stmt := topS 2
abbrev n_lowest : List Str := ["top", "bottom", "shared"]
abbrev p_lowest : List Str := ["top", "bottom"]
theorem sc_lowest : FnScope n_lowest p_lowest (defScope s_lowest) := ⟨rfl, rfl, rfl, by decide +kernel, rfl, by decide +kernel, by decide +kernel⟩
abbrev s_fraction : Stmt := topS 4
abbrev n_fraction : List Str := ["top", "bottom"]
abbrev p_fraction : List Str := ["top", "bottom"]
theorem sc_fraction : FnScope n_fraction p_fraction (defScope s_fraction) := ⟨rfl, rfl, rfl, by decide +kernel, rfl, by decide +kernel, by decide +kernel⟩
abbrev s_coefficient : Stmt := topS 6
abbrev n_coefficient : List Str := ["top", "bottom", "found"]
abbrev p_coefficient : List Str := ["top", "bottom"]
theorem sc_coefficient : FnScope n_coefficient p_coefficient (defScope s_coefficient) := ⟨rfl, rfl, rfl, by decide +kernel, rfl, by decide +kernel, by decide +kernel⟩
abbrev s_cut : Stmt := topS 7
abbrev n_cut : List Str := ["numbers", "end"]
abbrev p_cut : List Str := ["numbers"]
theorem sc_cut : FnScope n_cut p_cut (defScope s_cut) := ⟨rfl, rfl, rfl, by decide +kernel, rfl, by decide +kernel, by decide +kernel⟩
abbrev s_whole : Stmt := topS 8
abbrev n_whole : List Str := ["line", "bottom", "number", "found"]
abbrev p_whole : List Str := ["line"]
theorem sc_whole : FnScope n_whole p_whole (defScope s_whole) := ⟨rfl, rfl, rfl, by decide +kernel, rfl, by decide +kernel, by decide +kernel⟩
abbrev s_by_bottom : Stmt := topS 9
abbrev n_by_bottom : List Str := ["numbers", "bottom", "number"]
abbrev p_by_bottom : List Str := ["numbers", "bottom"]
theorem sc_by_bottom : FnScope n_by_bottom p_by_bottom (defScope s_by_bottom) := ⟨rfl, rfl, rfl, by decide +kernel, rfl, by decide +kernel, by decide +kernel⟩
abbrev s_line_of : Stmt := topS 10
abbrev n_line_of : List Str := ["numbers", "found", "number"]
abbrev p_line_of : List Str := ["numbers"]
theorem sc_line_of : FnScope n_line_of p_line_of (defScope s_line_of) := ⟨rfl, rfl, rfl, by decide +kernel, rfl, by decide +kernel, by decide +kernel⟩
abbrev s_summed : Stmt := topS 11
abbrev n_summed : List Str := ["first", "second", "found", "at", "number"]
abbrev p_summed : List Str := ["first", "second"]
theorem sc_summed : FnScope n_summed p_summed (defScope s_summed) := ⟨rfl, rfl, rfl, by decide +kernel, rfl, by decide +kernel, by decide +kernel⟩
abbrev s_times : Stmt := topS 12
abbrev n_times : List Str := ["first", "second", "found", "at", "number", "k", "other"]
abbrev p_times : List Str := ["first", "second"]
theorem sc_times : FnScope n_times p_times (defScope s_times) := ⟨rfl, rfl, rfl, by decide +kernel, rfl, by decide +kernel, by decide +kernel⟩
abbrev s_scaled : Stmt := topS 13
abbrev n_scaled : List Str := ["numbers", "often", "number"]
abbrev p_scaled : List Str := ["numbers", "often"]
theorem sc_scaled : FnScope n_scaled p_scaled (defScope s_scaled) := ⟨rfl, rfl, rfl, by decide +kernel, rfl, by decide +kernel, by decide +kernel⟩
abbrev s_exact : Stmt := topS 14
abbrev n_exact : List Str := ["first", "second", "last", "rest", "found", "at", "step", "left", "k", "number"]
abbrev p_exact : List Str := ["first", "second"]
theorem sc_exact : FnScope n_exact p_exact (defScope s_exact) := ⟨rfl, rfl, rfl, by decide +kernel, rfl, by decide +kernel, by decide +kernel⟩
abbrev s_content : Stmt := topS 15
abbrev n_content : List Str := ["numbers", "found", "number"]
abbrev p_content : List Str := ["numbers"]
theorem sc_content : FnScope n_content p_content (defScope s_content) := ⟨rfl, rfl, rfl, by decide +kernel, rfl, by decide +kernel, by decide +kernel⟩
abbrev s_primitive : Stmt := topS 16
abbrev n_primitive : List Str := ["numbers", "common", "number"]
abbrev p_primitive : List Str := ["numbers"]
theorem sc_primitive : FnScope n_primitive p_primitive (defScope s_primitive) := ⟨rfl, rfl, rfl, by decide +kernel, rfl, by decide +kernel, by decide +kernel⟩
abbrev s_line_plus : Stmt := topS 17
abbrev n_line_plus : List Str := ["one", "other", "first", "one_bottom", "second", "other_bottom", "found"]
abbrev p_line_plus : List Str := ["one", "other"]
theorem sc_line_plus : FnScope n_line_plus p_line_plus (defScope s_line_plus) := ⟨rfl, rfl, rfl, by decide +kernel, rfl, by decide +kernel, by decide +kernel⟩
abbrev s_line_by : Stmt := topS 18
abbrev n_line_by : List Str := ["one", "other", "first", "one_bottom", "second", "other_bottom"]
abbrev p_line_by : List Str := ["one", "other"]
theorem sc_line_by : FnScope n_line_by p_line_by (defScope s_line_by) := ⟨rfl, rfl, rfl, by decide +kernel, rfl, by decide +kernel, by decide +kernel⟩
abbrev s_line_quotient : Stmt := topS 19
abbrev n_line_quotient : List Str := ["one", "other", "first", "one_bottom", "second", "other_bottom", "plain", "found"]
abbrev p_line_quotient : List Str := ["one", "other"]
theorem sc_line_quotient : FnScope n_line_quotient p_line_quotient (defScope s_line_quotient) := ⟨rfl, rfl, rfl, by decide +kernel, rfl, by decide +kernel, by decide +kernel⟩
abbrev s_line_backwards : Stmt := topS 20
abbrev n_line_backwards : List Str := ["line"]
abbrev p_line_backwards : List Str := ["line"]
theorem sc_line_backwards : FnScope n_line_backwards p_line_backwards (defScope s_line_backwards) := ⟨rfl, rfl, rfl, by decide +kernel, rfl, by decide +kernel, by decide +kernel⟩
abbrev s_one_less : Stmt := topS 21
abbrev n_one_less : List Str := ["number"]
abbrev p_one_less : List Str := ["number"]
theorem sc_one_less : FnScope n_one_less p_one_less (defScope s_one_less) := ⟨rfl, rfl, rfl, by decide +kernel, rfl, by decide +kernel, by decide +kernel⟩
abbrev s_law_source : Stmt := topS 23
abbrev n_law_source : List Str := ["script", "salt", "numbers", "blend", "cell"]
abbrev p_law_source : List Str := ["script", "salt"]
theorem sc_law_source : FnScope n_law_source p_law_source (defScope s_law_source) := ⟨rfl, rfl, rfl, by decide +kernel, rfl, by decide +kernel, by decide +kernel⟩
abbrev s_law_any : Stmt := topS 24
abbrev n_law_any : List Str := ["draws", "bound", "rest"]
abbrev p_law_any : List Str := ["draws", "bound"]
theorem sc_law_any : FnScope n_law_any p_law_any (defScope s_law_any) := ⟨rfl, rfl, rfl, by decide +kernel, rfl, by decide +kernel, by decide +kernel⟩
abbrev s_law_of : Stmt := topS 25
abbrev n_law_of : List Str := ["draws", "some"]
abbrev p_law_of : List Str := ["draws", "some"]
theorem sc_law_of : FnScope n_law_of p_law_of (defScope s_law_of) := ⟨rfl, rfl, rfl, by decide +kernel, rfl, by decide +kernel, by decide +kernel⟩
abbrev s_law_near : Stmt := topS 26
abbrev n_law_near : List Str := ["draws", "most"]
abbrev p_law_near : List Str := ["draws", "most"]
theorem sc_law_near : FnScope n_law_near p_law_near (defScope s_law_near) := ⟨rfl, rfl, rfl, by decide +kernel, rfl, by decide +kernel, by decide +kernel⟩
abbrev s_law_same : Stmt := topS 27
abbrev n_law_same : List Str := ["found", "due", "at"]
abbrev p_law_same : List Str := ["found", "due"]
theorem sc_law_same : FnScope n_law_same p_law_same (defScope s_law_same) := ⟨rfl, rfl, rfl, by decide +kernel, rfl, by decide +kernel, by decide +kernel⟩
abbrev s_law_common : Stmt := topS 28
abbrev n_law_common : List Str := ["one", "other"]
abbrev p_law_common : List Str := ["one", "other"]
theorem sc_law_common : FnScope n_law_common p_law_common (defScope s_law_common) := ⟨rfl, rfl, rfl, by decide +kernel, rfl, by decide +kernel, by decide +kernel⟩
abbrev s_law_pair : Stmt := topS 29
abbrev n_law_pair : List Str := ["top", "bottom", "common"]
abbrev p_law_pair : List Str := ["top", "bottom"]
theorem sc_law_pair : FnScope n_law_pair p_law_pair (defScope s_law_pair) := ⟨rfl, rfl, rfl, by decide +kernel, rfl, by decide +kernel, by decide +kernel⟩
abbrev s_law_part : Stmt := topS 30
abbrev n_law_part : List Str := ["top", "bottom", "pair"]
abbrev p_law_part : List Str := ["top", "bottom"]
theorem sc_law_part : FnScope n_law_part p_law_part (defScope s_law_part) := ⟨rfl, rfl, rfl, by decide +kernel, rfl, by decide +kernel, by decide +kernel⟩
abbrev s_law_cut : Stmt := topS 31
abbrev n_law_cut : List Str := ["numbers", "end"]
abbrev p_law_cut : List Str := ["numbers"]
theorem sc_law_cut : FnScope n_law_cut p_law_cut (defScope s_law_cut) := ⟨rfl, rfl, rfl, by decide +kernel, rfl, by decide +kernel, by decide +kernel⟩
abbrev s_law_line : Stmt := topS 32
abbrev n_law_line : List Str := ["numbers", "bottom", "number"]
abbrev p_law_line : List Str := ["numbers", "bottom"]
theorem sc_law_line : FnScope n_law_line p_law_line (defScope s_law_line) := ⟨rfl, rfl, rfl, by decide +kernel, rfl, by decide +kernel, by decide +kernel⟩
abbrev s_law_times : Stmt := topS 33
abbrev n_law_times : List Str := ["one", "other", "found", "at", "k"]
abbrev p_law_times : List Str := ["one", "other"]
theorem sc_law_times : FnScope n_law_times p_law_times (defScope s_law_times) := ⟨rfl, rfl, rfl, by decide +kernel, rfl, by decide +kernel, by decide +kernel⟩
abbrev s_law_sum : Stmt := topS 34
abbrev n_law_sum : List Str := ["one", "other", "often", "many", "first", "second", "at"]
abbrev p_law_sum : List Str := ["one", "other", "often"]
theorem sc_law_sum : FnScope n_law_sum p_law_sum (defScope s_law_sum) := ⟨rfl, rfl, rfl, by decide +kernel, rfl, by decide +kernel, by decide +kernel⟩
abbrev s_law_many : Stmt := topS 35
abbrev n_law_many : List Str := ["draws", "most"]
abbrev p_law_many : List Str := ["draws", "most"]
theorem sc_law_many : FnScope n_law_many p_law_many (defScope s_law_many) := ⟨rfl, rfl, rfl, by decide +kernel, rfl, by decide +kernel, by decide +kernel⟩
abbrev s_law_whole : Stmt := topS 36
abbrev n_law_whole : List Str := ["draws", "most", "figures", "many", "size", "thin", "found", "at"]
abbrev p_law_whole : List Str := ["draws", "most", "figures"]
theorem sc_law_whole : FnScope n_law_whole p_law_whole (defScope s_law_whole) := ⟨rfl, rfl, rfl, by decide +kernel, rfl, by decide +kernel, by decide +kernel⟩
abbrev s_law_bottom : Stmt := topS 37
abbrev n_law_bottom : List Str := ["draws", "figures"]
abbrev p_law_bottom : List Str := ["draws", "figures"]
theorem sc_law_bottom : FnScope n_law_bottom p_law_bottom (defScope s_law_bottom) := ⟨rfl, rfl, rfl, by decide +kernel, rfl, by decide +kernel, by decide +kernel⟩
abbrev s_law_told : Stmt := topS 38
abbrev n_law_told : List Str := ["draws", "number", "bottom", "part"]
abbrev p_law_told : List Str := ["draws", "number", "bottom"]
theorem sc_law_told : FnScope n_law_told p_law_told (defScope s_law_told) := ⟨rfl, rfl, rfl, by decide +kernel, rfl, by decide +kernel, by decide +kernel⟩
abbrev s_law_taken : Stmt := topS 39
abbrev n_law_taken : List Str := ["draws", "numbers", "bottom", "some", "due", "kept", "found", "at", "wide", "number"]
abbrev p_law_taken : List Str := ["draws"]
theorem sc_law_taken : FnScope n_law_taken p_law_taken (defScope s_law_taken) := ⟨rfl, rfl, rfl, by decide +kernel, rfl, by decide +kernel, by decide +kernel⟩
abbrev s_law_sums : Stmt := topS 40
abbrev n_law_sums : List Str := ["draws", "one", "bottom", "other", "under", "first", "second", "due", "at", "low", "gone", "number", "k"]
abbrev p_law_sums : List Str := ["draws"]
theorem sc_law_sums : FnScope n_law_sums p_law_sums (defScope s_law_sums) := ⟨rfl, rfl, rfl, by decide +kernel, rfl, by decide +kernel, by decide +kernel⟩
abbrev s_law_products : Stmt := topS 41
abbrev n_law_products : List Str := ["draws", "one", "bottom", "other", "under", "first", "second", "whole_v", "due", "short", "at", "number"]
abbrev p_law_products : List Str := ["draws"]
theorem sc_law_products : FnScope n_law_products p_law_products (defScope s_law_products) := ⟨rfl, rfl, rfl, by decide +kernel, rfl, by decide +kernel, by decide +kernel⟩
abbrev s_law_alone : Stmt := topS 42
abbrev n_law_alone : List Str := ["draws", "other", "under", "place", "at", "often", "bottom", "line", "due", "number"]
abbrev p_law_alone : List Str := ["draws"]
theorem sc_law_alone : FnScope n_law_alone p_law_alone (defScope s_law_alone) := ⟨rfl, rfl, rfl, by decide +kernel, rfl, by decide +kernel, by decide +kernel⟩
abbrev s_law_turned : Stmt := topS 43
abbrev n_law_turned : List Str := ["draws", "one", "bottom", "ahead", "line", "due", "number", "step", "at", "k"]
abbrev p_law_turned : List Str := ["draws"]
theorem sc_law_turned : FnScope n_law_turned p_law_turned (defScope s_law_turned) := ⟨rfl, rfl, rfl, by decide +kernel, rfl, by decide +kernel, by decide +kernel⟩
abbrev s_law : Stmt := topS 44
abbrev n_law : List Str := ["script", "draws", "turn"]
abbrev p_law : List Str := ["script"]
theorem sc_law : FnScope n_law p_law (defScope s_law) := ⟨rfl, rfl, rfl, by decide +kernel, rfl, by decide +kernel, by decide +kernel⟩
def kg_line_of_numbers {α : Type} : List α → List α → List α
  | [], [w0] => [w0]
  | _, _ => []
theorem kr_line_of_numbers : ∀ {vs zs : List V} {us ws : List Value}, Vals vs us → Vals zs ws → Vals (kg_line_of_numbers vs zs) (kg_line_of_numbers us ws)
  | _, _, _, _, .nil, .nil => .nil
  | _, _, _, _, .nil, (.cons b0 .nil) => (.cons b0 .nil)
  | _, _, _, _, .nil, (.cons _ (.cons _ _)) => .nil
  | _, _, _, _, (.cons _ _), .nil => .nil
  | _, _, _, _, (.cons _ _), (.cons _ .nil) => .nil
  | _, _, _, _, (.cons _ _), (.cons _ (.cons _ _)) => .nil
def kg_line_plus_other_one {α : Type} : List α → List α → List α
  | [], [w0, w1] => [w1, w0]
  | _, _ => []
theorem kr_line_plus_other_one : ∀ {vs zs : List V} {us ws : List Value}, Vals vs us → Vals zs ws → Vals (kg_line_plus_other_one vs zs) (kg_line_plus_other_one us ws)
  | _, _, _, _, .nil, .nil => .nil
  | _, _, _, _, .nil, (.cons _ .nil) => .nil
  | _, _, _, _, .nil, (.cons b0 (.cons b1 .nil)) => (.cons b1 (.cons b0 .nil))
  | _, _, _, _, .nil, (.cons _ (.cons _ (.cons _ _))) => .nil
  | _, _, _, _, (.cons _ _), .nil => .nil
  | _, _, _, _, (.cons _ _), (.cons _ .nil) => .nil
  | _, _, _, _, (.cons _ _), (.cons _ (.cons _ .nil)) => .nil
  | _, _, _, _, (.cons _ _), (.cons _ (.cons _ (.cons _ _))) => .nil
def kg_line_by_one_other {α : Type} : List α → List α → List α
  | [], [w0, w1] => [w0, w1]
  | _, _ => []
theorem kr_line_by_one_other : ∀ {vs zs : List V} {us ws : List Value}, Vals vs us → Vals zs ws → Vals (kg_line_by_one_other vs zs) (kg_line_by_one_other us ws)
  | _, _, _, _, .nil, .nil => .nil
  | _, _, _, _, .nil, (.cons _ .nil) => .nil
  | _, _, _, _, .nil, (.cons b0 (.cons b1 .nil)) => (.cons b0 (.cons b1 .nil))
  | _, _, _, _, .nil, (.cons _ (.cons _ (.cons _ _))) => .nil
  | _, _, _, _, (.cons _ _), .nil => .nil
  | _, _, _, _, (.cons _ _), (.cons _ .nil) => .nil
  | _, _, _, _, (.cons _ _), (.cons _ (.cons _ .nil)) => .nil
  | _, _, _, _, (.cons _ _), (.cons _ (.cons _ (.cons _ _))) => .nil
def kg_line_quotient_other_one {α : Type} : List α → List α → List α
  | [], [w0, w1] => [w1, w0]
  | _, _ => []
theorem kr_line_quotient_other_one : ∀ {vs zs : List V} {us ws : List Value}, Vals vs us → Vals zs ws → Vals (kg_line_quotient_other_one vs zs) (kg_line_quotient_other_one us ws)
  | _, _, _, _, .nil, .nil => .nil
  | _, _, _, _, .nil, (.cons _ .nil) => .nil
  | _, _, _, _, .nil, (.cons b0 (.cons b1 .nil)) => (.cons b1 (.cons b0 .nil))
  | _, _, _, _, .nil, (.cons _ (.cons _ (.cons _ _))) => .nil
  | _, _, _, _, (.cons _ _), .nil => .nil
  | _, _, _, _, (.cons _ _), (.cons _ .nil) => .nil
  | _, _, _, _, (.cons _ _), (.cons _ (.cons _ .nil)) => .nil
  | _, _, _, _, (.cons _ _), (.cons _ (.cons _ (.cons _ _))) => .nil
def kg_line_backwards_line {α : Type} : List α → List α → List α
  | [], [w0] => [w0]
  | _, _ => []
theorem kr_line_backwards_line : ∀ {vs zs : List V} {us ws : List Value}, Vals vs us → Vals zs ws → Vals (kg_line_backwards_line vs zs) (kg_line_backwards_line us ws)
  | _, _, _, _, .nil, .nil => .nil
  | _, _, _, _, .nil, (.cons b0 .nil) => (.cons b0 .nil)
  | _, _, _, _, .nil, (.cons _ (.cons _ _)) => .nil
  | _, _, _, _, (.cons _ _), .nil => .nil
  | _, _, _, _, (.cons _ _), (.cons _ .nil) => .nil
  | _, _, _, _, (.cons _ _), (.cons _ (.cons _ _)) => .nil
def kg_one_less_number {α : Type} : List α → List α → List α
  | [], [w0] => [w0]
  | _, _ => []
theorem kr_one_less_number : ∀ {vs zs : List V} {us ws : List Value}, Vals vs us → Vals zs ws → Vals (kg_one_less_number vs zs) (kg_one_less_number us ws)
  | _, _, _, _, .nil, .nil => .nil
  | _, _, _, _, .nil, (.cons b0 .nil) => (.cons b0 .nil)
  | _, _, _, _, .nil, (.cons _ (.cons _ _)) => .nil
  | _, _, _, _, (.cons _ _), .nil => .nil
  | _, _, _, _, (.cons _ _), (.cons _ .nil) => .nil
  | _, _, _, _, (.cons _ _), (.cons _ (.cons _ _)) => .nil
structure Txt (K : PySem.W.Frag) (mg : Str → Option Value) where
  a_lowest : Addr
  d_lowest : FuncData
  f_lowest : Fun K "lowest" "lowest" s_lowest a_lowest d_lowest
  b_lowest : Binds K d_lowest p_lowest []
  g_lowest : mg "lowest" = some (.ref a_lowest)
  a_fraction : Addr
  d_fraction : FuncData
  f_fraction : Fun K "fraction" "fraction" s_fraction a_fraction d_fraction
  b_fraction : Binds K d_fraction p_fraction []
  g_fraction : mg "fraction" = some (.ref a_fraction)
  a_coefficient : Addr
  d_coefficient : FuncData
  f_coefficient : Fun K "coefficient" "coefficient" s_coefficient a_coefficient d_coefficient
  b_coefficient : Binds K d_coefficient p_coefficient []
  g_coefficient : mg "coefficient" = some (.ref a_coefficient)
  a_cut : Addr
  d_cut : FuncData
  f_cut : Fun K "cut" "cut" s_cut a_cut d_cut
  b_cut : Binds K d_cut p_cut []
  g_cut : mg "cut" = some (.ref a_cut)
  a_whole : Addr
  d_whole : FuncData
  f_whole : Fun K "whole" "whole" s_whole a_whole d_whole
  b_whole : Binds K d_whole p_whole []
  g_whole : mg "whole" = some (.ref a_whole)
  a_by_bottom : Addr
  d_by_bottom : FuncData
  f_by_bottom : Fun K "by_bottom" "by_bottom" s_by_bottom a_by_bottom d_by_bottom
  b_by_bottom : Binds K d_by_bottom p_by_bottom []
  g_by_bottom : mg "by_bottom" = some (.ref a_by_bottom)
  a_line_of : Addr
  d_line_of : FuncData
  f_line_of : Fun K "line_of" "line_of" s_line_of a_line_of d_line_of
  b_line_of : Binds K d_line_of p_line_of []
  g_line_of : mg "line_of" = some (.ref a_line_of)
  a_summed : Addr
  d_summed : FuncData
  f_summed : Fun K "summed" "summed" s_summed a_summed d_summed
  b_summed : Binds K d_summed p_summed []
  g_summed : mg "summed" = some (.ref a_summed)
  a_times : Addr
  d_times : FuncData
  f_times : Fun K "times" "times" s_times a_times d_times
  b_times : Binds K d_times p_times []
  g_times : mg "times" = some (.ref a_times)
  a_scaled : Addr
  d_scaled : FuncData
  f_scaled : Fun K "scaled" "scaled" s_scaled a_scaled d_scaled
  b_scaled : Binds K d_scaled p_scaled []
  g_scaled : mg "scaled" = some (.ref a_scaled)
  a_exact : Addr
  d_exact : FuncData
  f_exact : Fun K "exact" "exact" s_exact a_exact d_exact
  b_exact : Binds K d_exact p_exact []
  g_exact : mg "exact" = some (.ref a_exact)
  a_content : Addr
  d_content : FuncData
  f_content : Fun K "content" "content" s_content a_content d_content
  b_content : Binds K d_content p_content []
  g_content : mg "content" = some (.ref a_content)
  a_primitive : Addr
  d_primitive : FuncData
  f_primitive : Fun K "primitive" "primitive" s_primitive a_primitive d_primitive
  b_primitive : Binds K d_primitive p_primitive []
  g_primitive : mg "primitive" = some (.ref a_primitive)
  a_line_plus : Addr
  d_line_plus : FuncData
  f_line_plus : Fun K "line_plus" "line_plus" s_line_plus a_line_plus d_line_plus
  b_line_plus : Binds K d_line_plus p_line_plus []
  g_line_plus : mg "line_plus" = some (.ref a_line_plus)
  a_line_by : Addr
  d_line_by : FuncData
  f_line_by : Fun K "line_by" "line_by" s_line_by a_line_by d_line_by
  b_line_by : Binds K d_line_by p_line_by []
  g_line_by : mg "line_by" = some (.ref a_line_by)
  a_line_quotient : Addr
  d_line_quotient : FuncData
  f_line_quotient : Fun K "line_quotient" "line_quotient" s_line_quotient a_line_quotient d_line_quotient
  b_line_quotient : Binds K d_line_quotient p_line_quotient []
  g_line_quotient : mg "line_quotient" = some (.ref a_line_quotient)
  a_line_backwards : Addr
  d_line_backwards : FuncData
  f_line_backwards : Fun K "line_backwards" "line_backwards" s_line_backwards a_line_backwards d_line_backwards
  b_line_backwards : Binds K d_line_backwards p_line_backwards []
  g_line_backwards : mg "line_backwards" = some (.ref a_line_backwards)
  a_one_less : Addr
  d_one_less : FuncData
  f_one_less : Fun K "one_less" "one_less" s_one_less a_one_less d_one_less
  b_one_less : Binds K d_one_less p_one_less []
  g_one_less : mg "one_less" = some (.ref a_one_less)
  a_law_source : Addr
  d_law_source : FuncData
  f_law_source : Fun K "_law_source" "_law_source" s_law_source a_law_source d_law_source
  b_law_source : Binds K d_law_source p_law_source []
  g_law_source : mg "_law_source" = some (.ref a_law_source)
  a_law_any : Addr
  d_law_any : FuncData
  f_law_any : Fun K "_law_any" "_law_any" s_law_any a_law_any d_law_any
  b_law_any : Binds K d_law_any p_law_any []
  g_law_any : mg "_law_any" = some (.ref a_law_any)
  a_law_of : Addr
  d_law_of : FuncData
  f_law_of : Fun K "_law_of" "_law_of" s_law_of a_law_of d_law_of
  b_law_of : Binds K d_law_of p_law_of []
  g_law_of : mg "_law_of" = some (.ref a_law_of)
  a_law_near : Addr
  d_law_near : FuncData
  f_law_near : Fun K "_law_near" "_law_near" s_law_near a_law_near d_law_near
  b_law_near : Binds K d_law_near p_law_near []
  g_law_near : mg "_law_near" = some (.ref a_law_near)
  a_law_same : Addr
  d_law_same : FuncData
  f_law_same : Fun K "_law_same" "_law_same" s_law_same a_law_same d_law_same
  b_law_same : Binds K d_law_same p_law_same []
  g_law_same : mg "_law_same" = some (.ref a_law_same)
  a_law_common : Addr
  d_law_common : FuncData
  f_law_common : Fun K "_law_common" "_law_common" s_law_common a_law_common d_law_common
  b_law_common : Binds K d_law_common p_law_common []
  g_law_common : mg "_law_common" = some (.ref a_law_common)
  a_law_pair : Addr
  d_law_pair : FuncData
  f_law_pair : Fun K "_law_pair" "_law_pair" s_law_pair a_law_pair d_law_pair
  b_law_pair : Binds K d_law_pair p_law_pair []
  g_law_pair : mg "_law_pair" = some (.ref a_law_pair)
  a_law_part : Addr
  d_law_part : FuncData
  f_law_part : Fun K "_law_part" "_law_part" s_law_part a_law_part d_law_part
  b_law_part : Binds K d_law_part p_law_part []
  g_law_part : mg "_law_part" = some (.ref a_law_part)
  a_law_cut : Addr
  d_law_cut : FuncData
  f_law_cut : Fun K "_law_cut" "_law_cut" s_law_cut a_law_cut d_law_cut
  b_law_cut : Binds K d_law_cut p_law_cut []
  g_law_cut : mg "_law_cut" = some (.ref a_law_cut)
  a_law_line : Addr
  d_law_line : FuncData
  f_law_line : Fun K "_law_line" "_law_line" s_law_line a_law_line d_law_line
  b_law_line : Binds K d_law_line p_law_line []
  g_law_line : mg "_law_line" = some (.ref a_law_line)
  a_law_times : Addr
  d_law_times : FuncData
  f_law_times : Fun K "_law_times" "_law_times" s_law_times a_law_times d_law_times
  b_law_times : Binds K d_law_times p_law_times []
  g_law_times : mg "_law_times" = some (.ref a_law_times)
  a_law_sum : Addr
  d_law_sum : FuncData
  f_law_sum : Fun K "_law_sum" "_law_sum" s_law_sum a_law_sum d_law_sum
  b_law_sum : Binds K d_law_sum p_law_sum []
  g_law_sum : mg "_law_sum" = some (.ref a_law_sum)
  a_law_many : Addr
  d_law_many : FuncData
  f_law_many : Fun K "_law_many" "_law_many" s_law_many a_law_many d_law_many
  b_law_many : Binds K d_law_many p_law_many []
  g_law_many : mg "_law_many" = some (.ref a_law_many)
  a_law_whole : Addr
  d_law_whole : FuncData
  f_law_whole : Fun K "_law_whole" "_law_whole" s_law_whole a_law_whole d_law_whole
  b_law_whole : Binds K d_law_whole p_law_whole []
  g_law_whole : mg "_law_whole" = some (.ref a_law_whole)
  a_law_bottom : Addr
  d_law_bottom : FuncData
  f_law_bottom : Fun K "_law_bottom" "_law_bottom" s_law_bottom a_law_bottom d_law_bottom
  b_law_bottom : Binds K d_law_bottom p_law_bottom []
  g_law_bottom : mg "_law_bottom" = some (.ref a_law_bottom)
  a_law_told : Addr
  d_law_told : FuncData
  f_law_told : Fun K "_law_told" "_law_told" s_law_told a_law_told d_law_told
  b_law_told : Binds K d_law_told p_law_told []
  g_law_told : mg "_law_told" = some (.ref a_law_told)
  a_law_taken : Addr
  d_law_taken : FuncData
  f_law_taken : Fun K "_law_taken" "_law_taken" s_law_taken a_law_taken d_law_taken
  b_law_taken : Binds K d_law_taken p_law_taken []
  g_law_taken : mg "_law_taken" = some (.ref a_law_taken)
  a_law_sums : Addr
  d_law_sums : FuncData
  f_law_sums : Fun K "_law_sums" "_law_sums" s_law_sums a_law_sums d_law_sums
  b_law_sums : Binds K d_law_sums p_law_sums []
  g_law_sums : mg "_law_sums" = some (.ref a_law_sums)
  a_law_products : Addr
  d_law_products : FuncData
  f_law_products : Fun K "_law_products" "_law_products" s_law_products a_law_products d_law_products
  b_law_products : Binds K d_law_products p_law_products []
  g_law_products : mg "_law_products" = some (.ref a_law_products)
  a_law_alone : Addr
  d_law_alone : FuncData
  f_law_alone : Fun K "_law_alone" "_law_alone" s_law_alone a_law_alone d_law_alone
  b_law_alone : Binds K d_law_alone p_law_alone []
  g_law_alone : mg "_law_alone" = some (.ref a_law_alone)
  a_law_turned : Addr
  d_law_turned : FuncData
  f_law_turned : Fun K "_law_turned" "_law_turned" s_law_turned a_law_turned d_law_turned
  b_law_turned : Binds K d_law_turned p_law_turned []
  g_law_turned : mg "_law_turned" = some (.ref a_law_turned)
  a_law : Addr
  d_law : FuncData
  f_law : Fun K "law" "law" s_law a_law d_law
  b_law : Binds K d_law p_law []
  g_law : mg "law" = some (.ref a_law)
  kb_line_of_numbers : KBinds K d_line_of p_line_of ["numbers"] kg_line_of_numbers kg_line_of_numbers
  kb_line_plus_other_one : KBinds K d_line_plus p_line_plus ["other", "one"] kg_line_plus_other_one kg_line_plus_other_one
  kb_line_by_one_other : KBinds K d_line_by p_line_by ["one", "other"] kg_line_by_one_other kg_line_by_one_other
  kb_line_quotient_other_one : KBinds K d_line_quotient p_line_quotient ["other", "one"] kg_line_quotient_other_one kg_line_quotient_other_one
  kb_line_backwards_line : KBinds K d_line_backwards p_line_backwards ["line"] kg_line_backwards_line kg_line_backwards_line
  kb_one_less_number : KBinds K d_one_less p_one_less ["number"] kg_one_less_number kg_one_less_number
  z_len : mg "len" = none
  z_isinstance : mg "isinstance" = none
  z_int : mg "int" = none
  z_tuple : mg "tuple" = none
  z_max : mg "max" = none
  z_enumerate : mg "enumerate" = none
  z_list : mg "list" = none
  z_range : mg "range" = none
  z_divmod : mg "divmod" = none
  z_abs : mg "abs" = none
  z_bool : mg "bool" = none
  z_str : mg "str" = none
  z_min : mg "min" = none
  g_gcd : mg "gcd" = some (.builtin "math.gcd")
end Al

set_option Elab.async false
set_option linter.all false
set_option maxRecDepth 100000
set_option maxHeartbeats 4000000
set_option exponentiation.threshold 20000
open PySem PySem.Spec PyProof.Rows L2 Al
local macro_rules | `(tactic| walk_at "tk") => `(tactic| first
  | assumption
  | exact TK.of (by assumption)
  | exact Nw.tk (by assumption)
  | exact Mu.tk (by assumption) (by assumption))
local macro_rules | `(tactic| walk_at "tp") => `(tactic| first
  | assumption
  | exact Tp.new (by assumption)
  | exact Tp.from (by walk_at "tk") (by walk_at "tp"))
local macro_rules | `(tactic| walk_at "fr") => `(tactic| first
  | assumption
  | exact Fr.from (by walk_at "tk") (by walk_at "fr"))
local macro_rules | `(tactic| walk_at "ls") => `(tactic| first
  | assumption
  | exact Nw.at (by assumption)
  | exact Mu.at (by assumption)
  | exact Same.from (by assumption) (by walk_at "ls")
  | exact Same.from (Nw.same (by assumption)) (by walk_at "ls"))
local macro_rules | `(tactic| walk_at "same") => `(tactic| first
  | exact Same.refl _
  | assumption
  | (refine' Same.trans ?_ (by assumption); walk_at "same")
  | (refine' Same.trans ?_ (Nw.same (by assumption)); walk_at "same"))
local macro_rules | `(tactic| walk_at "s0") => `(tactic| first
  | (with_reducible refine' r_seq ?_)
  | (with_reducible refine' r_set ?_)
  | (with_reducible refine' r_ret ?_)
  | (with_reducible refine' r_next ?_)
  | (with_reducible refine' r_forL ?_)
  | (with_reducible refine' r_forR1 ?_)
  | (with_reducible refine' r_forR2 ?_)
  | (with_reducible refine' r_lcL ?_)
  | (with_reducible refine' r_lcR1 ?_)
  | (with_reducible refine' r_lcR2 ?_)
  | (with_reducible refine' r_yesT ?_)
  | (with_reducible refine' r_drop ?_)
  | (with_reducible refine' r_par ?_)
  | (with_reducible refine' r_two ?_)
  | (with_reducible refine' r_asg ?_)
  | ((with_reducible refine' r_var ?h ?q); (case h => rfl))
  | (with_reducible refine' r_c ?_)
  | (with_reducible refine' r_op ?_)
  | (with_reducible refine' r_un ?_)
  | (with_reducible refine' r_I0 ?_)
  | (with_reducible refine' r_I ?_ ?_)
  | (with_reducible refine' r_U ?_)
  | (with_reducible refine' r_nil ?_)
  | (with_reducible refine' r_cons ?_)
  | (with_reducible refine' r_tup ?_)
  | (with_reducible refine' r_lst ?_)
  | (with_reducible refine' r_test ?_)
  | (with_reducible refine' r_tB ?_)
  | (with_reducible refine' r_tr ?_)
  | (with_reducible refine' r_and ?_)
  | (with_reducible refine' r_or ?_)
  | (with_reducible refine' r_not ?_)
  | (with_reducible refine' r_ifE ?_)
  | (with_reducible refine' r_CB ?_)
  | (with_reducible refine' r_call ?_)
  | (with_reducible refine' r_callK ?_)
  | (with_reducible refine' r_gcd ?_)
  | (with_reducible refine' r_int ?_)
  | (with_reducible refine' r_intB ?_)
  | (with_reducible refine' r_abs ?_)
  | (with_reducible refine' r_max2 ?_)
  | (with_reducible refine' r_min2 ?_)
  | (with_reducible refine' r_isNo ?_)
  | (with_reducible refine' r_notNo ?_)
  | (with_reducible refine' r_isBl ?_)
  | (with_reducible refine' r_isi_it ?_)
  | (with_reducible refine' r_isi_ib ?_)
  | (with_reducible refine' r_isi_ii ?_)
  | (with_reducible refine' r_isi_bt ?_)
  | (with_reducible refine' r_isi_bb ?_)
  | (with_reducible refine' r_isi_nt ?_)
  | (with_reducible refine' r_isi_st ?_)
  | (with_reducible refine' r_isi_sb ?_)
  | (with_reducible refine' r_isi_si ?_)
  | (with_reducible refine' r_isi_ss ?_)
  | ((with_reducible refine' r_isi_tt ?g ?q); (case g => walk_at "tp"))
  | ((with_reducible refine' r_lenT ?g ?q); (case g => exact Tp.sq (by walk_at "tp")))
  | ((with_reducible refine' r_lenL ?g ?q); (case g => exact SqL.of (by walk_at "ls")))
  | (with_reducible refine' r_BMa ?_)
  | (with_reducible refine' r_BM0 ?_)
  | ((with_reducible refine' r_lm ?g ?q); (case g => exact SqL.of (by walk_at "ls")))
  | (with_reducible refine' r_gSub ?_)
  | (with_reducible refine' r_gCons ?_)
  | (with_reducible refine' r_gNil ?_)
  | (with_reducible refine' r_gName ?_)
  | ((with_reducible refine' r_gTup ?g ?h ?q); (case g => exact Tp.sq (by walk_at "tp")); (case h => rfl))
  | (with_reducible refine' r_ch ?_)
  | (with_reducible refine' r_andV ?_)
  | (with_reducible refine' r_orV ?_)
  | (with_reducible refine' r_notV ?_)
  | (with_reducible refine' r_sl ?_)
  | (with_reducible refine' r_noPart ?_)
  | (with_reducible refine' r_part ?_)
  | (with_reducible refine' r_pa ?_)
  | (with_reducible refine' r_tRev ?_)
  | (with_reducible refine' r_eqI ?_)
  | (with_reducible refine' r_neI ?_)
  | (with_reducible refine' r_eq rfl ?_)
  | (with_reducible refine' r_ne rfl ?_)
  | (with_reducible refine' iteT ?_)
  | (with_reducible refine' iteF ?_)
  | (with_reducible refine' r_nF ?_)
  | (with_reducible refine' r_nT ?_)
  | ((with_reducible refine' r_ixT ?g ?h ?q); (case g => exact Tp.sq (by walk_at "tp")); (case h => rfl))
  | ((with_reducible refine' r_ixL ?g ?h ?q); (case g => exact SqL.of (by walk_at "ls")); (case h => rfl)))
local macro_rules | `(tactic| walk_at "s") => `(tactic| first
  | walk_at "s0"
  | (with_reducible refine' r_if ?_))
local macro_rules | `(tactic| walk_at "g") => `(tactic| repeat walk_at "s0")
local macro_rules | `(tactic| walk_at "go") => `(tactic| repeat walk_at "s")
local macro_rules | `(tactic| walk_at "go0") => `(tactic| ((try dsimp only [cxOf]); repeat walk_at "s"))
local macro_rules | `(tactic| walk_at "im") => `(tactic| first
  | exact mulC ⟨by decide, by decide⟩
  | exact mulC' ⟨by decide, by decide⟩
  | exact mulB (by assumption) (by assumption)
  | (show (0 : Int) < _; decide)
  | exact powC (by decide) (by decide) (by decide)
  | exact divC (by decide) (by decide +kernel) _)

local macro_rules | `(tactic| walk_at "s0") => `(tactic| first
  | (with_reducible refine' r_forE ?_)
  | (with_reducible refine' r_forR3 ?_)
  | (with_reducible refine' r_tRevT ?_)
  | ((with_reducible refine' r_isi_ti ?g ?q); (case g => walk_at "tp"))
  | ((with_reducible refine' r_isi_tb ?g ?q); (case g => walk_at "tp"))
  | (with_reducible refine' r_isi_nb ?_)
  | (with_reducible refine' r_isi_nS ?_)
  | (with_reducible refine' r_isi_is ?_))
local macro_rules | `(tactic| walk_at "s0") => `(tactic| first
  | (with_reducible refine' r_break ?_))

namespace Al
section
variable {P : Program} {w : World} {K : PySem.W.Frag} {mg : Str → Option Value} {base : Heap}
/-- handed back: a pair -/
def RetFr (K : PySem.W.Frag) (H : Hp) (Q : VK) (p : Int × Int) : Prop := ∀ v H', Same H H' → Fr K H' v p → Q v H'
def RetCq (K : PySem.W.Frag) (H : Hp) (Q : VK) (q : Rat) : Prop := ∀ v H', Same H H' → Cq K H' v q → Q v H'
def RetLn (K : PySem.W.Frag) (H : Hp) (Q : VK) (qs : List Rat) : Prop := ∀ v H', Same H H' → LnV K H' v qs → Q v H'
/-- handed back: a new list of ints -/
def RetLs (H : Hp) (Q : VK) (C : List Int → Prop) : Prop := ∀ l ws H', H l = none → Same H H' → H' l = some (.lst (ws.map V.int)) → C ws → Q (.ref l) H'
def sp_lowest (K : PySem.W.Frag) : Sp := fun vs H Q _ => ∃ a b : Int, vs = [.int a, .int b] ∧ b ≠ 0 ∧ b.natAbs < 2 ^ 8000 ∧ RetFr K H Q (lo a b)
theorem c_lowest {a b : Int} {H : Hp} {Q : VK} {E : XK} {vs : List V} (e : vs = [.int a, .int b]) (h0 : b ≠ 0) (h2 : b.natAbs < 2 ^ 8000) (q : RetFr K H Q (lo a b)) : sp_lowest K vs H Q E := ⟨a, b, e, h0, h2, q⟩
theorem ok_lowest (T : Txt K mg) : FnOk P w K mg base CX0 1 T.a_lowest T.d_lowest p_lowest (sp_lowest K) := by
  refine T.f_lowest.ok sc_lowest (fun vs H Q E h => ?_) (fun cdv A outer s H vs Q E hr h => ?_)
  · obtain ⟨a, b, rfl, _⟩ := h; rfl
  · obtain ⟨a, b, rfl, hb, sb, q⟩ := h
    refine ⟨_, (pss_cons (ps_set (i := 2) sc_lowest.nd rfl (.inl rfl) (pe_callBfun cr_gcd (by rfl) T.g_gcd (pa_cons (pv 0) (pa_cons (pv 1) pa_nil))))
      (pss_cons (ps_if (pt_cmpR op_lt (pv 1) pe_int (nomark _))
        (pss_one (ps_set (i := 2) sc_lowest.nd rfl (.inl rfl) (pe_un un_neg (pv 2)))) pss_nil)
      (pss_one (ps_ret (pe_tup (pa_cons (pe_op op_fdivZ (pv 0) (pv 2)) (pa_cons (pe_op op_fdivZ (pv 1) (pv 2)) pa_nil))))))), ?_⟩
    have g1 := gcd_pos' (a := a) hb
    have g2 := gcd_lt (a := a) hb sb
    walk_at "go0"
    refine r_dec (fun h => ?_) (fun h => ?_)
    · walk_at "go"
      · refine r_new (Nat.le_of_ble_eq_true rfl) fun p H2 np => ?_
        refine q _ _ np.same ⟨p, rfl, ?_⟩
        rw [lo_neg h]
        exact Tp.new np
      all_goals exact ⟨by omega, by rw [Int.natAbs_neg, Int.natAbs_natCast]; exact g2⟩
    · walk_at "go"
      · refine r_new (Nat.le_of_ble_eq_true rfl) fun p H2 np => ?_
        refine q _ _ np.same ⟨p, rfl, ?_⟩
        rw [lo_pos h]
        exact Tp.new np
      all_goals exact ⟨by omega, by rw [Int.natAbs_natCast]; exact g2⟩
theorem ok_fraction (T : Txt K mg) : FnOk P w K mg base CX0 2 T.a_fraction T.d_fraction p_fraction (sp_lowest K) := by
  have G_lowest : FnOk P w K mg base CX0 1 T.a_lowest T.d_lowest p_lowest (sp_lowest K) := ok_lowest T
  refine T.f_fraction.ok sc_fraction (fun vs H Q E h => ?_) (fun cdv A outer s H vs Q E hr h => ?_)
  · obtain ⟨a, b, rfl, _⟩ := h; rfl
  · obtain ⟨a, b, rfl, hb, sb, q⟩ := h
    refine ⟨_, (pss_one (ps_ret (pe_call G_lowest (hr.mono (by omega)) (by rfl) T.g_lowest T.f_lowest.kp T.b_lowest .nil pass0 (pa_cons (pv 0) (pa_cons (pv 1) pa_nil))))), ?_⟩
    walk_at "go0"
    exact c_lowest rfl hb sb q
/-- a pair in lowest terms as a coefficient -/
def sp_coef (K : PySem.W.Frag) : Sp := fun vs H Q _ => ∃ a b : Int, vs = [.int a, .int b] ∧ b ≠ 0 ∧ b.natAbs < 2 ^ 8000 ∧ RetCq K H Q (Rat.divInt a b)
theorem c_coef {a b : Int} {H : Hp} {Q : VK} {E : XK} {vs : List V} (e : vs = [.int a, .int b]) (h0 : b ≠ 0) (h2 : b.natAbs < 2 ^ 8000) (q : RetCq K H Q (Rat.divInt a b)) : sp_coef K vs H Q E := ⟨a, b, e, h0, h2, q⟩
theorem ok_coefficient (T : Txt K mg) : FnOk P w K mg base CX0 3 T.a_coefficient T.d_coefficient p_coefficient (sp_coef K) := by
  have G_fraction : FnOk P w K mg base CX0 2 T.a_fraction T.d_fraction p_fraction (sp_lowest K) := ok_fraction T
  refine T.f_coefficient.ok sc_coefficient (fun vs H Q E h => ?_) (fun cdv A outer s H vs Q E hr h => ?_)
  · obtain ⟨a, b, rfl, _⟩ := h; rfl
  · obtain ⟨a, b, rfl, hb, sb, q⟩ := h
    refine ⟨_, (pss_cons (ps_set (i := 2) sc_coefficient.nd rfl (.inl rfl) (pe_call G_fraction (hr.mono (by omega)) (by rfl) T.g_fraction T.f_fraction.kp T.b_fraction .nil pass0 (pa_cons (pv 0) (pa_cons (pv 1) pa_nil))))
      (pss_one (ps_ret (pe_ifExp (pt_cmpR op_eq (pe_ix (ix_sqK K) (pv 2) pe_int (fun _ _ => rfl)) pe_int (nomark _)) (pe_ix (ix_sqK K) (pv 2) pe_int (fun _ _ => rfl)) (pv 2))))), ?_⟩
    walk_at "go0"
    refine c_lowest rfl hb sb fun v H1 s1 F => ?_
    rw [lo_rat hb] at F
    obtain ⟨t, rfl, F⟩ := F
    walk_at "go"
    refine r_dec (fun e => ?_) (fun e => ?_)
    · walk_at "go"
      exact q _ _ s1 (.inl ⟨by omega, rfl⟩)
    · walk_at "go"
      exact q _ _ s1 (.inr ⟨by omega, t, rfl, F⟩)
def sp_cut (K : PySem.W.Frag) : Sp := fun vs H Q _ => ∃ p xs, vs = [.ref p] ∧ SqL K H p xs ∧ (∀ x ∈ xs, El K H x) ∧ xs.length ≤ 100000 ∧ ∀ e l H', IsCut xs e → Nw l (.lst (xs.take e)) H H' → Q (.ref l) H'
theorem c_cut {p : Addr} {xs : List V} {H : Hp} {Q : VK} {E : XK} {vs : List V} (e : vs = [.ref p]) (h : SqL K H p xs) (he : ∀ x ∈ xs, El K H x) (hl : xs.length ≤ 100000) (q : ∀ e l H', IsCut xs e → Nw l (.lst (xs.take e)) H H' → Q (.ref l) H') : sp_cut K vs H Q E := ⟨p, xs, e, h, he, hl, q⟩
theorem ok_cut (T : Txt K mg) : FnOk P w K mg base CX0 1 T.a_cut T.d_cut p_cut (sp_cut K) := by
  refine T.f_cut.ok sc_cut (fun vs H Q E h => ?_) (fun cdv A outer s H vs Q E hr h => ?_)
  · obtain ⟨p, xs, rfl, _⟩ := h; rfl
  · obtain ⟨p, xs, rfl, hs, he, hl, q⟩ := h
    refine ⟨_, (pss_cons (ps_set (i := 1) sc_cut.nd rfl (.inl rfl) (pe_callB (cr_lenK K) (by rfl) T.z_len (by decide +kernel) (pa_cons (pv 0) pa_nil)))
      (pss_cons (ps_while PassesOwn.never (PW.pt (pw_and (pt_cmpR op_gt (pv 1) pe_int (nomark _)) (pw_and1 (pt_cmpR (op_eqDK K hr.units) (pe_ix (ix_sqK K) (pv 0) (pe_op op_sub (pv 1) pe_int) (fun _ _ => rfl)) pe_int (nomark _)))))
        (pss_one (ps_set (i := 1) sc_cut.nd rfl (.inl rfl) (pe_op op_sub (pv 1) pe_int))))
      (pss_one (ps_ret (pe_slice (sl_listK K) (pv 0) po_none (po_some (pv 1))))))), ?_⟩
    walk_at "go0"
    refine r_lenL hs ?_
    walk_at "go"
    refine l_while (fun m σ' H' => H = H' ∧ σ' = [some (.ref p), some (.int (m : Int))] ∧ m ≤ xs.length ∧ ∀ (i : Nat) x, m ≤ i → xs[i]? = some x → x = .int 0) (fun σ' H' => H = H' ∧ ∃ e : Nat, σ' = [some (.ref p), some (.int (e : Int))] ∧ IsCut xs e)
      (m0 := xs.length) ⟨rfl, rfl, Nat.le_refl _, fun i x hi e => by rw [List.getElem?_eq_none hi] at e; cases e⟩ (fun nx hnx m σ' H' hW => ?_) fun σ' H' hP => ?_
    · obtain ⟨rfl, rfl, hm, hz⟩ := hW
      walk_at "go"
      refine r_dec (fun hc => ?_) (fun hc => ?_)
      · obtain ⟨n, rfl⟩ : ∃ n, m = n + 1 := ⟨m - 1, by omega⟩
        have hn : n < xs.length := by omega
        have en : xs[n]? = some xs[n] := List.getElem?_eq_getElem hn
        walk_at "go"
        refine r_ixL (v := xs[n]) hs (by rw [show ((n + 1 : Nat) : Int) - 1 = (n : Int) by omega]; exact atI_nat en) ?_
        walk_at "go"
        rcases he xs[n] (List.getElem_mem hn) with ⟨i, ei⟩ | ⟨f, hf⟩
        · rw [ei]
          refine r_eqD0 ?_
          walk_at "go"
          refine r_dec (fun h0 => ?_) (fun h0 => ?_)
          · refine ⟨_, fun _ _ h => h, ?_⟩
            walk_at "go"
            refine ⟨n, by omega, rfl, by rw [show ((n + 1 : Nat) : Int) - 1 = (n : Int) by omega]; rfl, by omega, fun j x hj ex => ?_⟩
            by_cases hjn : j = n
            · subst hjn
              cases en.symm.trans ex
              rw [ei, h0]
            · exact hz j x (by omega) ex
          · refine hnx _ _ ⟨rfl, n + 1, rfl, hm, hz, .inr ⟨_, en, ?_⟩⟩
            rw [ei]
            intro z
            injection z with z
            exact h0 z
        · refine r_eqDF hf ?_
          walk_at "go"
          refine hnx _ _ ⟨rfl, n + 1, rfl, hm, hz, .inr ⟨_, en, ?_⟩⟩
          obtain ⟨t, e, _⟩ := hf
          rw [e]
          intro z
          cases z
      · have hm0 : m = 0 := by omega
        subst hm0
        walk_at "go"
        exact hnx _ _ ⟨rfl, 0, rfl, Nat.zero_le _, hz, .inl rfl⟩
    · obtain ⟨rfl, e, rfl, hc⟩ := hP
      walk_at "go"
      refine r_slL hs fun l H' nl => ?_
      rw [cut_to (by omega) (by have := hc.1; omega)] at nl
      exact q _ _ _ hc nl
end
end Al

set_option Elab.async false
set_option linter.all false
set_option maxRecDepth 100000
set_option maxHeartbeats 4000000
set_option exponentiation.threshold 20000
open PySem PySem.Spec PyProof.Rows L2 Al
namespace Al
section
variable {P : Program} {w : World} {K : PySem.W.Frag} {mg : Str → Option Value} {base : Heap}
def sp_lineof (K : PySem.W.Frag) : Sp := fun vs H Q _ => ∃ a xs qs, vs = [.ref a] ∧ Sq K H a xs ∧ CR K H xs qs ∧ xs.length ≤ 1000 ∧ RetLn K H Q (cutR qs)
theorem c_lineof {a : Addr} {xs : List V} {qs : List Rat} {H : Hp} {Q : VK} {E : XK} {vs : List V} (e : vs = [.ref a]) (h : Sq K H a xs) (hc : CR K H xs qs) (hl : xs.length ≤ 1000) (q : RetLn K H Q (cutR qs)) : sp_lineof K vs H Q E := ⟨a, xs, qs, e, h, hc, hl, q⟩
theorem ok_line_of (T : Txt K mg) : FnOk P w K mg base CX0 4 T.a_line_of T.d_line_of p_line_of (sp_lineof K) := by
  have G_coefficient : FnOk P w K mg base CX0 3 T.a_coefficient T.d_coefficient p_coefficient (sp_coef K) := ok_coefficient T
  have G_cut : FnOk P w K mg base CX0 1 T.a_cut T.d_cut p_cut (sp_cut K) := ok_cut T
  refine T.f_line_of.ok sc_line_of (fun vs H Q E h => ?_) (fun cdv A outer s H vs Q E hr h => ?_)
  · obtain ⟨a, xs, qs, rfl, _⟩ := h; rfl
  · obtain ⟨a, xs, qs, rfl, hs, hc, hl, k⟩ := h
    refine ⟨_, (pss_cons (ps_set (i := 1) sc_line_of.nd rfl (.inl rfl) (pe_lst pa_nil))
      (pss_cons (ps_for PassesOwn.never rfl (pi_seqVK K (pv 0)) (pg_name (i := 2) sc_line_of.nd rfl (.inl rfl))
        (pss_one (ps_expr (pe_bm PySem.F.plainAttrs_list PySem.F.slot_list_append PySem.F.type_list_append mt_append (pv 1) (pa_cons (pe_ifExp (pt_val (pe_callB (cr_isiK K) (by rfl) T.z_isinstance (by decide +kernel) (pa_cons (pv 2) (pa_cons (pe_bltn (v := .ty "int") (u := .type "int") (by rfl) T.z_int (by decide +kernel) rfl) pa_nil)))) (pv 2) (pe_call G_coefficient (hr.mono (by omega)) (by rfl) T.g_coefficient T.f_coefficient.kp T.b_coefficient .nil pass0 (pa_cons (pe_ix (ix_sqK K) (pv 2) pe_int (fun _ _ => rfl)) (pa_cons (pe_ix (ix_sqK K) (pv 2) pe_int (fun _ _ => rfl)) pa_nil)))) pa_nil)))))
      (pss_one (ps_ret (pe_callTy (cr_tupleK K) (by rfl) T.z_tuple (by decide +kernel) (pa_cons (pe_call G_cut (hr.mono (by omega)) (by rfl) T.g_cut T.f_cut.kp T.b_cut .nil pass0 (pa_cons (pv 1) pa_nil)) pa_nil)))))), ?_⟩
    walk_at "go0"
    refine r_new (Nat.le_of_ble_eq_true rfl) fun D H1 n1 => ?_
    walk_at "go"
    refine l_seq0 (H0 := H) rfl hs (fun i σ' H' => ∃ y vs, σ' = [some (.ref a), some (.ref D), y] ∧ Same H H' ∧ H' D = some (.lst vs) ∧ CL K H' vs (qs.take i)) ⟨_, _, rfl, n1.same, n1.at, CL.nil⟩ (fun i σ' H' p => ?_) (fun i x σ' H' e p => ?_) fun σ' H' p => ?_
    · obtain ⟨_, _, _, h, _⟩ := p
      exact h
    · obtain ⟨y, ws, rfl, p1, p2, p3⟩ := p
      obtain ⟨q, e1, e2⟩ := hc.2 i x e
      have hi : i < xs.length := (List.getElem?_eq_some_iff.mp e).1
      have hw : ws.length ≤ 1000 := by
        rw [p3.1, List.length_take]
        omega
      have et : qs.take (i + 1) = qs.take i ++ [q] := by rw [List.take_add_one, e1]; rfl
      rcases e2.keep (TK.of p1) with ⟨z, rfl, hz⟩ | ⟨b, c, ⟨t, rfl, ht⟩, c0, cb, hz⟩
      · walk_at "go"
        refine r_app p2 (Nat.le_trans hw (by decide)) fun H2 mu => ?_
        refine ⟨_, _, rfl, mu.same0 p1 n1.1, mu.at, ?_⟩
        rw [et]
        exact (p3.keep (mu.tk p2)).snoc (by rw [hz]; exact Cq.int z)
      · walk_at "go"
        refine c_coef rfl c0 cb fun v H2 s2 cv => ?_
        walk_at "go"
        refine r_app (s2 _ _ p2) (Nat.le_trans hw (by decide)) fun H3 mu => ?_
        refine ⟨_, _, rfl, mu.same0 (p1.trans s2) n1.1, mu.at, ?_⟩
        rw [et]
        exact ((p3.keep (TK.of s2)).keep (mu.tk (s2 _ _ p2))).snoc (by rw [hz]; exact cv.keep (mu.tk (s2 _ _ p2)))
    · obtain ⟨y, ws, rfl, p1, p2, p3⟩ := p
      rw [hc.1, List.take_length] at p3
      walk_at "go"
      refine c_cut rfl (SqL.of p2) p3.el (by rw [p3.1, ← hc.1]; omega) fun e l H2 he nl => ?_
      walk_at "go"
      refine r_tupleL (SqL.of nl.at) fun u H3 nu => ?_
      exact k _ _ ((p1.trans nl.same).trans nu.same) ⟨u, _, rfl, Tp.new nu, ((p3.keep nl.tk).keep nu.tk).cut he⟩
def sp_bottom (K : PySem.W.Frag) : Sp := fun vs H Q _ => ∃ (p : Addr) (ns : List Int) (b : Int), vs = [.ref p, .int b] ∧ SqL K H p (ns.map V.int) ∧ b ≠ 0 ∧ b.natAbs < 2 ^ 8000 ∧ ns.length ≤ 1000 ∧ RetLn K H Q (Ln ns b)
theorem c_bottom {p : Addr} {ns : List Int} {b : Int} {H : Hp} {Q : VK} {E : XK} {vs : List V} (e : vs = [.ref p, .int b]) (h : SqL K H p (ns.map V.int)) (hb : b ≠ 0) (hs : b.natAbs < 2 ^ 8000) (hl : ns.length ≤ 1000) (q : RetLn K H Q (Ln ns b)) : sp_bottom K vs H Q E := ⟨p, ns, b, e, h, hb, hs, hl, q⟩
theorem ok_by_bottom (T : Txt K mg) : FnOk P w K mg base CX0 5 T.a_by_bottom T.d_by_bottom p_by_bottom (sp_bottom K) := by
  have G_coefficient : FnOk P w K mg base CX0 3 T.a_coefficient T.d_coefficient p_coefficient (sp_coef K) := ok_coefficient T
  have G_cut : FnOk P w K mg base CX0 1 T.a_cut T.d_cut p_cut (sp_cut K) := ok_cut T
  have G_line_of : FnOk P w K mg base CX0 4 T.a_line_of T.d_line_of p_line_of (sp_lineof K) := ok_line_of T
  refine T.f_by_bottom.ok sc_by_bottom (fun vs H Q E h => ?_) (fun cdv A outer s H vs Q E hr h => ?_)
  · obtain ⟨p, ns, b, rfl, _⟩ := h; rfl
  · obtain ⟨p, ns, b, rfl, hs, hb, hz, hl, k⟩ := h
    refine ⟨_, (pss_cons (ps_if (pt_cmpR op_eq (pv 1) pe_int (nomark _))
        (pss_one (ps_ret (pe_callTy (cr_tupleK K) (by rfl) T.z_tuple (by decide +kernel) (pa_cons (pe_call G_cut (hr.mono (by omega)) (by rfl) T.g_cut T.f_cut.kp T.b_cut .nil pass0 (pa_cons (pv 0) pa_nil)) pa_nil)))) pss_nil)
      (pss_one (ps_ret (pe_call G_line_of (hr.mono (by omega)) (by rfl) T.g_line_of T.f_line_of.kp T.b_line_of .nil pass0 (pa_cons (pe_lc (own := [("number", 2)]) (g := gName 2) rfl sc_by_bottom.nd (pi_listK K (pv 0)) (blkOk_by (own := [("number", 2)]) (N := n_by_bottom) (sc := defScope s_by_bottom) (by decide +kernel)) (fun _ _ _ _ _ => pg_name (i := 2) sc_by_bottom.nd rfl (Or.inl rfl)) (fun _ _ _ _ _ => pts_nil) (fun _ _ _ _ _ => (pe_call G_coefficient (hr.mono (by omega)) (by rfl) T.g_coefficient T.f_coefficient.kp T.b_coefficient .nil pass0 (pa_cons (pv 2) (pa_cons (pv 1) pa_nil))))) pa_nil))))), ?_⟩
    walk_at "go0"
    refine r_dec (fun e => ?_) (fun e => ?_)
    · subst e
      walk_at "go"
      refine c_cut rfl hs el_ints (by rw [List.length_map]; omega) fun e l H2 he nl => ?_
      walk_at "go"
      refine r_tupleL (SqL.of nl.at) fun u H3 nu => ?_
      exact k _ _ (nl.same.trans nu.same) ⟨u, _, rfl, Tp.new nu, (CL.ints ns).cut he⟩
    · walk_at "go"
      refine c_list hs (fun D j H' => H D = none ∧ Same H H' ∧ ∃ vs, H' D = some (.lst vs) ∧ CL K H' vs ((ns.take j).map fun n => Rat.divInt n b)) (fun _ => rfl) (fun D H2 n2 => ⟨n2.1, n2.same, [], n2.at, CL.nil⟩) (fun D j H' _ q => q.2.1.seq hs) (fun D j x H' e q => ?_) fun D H' q => ?_
      · obtain ⟨q0, q1, ws, q2, q3⟩ := q
        rw [List.getElem?_map] at e
        cases e1 : ns[j]? with
        | none => rw [e1] at e; cases e
        | some z =>
          rw [e1] at e
          cases e
          walk_at "go"
          refine c_coef rfl hb hz fun v H2 s2 cv => ?_
          walk_at "go"
          refine r_it (s2 _ _ q2) (by rw [q3.1, List.length_map, List.length_take]; omega) fun H3 mu => ⟨q0, mu.same0 (q1.trans s2) q0, _, mu.at, ?_⟩
          rw [List.take_add_one, e1, List.map_append]
          exact ((q3.keep (TK.of s2)).keep (mu.tk (s2 _ _ q2))).snoc (cv.keep (mu.tk (s2 _ _ q2)))
      · obtain ⟨q0, q1, ws, q2, q3⟩ := q
        rw [List.length_map, List.take_length] at q3
        walk_at "go"
        refine c_lineof rfl (.inl (SqL.of q2)) (q3.cr fun q hq => ?_) (by rw [q3.1, List.length_map]; exact hl) fun v H2 s2 lv => k v H2 (q1.trans s2) lv
        obtain ⟨n, _, rfl⟩ := List.mem_map.mp hq
        exact den_lt hb hz
/-- a list of ints times an int -/
def sp_scaled (K : PySem.W.Frag) : Sp := fun vs H Q _ => ∃ (p : Addr) (ns : List Int) (b : Int), vs = [.ref p, .int b] ∧ SqL K H p (ns.map V.int) ∧ (∀ n ∈ ns, IntMulOk n b) ∧ ns.length ≤ 1000 ∧ RetLs H Q fun ws => ws = ns.map fun n => n * b
theorem c_scaled {p : Addr} {ns : List Int} {b : Int} {H : Hp} {Q : VK} {E : XK} {vs : List V} (e : vs = [.ref p, .int b]) (h : SqL K H p (ns.map V.int)) (hs : ∀ n ∈ ns, IntMulOk n b) (hl : ns.length ≤ 1000) (q : RetLs H Q fun ws => ws = ns.map fun n => n * b) : sp_scaled K vs H Q E := ⟨p, ns, b, e, h, hs, hl, q⟩
theorem ok_scaled (T : Txt K mg) : FnOk P w K mg base CX0 1 T.a_scaled T.d_scaled p_scaled (sp_scaled K) := by
  refine T.f_scaled.ok sc_scaled (fun vs H Q E h => ?_) (fun cdv A outer s H vs Q E hr h => ?_)
  · obtain ⟨p, ns, b, rfl, _⟩ := h; rfl
  · obtain ⟨p, ns, b, rfl, hs, hm, hl, k⟩ := h
    refine ⟨_, (pss_one (ps_ret (pe_lc (own := [("number", 2)]) (g := gName 2) rfl sc_scaled.nd (pi_listK K (pv 0)) (blkOk_by (own := [("number", 2)]) (N := n_scaled) (sc := defScope s_scaled) (by decide +kernel)) (fun _ _ _ _ _ => pg_name (i := 2) sc_scaled.nd rfl (Or.inl rfl)) (fun _ _ _ _ _ => pts_nil) (fun _ _ _ _ _ => (pe_op op_mulZ (pv 2) (pv 1)))))), ?_⟩
    walk_at "go0"
    refine c_list hs (fun D j H' => H D = none ∧ Same H H' ∧ H' D = some (.lst (((ns.take j).map fun n => n * b).map V.int))) (fun _ => rfl) (fun D H2 n2 => ⟨n2.1, n2.same, n2.at⟩) (fun D j H' _ q => q.2.1.seq hs) (fun D j x H' e q => ?_) fun D H' q => ?_
    · obtain ⟨q0, q1, q2⟩ := q
      rw [List.getElem?_map] at e
      cases e1 : ns[j]? with
      | none => rw [e1] at e; cases e
      | some z =>
        rw [e1] at e
        cases e
        walk_at "go"
        · refine r_it q2 (by rw [List.length_map, List.length_map, List.length_take]; omega) fun H3 mu => ⟨q0, mu.same0 q1 q0, ?_⟩
          rw [mu.at, List.take_add_one, e1]
          simp only [List.map_append, Option.toList, List.map_cons, List.map_nil]
        · exact hm z (List.mem_of_getElem? e1)
    · obtain ⟨q0, q1, q2⟩ := q
      rw [List.length_map, List.take_length] at q2
      exact k _ _ _ q0 q1 q2 rfl
/-- a line as whole numbers by one bottom -/
def sp_whole (K : PySem.W.Frag) : Sp := fun vs H Q _ => ∃ (v : V) (qs : List Rat) (ns : List Int) (b : Int), vs = [v] ∧ LnV K H v qs ∧ qs.length ≤ 1000 ∧ 0 < b ∧ b.natAbs < 2 ^ 3000 ∧ (∀ i, (cf ns i).natAbs < 2 ^ 3000) ∧ (∀ i, qf qs i = Rat.divInt (cf ns i) b) ∧
  ∀ t p ws L H', H p = none → Same H H' → Tp K H' t [.ref p, .int L] → H' p = some (.lst (ws.map V.int)) → WholeOf qs ns b ws L → Q (.ref t) H'
theorem c_whole {v : V} {qs : List Rat} {ns : List Int} {b : Int} {H : Hp} {Q : VK} {E : XK} {vs : List V} (e : vs = [v]) (h : LnV K H v qs) (hl : qs.length ≤ 1000) (h0 : 0 < b) (hb : b.natAbs < 2 ^ 3000) (hn : ∀ i, (cf ns i).natAbs < 2 ^ 3000) (he : ∀ i, qf qs i = Rat.divInt (cf ns i) b)
    (q : ∀ t p ws L H', H p = none → Same H H' → Tp K H' t [.ref p, .int L] → H' p = some (.lst (ws.map V.int)) → WholeOf qs ns b ws L → Q (.ref t) H') : sp_whole K vs H Q E := ⟨v, qs, ns, b, e, h, hl, h0, hb, hn, he, q⟩
theorem ok_whole (T : Txt K mg) : FnOk P w K mg base CX0 1 T.a_whole T.d_whole p_whole (sp_whole K) := by
  refine T.f_whole.ok sc_whole (fun vs H Q E h => ?_) (fun cdv A outer s H vs Q E hr h => ?_)
  · obtain ⟨v, qs, ns, b, rfl, _⟩ := h; rfl
  · obtain ⟨v, qs, ns, b, rfl, ⟨t, vs, rfl, ht, hc⟩, hl, hb, hz, hn, he, k⟩ := h
    have hq : ∀ (i : Nat) q, qs[i]? = some q → q = Rat.divInt (cf ns i) b := fun i q e => (qf_get e).symm.trans (he i)
    have hd : ∀ (i : Nat) q, qs[i]? = some q → (q.den : Int) ∣ b := fun i q e => by rw [hq i q e]; exact den_dvd (by omega)
    refine ⟨_, (pss_cons (ps_set (i := 1) sc_whole.nd rfl (.inl rfl) pe_int)
      (pss_cons (ps_for PassesOwn.never rfl (pi_seqVK K (pv 0)) (pg_name (i := 2) sc_whole.nd rfl (.inl rfl))
        (pss_one (ps_if (pt_not (pt_val (pe_callB (cr_isiK K) (by rfl) T.z_isinstance (by decide +kernel) (pa_cons (pv 2) (pa_cons (pe_bltn (v := .ty "int") (u := .type "int") (by rfl) T.z_int (by decide +kernel) rfl) pa_nil)))))
        (pss_one (ps_set (i := 1) sc_whole.nd rfl (.inl rfl) (pe_op op_fdivZ (pe_op op_mulZ (pv 1) (pe_ix (ix_sqK K) (pv 2) pe_int (fun _ _ => rfl))) (pe_callBfun cr_gcd (by rfl) T.g_gcd (pa_cons (pv 1) (pa_cons (pe_ix (ix_sqK K) (pv 2) pe_int (fun _ _ => rfl)) pa_nil)))))) pss_nil)))
      (pss_cons (ps_set (i := 3) sc_whole.nd rfl (.inl rfl) (pe_lst pa_nil))
      (pss_cons (ps_for PassesOwn.never rfl (pi_seqVK K (pv 0)) (pg_name (i := 2) sc_whole.nd rfl (.inl rfl))
        (pss_one (ps_if (pt_val (pe_callB (cr_isiK K) (by rfl) T.z_isinstance (by decide +kernel) (pa_cons (pv 2) (pa_cons (pe_bltn (v := .ty "int") (u := .type "int") (by rfl) T.z_int (by decide +kernel) rfl) pa_nil))))
        (pss_one (ps_expr (pe_bm PySem.F.plainAttrs_list PySem.F.slot_list_append PySem.F.type_list_append mt_append (pv 3) (pa_cons (pe_op op_mulZ (pv 2) (pv 1)) pa_nil)))) (pss_one (ps_expr (pe_bm PySem.F.plainAttrs_list PySem.F.slot_list_append PySem.F.type_list_append mt_append (pv 3) (pa_cons (pe_op op_mulZ (pe_ix (ix_sqK K) (pv 2) pe_int (fun _ _ => rfl)) (pe_op op_fdivZ (pv 1) (pe_ix (ix_sqK K) (pv 2) pe_int (fun _ _ => rfl)))) pa_nil)))))))
      (pss_one (ps_ret (pe_tup (pa_cons (pv 3) (pa_cons (pv 1) pa_nil))))))))), ?_⟩
    walk_at "go0"
    refine l_seq0 (H0 := H) rfl (.inr ht.sq) (fun i σ' H' => ∃ y L, σ' = [some (.ref t), some (.int L), y, none] ∧ H = H' ∧ 0 < L ∧ L ∣ b ∧ ∀ (j : Nat) q, j < i → qs[j]? = some q → (q.den : Int) ∣ L) ⟨_, 1, rfl, rfl, by decide, Int.one_dvd _, fun j _ h => by omega⟩ (fun i σ' H' p => ?_) (fun i x σ' H' e p => ?_) fun σ' H' p => ?_
    · obtain ⟨_, _, _, rfl, _⟩ := p
      exact Same.refl _
    · obtain ⟨y, L, rfl, rfl, p1, p2, p3⟩ := p
      obtain ⟨q, e1, e2⟩ := hc.2 i x e
      have hLb : L ≤ b := Int.le_of_dvd hb p2
      have hq0 : 0 < q.den := Nat.pos_of_ne_zero q.den_nz
      rcases e2 with ⟨d, rfl⟩ | ⟨d, s, rfl, hs⟩
      · walk_at "go"
        refine ⟨_, L, rfl, rfl, p1, p2, fun j r hj er => ?_⟩
        by_cases hji : j = i
        · subst hji
          cases e1.symm.trans er
          rw [d]
          exact Int.one_dvd _
        · exact p3 j r (by omega) er
      · have dq : (q.den : Int) ≤ b := Int.le_of_dvd hb (hd i q e1)
        dsimp only at hs
        obtain ⟨g1, g2, g3, g4⟩ := lcm_step p1 (show (0 : Int) < (q.den : Int) by omega) p2 (hd i q e1)
        walk_at "go"
        · refine ⟨_, _, rfl, rfl, g1, g2, fun j r hj er => ?_⟩
          by_cases hji : j = i
          · subst hji
            cases e1.symm.trans er
            exact g4
          · exact Int.dvd_trans (p3 j r (by omega) er) g3
        · have := gcd_pos' (a := L) (b := (q.den : Int)) (by omega)
          refine ⟨by omega, ?_⟩
          rw [Int.natAbs_natCast]
          refine gcd_lt (a := L) (b := (q.den : Int)) (by omega) (Nat.lt_of_lt_of_le (Nat.lt_of_le_of_lt (show (q.den : Int).natAbs ≤ b.natAbs by omega) hz) (Nat.pow_le_pow_right (by decide) (by decide)))
        · exact mulB (Nat.lt_of_le_of_lt (by omega) hz) (Nat.lt_of_le_of_lt (by omega) hz)
    · obtain ⟨y, L, rfl, rfl, p1, p2, p3⟩ := p
      have hLb : L ≤ b := Int.le_of_dvd hb p2
      walk_at "go"
      refine r_new (Nat.le_of_ble_eq_true rfl) fun D H1 n1 => ?_
      walk_at "go"
      refine l_seq0 (H0 := H) rfl (.inr ht.sq) (fun i σ' H' => ∃ y ws, σ' = [some (.ref t), some (.int L), y, some (.ref D)] ∧ Same H H' ∧ H' D = some (.lst (ws.map V.int)) ∧ ws.length = i ∧ ∀ (j : Nat) z, ws[j]? = some z → z * b = cf ns j * L ∧ qf qs j = Rat.divInt z L) ⟨_, [], rfl, n1.same, n1.at, rfl, fun j z h => by cases h⟩ (fun i σ' H' p => ?_) (fun i x σ' H' e p => ?_) fun σ' H' p => ?_
      · obtain ⟨_, _, _, h, _⟩ := p
        exact h
      · obtain ⟨y, ws, rfl, s1, s2, s3, s4⟩ := p
        obtain ⟨q, e1, e2⟩ := hc.2 i x e
        have hi : i < qs.length := (List.getElem?_eq_some_iff.mp e1).1
        have hq0 : 0 < q.den := Nat.pos_of_ne_zero q.den_nz
        have dq : (q.den : Int) ≤ b := Int.le_of_dvd hb (hd i q e1)
        have dL : (q.den : Int) ∣ L := p3 i q (by rw [hc.1]; exact hi) e1
        have nq : q.num.natAbs < 2 ^ 3000 := by
          rw [hq i q e1]
          exact Nat.lt_of_le_of_lt (num_le (by omega)) (hn i)
        have key : q.num * (L.fdiv (q.den : Int)) * b = cf ns i * L ∧ qf qs i = Rat.divInt (q.num * (L.fdiv (q.den : Int))) L := by
          rw [he i]
          rw [hq i q e1] at dL ⊢
          exact whole_item hb p1 dL
        have step : ∀ z, z * b = cf ns i * L ∧ qf qs i = Rat.divInt z L → ∀ (j : Nat) z', (ws ++ [z])[j]? = some z' → z' * b = cf ns j * L ∧ qf qs j = Rat.divInt z' L := fun z hz j z' h => by
          by_cases hj : j < ws.length
          · rw [List.getElem?_append_left hj] at h
            exact s4 j z' h
          · rw [List.getElem?_append_right (by omega)] at h
            have hj0 := (List.getElem?_eq_some_iff.mp h).1
            rw [List.length_singleton] at hj0
            have : j - ws.length = 0 := by omega
            rw [this] at h
            cases h
            rw [show j = i by omega]
            exact hz
        have hw : (ws.map V.int).length ≤ 1000000 := by rw [List.length_map]; omega
        rcases e2.keep (TK.of s1) with ⟨d, rfl⟩ | ⟨d, u, rfl, hu⟩
        · rw [d, show L.fdiv ((1 : Nat) : Int) = L by rw [Int.fdiv_eq_ediv_of_nonneg _ (by decide)]; exact Int.ediv_one L] at key
          walk_at "go"
          · refine r_app s2 hw fun H2 mu => ?_
            exact ⟨_, ws ++ [q.num * L], rfl, mu.same0 s1 n1.1, by rw [mu.at, List.map_append]; rfl, by rw [List.length_append, s3]; rfl, step _ key⟩
          · exact mulB nq (Nat.lt_of_le_of_lt (by omega) hz)
        · dsimp only at hu
          walk_at "go"
          · refine r_app s2 hw fun H2 mu => ?_
            exact ⟨_, ws ++ [q.num * (L.fdiv (q.den : Int))], rfl, mu.same0 s1 n1.1, by rw [mu.at, List.map_append]; rfl, by rw [List.length_append, s3]; rfl, step _ key⟩
          · refine mulB nq ?_
            have : (L.fdiv (q.den : Int)).natAbs ≤ L.natAbs := by
              rw [Int.fdiv_eq_ediv_of_nonneg _ (by omega)]
              exact Int.natAbs_ediv_le_natAbs _ _
            omega
          · refine ⟨by omega, ?_⟩
            exact Nat.lt_of_lt_of_le (Nat.lt_of_le_of_lt (show (q.den : Int).natAbs ≤ b.natAbs by omega) hz) (Nat.pow_le_pow_right (by decide) (by decide))
      · obtain ⟨y, ws, rfl, s1, s2, s3, s4⟩ := p
        walk_at "go"
        refine r_new (Nat.le_of_ble_eq_true rfl) fun u H3 nu => ?_
        refine k u D ws L H3 n1.1 (s1.trans nu.same) (Tp.new nu) (nu.same _ _ s2) ⟨by rw [s3, hc.1], p1, hLb, fun i => ?_, fun i => ?_⟩
        · by_cases hi : i < ws.length
          · exact (s4 i _ (cf_lt hi)).1
          · rw [cf_ge (by omega), Int.zero_mul]
            have : qf qs i = 0 := qf_ge (by rw [← hc.1]; omega)
            rw [he i] at this
            rw [(div_zero_iff (by omega)).mp this, Int.zero_mul]
        · by_cases hi : i < ws.length
          · exact (s4 i _ (cf_lt hi)).2
          · rw [cf_ge (by omega), Rat.zero_divInt]
            exact qf_ge (by rw [← hc.1]; omega)
end
end Al

set_option Elab.async false
set_option linter.all false
set_option maxRecDepth 100000
set_option maxHeartbeats 4000000
set_option exponentiation.threshold 20000
open PySem PySem.Spec PyProof.Rows L2 Al
namespace Al
section
variable {P : Program} {w : World} {K : PySem.W.Frag} {mg : Str → Option Value} {base : Heap}
/-- lists of ints in, one out -/
def sp_summed (K : PySem.W.Frag) : Sp := fun vs H Q _ => ∃ (p q : Addr) (f s : List Int), vs = [.ref p, .ref q] ∧ SqL K H p (f.map V.int) ∧ SqL K H q (s.map V.int) ∧ f.length ≤ 1000 ∧ s.length ≤ 1000 ∧ RetLs H Q fun ws => ws.length ≤ max f.length s.length ∧ ∀ i, cf ws i = cf f i + cf s i
theorem c_summed {p q : Addr} {f s : List Int} {H : Hp} {Q : VK} {E : XK} {vs : List V} (e : vs = [.ref p, .ref q]) (h1 : SqL K H p (f.map V.int)) (h2 : SqL K H q (s.map V.int)) (l1 : f.length ≤ 1000) (l2 : s.length ≤ 1000) (k : RetLs H Q fun ws => ws.length ≤ max f.length s.length ∧ ∀ i, cf ws i = cf f i + cf s i) : sp_summed K vs H Q E := ⟨p, q, f, s, e, h1, h2, l1, l2, k⟩
theorem ok_summed (T : Txt K mg) : FnOk P w K mg base CX0 2 T.a_summed T.d_summed p_summed (sp_summed K) := by
  have G_cut : FnOk P w K mg base CX0 1 T.a_cut T.d_cut p_cut (sp_cut K) := ok_cut T
  refine T.f_summed.ok sc_summed (fun vs H Q E h => ?_) (fun cdv A outer s H vs Q E hr h => ?_)
  · obtain ⟨p, q, f, s, rfl, _⟩ := h; rfl
  · obtain ⟨p, q, f, s, rfl, hp, hq, l1, l2, k⟩ := h
    refine ⟨_, (pss_cons (ps_set (i := 2) sc_summed.nd rfl (.inl rfl) (pe_op op_rep (pe_lst (pa_cons pe_int pa_nil)) (pe_callB (cr_max2 rfl) (by rfl) T.z_max (by decide +kernel) (pa_cons (pe_callB (cr_lenK K) (by rfl) T.z_len (by decide +kernel) (pa_cons (pv 0) pa_nil)) (pa_cons (pe_callB (cr_lenK K) (by rfl) T.z_len (by decide +kernel) (pa_cons (pv 1) pa_nil)) pa_nil)))))
      (pss_cons (ps_for PassesOwn.never rfl (pi_enumK K rfl T.z_enumerate (pa_cons (pv 0) pa_nil)) (pg_tup (n := 2) rfl (pgs_cons (pg_name (i := 3) sc_summed.nd rfl (.inl rfl)) (pgs_cons (pg_name (i := 4) sc_summed.nd rfl (.inl rfl)) pgs_nil)))
        (pss_one (ps_asg (pv 4) (pg_sub (pv 2) (pv 3) set_list))))
      (pss_cons (ps_for PassesOwn.never rfl (pi_enumK K rfl T.z_enumerate (pa_cons (pv 1) pa_nil)) (pg_tup (n := 2) rfl (pgs_cons (pg_name (i := 3) sc_summed.nd rfl (.inl rfl)) (pgs_cons (pg_name (i := 4) sc_summed.nd rfl (.inl rfl)) pgs_nil)))
        (pss_one (ps_asg (pe_op op_add (pe_ix (ix_sqK K) (pv 2) (pv 3) (fun _ _ => rfl)) (pv 4)) (pg_sub (pv 2) (pv 3) set_list))))
      (pss_one (ps_ret (pe_call G_cut (hr.mono (by omega)) (by rfl) T.g_cut T.f_cut.kp T.b_cut .nil pass0 (pa_cons (pv 2) pa_nil))))))), ?_⟩
    walk_at "go0"
    refine r_new (Nat.le_of_ble_eq_true rfl) fun D0 H1 n1 => ?_
    walk_at "go"
    refine r_lenL (n1.same.seq hp) ?_
    walk_at "go"
    refine r_lenL (n1.same.seq hq) ?_
    walk_at "go"
    have hm : (if ((s.map V.int).length : Int) > ((f.map V.int).length : Int) then ((s.map V.int).length : Int) else ((f.map V.int).length : Int)) = ((max f.length s.length : Nat) : Int) := by
      rw [List.length_map, List.length_map]
      split <;> omega
    rw [hm]
    refine r_rep1 n1.at (by omega) (by omega) fun D H2 n2 => ?_
    rw [Int.toNat_natCast, rep_ints] at n2
    have sH : Same H H2 := n1.same.trans n2.same
    have nD : H D = none := n1.same.free n2.1
    walk_at "go"
    refine l_enum (sH.seq hp) (fun i σ' H' => ∃ x y zs, σ' = [some (.ref p), some (.ref q), some (.ref D), x, y] ∧ Same H H' ∧ H' D = some (.lst (zs.map V.int)) ∧ zs.length = max f.length s.length ∧ ∀ j, cf zs j = if j < i then cf f j else 0) ⟨_, _, _, rfl, sH, n2.at, List.length_replicate, fun j => by rw [if_neg (by omega), cf_replicate]⟩ (fun i σ' H' _ z => ?_) (fun i x σ' H' t H3 e z nt => ?_) fun σ' H' z => ?_
    · obtain ⟨_, _, _, _, h, _⟩ := z
      exact h.seq hp
    · obtain ⟨x0, y0, zs, rfl, z1, z2, z3, z4⟩ := z
      obtain ⟨rfl, hi⟩ := int_at e
      walk_at "go"
      refine r_setLn (nt.same _ _ z2) rfl (by rw [z3]; omega) fun H4 mu => ?_
      refine ⟨_, _, _, rfl, mu.same0 (z1.trans nt.same) nD, mu.at, by rw [List.length_set]; exact z3, fun j => ?_⟩
      rw [cf_set (by rw [z3]; omega), z4]
      by_cases hj : j = i
      · rw [if_pos hj, if_pos (by omega), hj]
      · rw [if_neg hj]
        by_cases h2 : j < i
        · rw [if_pos h2, if_pos (by omega)]
        · rw [if_neg h2, if_neg (by omega)]
    · obtain ⟨x0, y0, zs, rfl, z1, z2, z3, z4⟩ := z
      rw [List.length_map] at z4
      walk_at "go"
      refine l_enum (z1.seq hq) (fun i σ' H' => ∃ x y zs, σ' = [some (.ref p), some (.ref q), some (.ref D), x, y] ∧ Same H H' ∧ H' D = some (.lst (zs.map V.int)) ∧ zs.length = max f.length s.length ∧ ∀ j, cf zs j = cf f j + if j < i then cf s j else 0) ⟨_, _, zs, rfl, z1, z2, z3, fun j => ?_⟩ (fun i σ' H' _ z => ?_) (fun i x σ' H' t H3 e z nt => ?_) fun σ' H' z => ?_
      · rw [z4, if_neg (by omega : ¬ j < 0)]
        by_cases h2 : j < f.length
        · rw [if_pos h2]; omega
        · rw [if_neg h2, cf_ge (by omega)]; rfl
      · obtain ⟨_, _, _, _, h, _⟩ := z
        exact h.seq hq
      · obtain ⟨x0, y0, zs, rfl, z1, z2, z3, z4⟩ := z
        obtain ⟨rfl, hi⟩ := int_at e
        walk_at "go"
        refine r_ixLn (nt.same _ _ z2) rfl (by rw [z3]; omega) ?_
        walk_at "go"
        refine r_setLn (nt.same _ _ z2) rfl (by rw [z3]; omega) fun H4 mu => ?_
        refine ⟨_, _, _, rfl, mu.same0 (z1.trans nt.same) nD, mu.at, by rw [List.length_set]; exact z3, fun j => ?_⟩
        rw [cf_set (by rw [z3]; omega), z4, z4, if_neg (by omega : ¬ i < i)]
        by_cases hj : j = i
        · rw [if_pos hj, if_pos (by omega), hj]
          omega
        · rw [if_neg hj]
          by_cases h2 : j < i
          · rw [if_pos h2, if_pos (by omega)]
          · rw [if_neg h2, if_neg (by omega)]
      · obtain ⟨x0, y0, zs, rfl, z1, z2, z3, z4⟩ := z
        rw [List.length_map] at z4
        walk_at "go"
        refine c_cut rfl (SqL.of z2) el_ints (by rw [List.length_map]; omega) fun e l H3 he nl => ?_
        obtain ⟨c1, _, c3⟩ := cut_ints he
        refine k l (zs.take e) _ (z1.free nl.1) (z1.trans nl.same) (by rw [nl.at, List.map_take]) ⟨by rw [List.length_take]; omega, fun i => ?_⟩
        rw [c1, z4]
        by_cases h2 : i < s.length
        · rw [if_pos h2]
        · rw [if_neg h2, cf_ge (l := s) (by omega)]
def sp_times (K : PySem.W.Frag) : Sp := fun vs H Q _ => ∃ (p q : Addr) (f s : List Int) (n : Nat), vs = [.ref p, .ref q] ∧ SqL K H p (f.map V.int) ∧ SqL K H q (s.map V.int) ∧ f.length ≤ 1000 ∧ s.length ≤ 1000 ∧ (∀ i, (cf f i).natAbs < 2 ^ 3000) ∧ (∀ i, (cf s i).natAbs < 2 ^ 3000) ∧ RetLs H Q fun ws => ws.length ≤ f.length + s.length - 1 ∧ ∀ k, cf ws k = pmul f (cf s) k
theorem c_times {p q : Addr} {f s : List Int} {H : Hp} {Q : VK} {E : XK} {vs : List V} (e : vs = [.ref p, .ref q]) (h1 : SqL K H p (f.map V.int)) (h2 : SqL K H q (s.map V.int)) (l1 : f.length ≤ 1000) (l2 : s.length ≤ 1000) (b1 : ∀ i, (cf f i).natAbs < 2 ^ 3000) (b2 : ∀ i, (cf s i).natAbs < 2 ^ 3000) (k : RetLs H Q fun ws => ws.length ≤ f.length + s.length - 1 ∧ ∀ k, cf ws k = pmul f (cf s) k) : sp_times K vs H Q E := ⟨p, q, f, s, 0, e, h1, h2, l1, l2, b1, b2, k⟩
theorem ok_times (T : Txt K mg) : FnOk P w K mg base CX0 1 T.a_times T.d_times p_times (sp_times K) := by
  refine T.f_times.ok sc_times (fun vs H Q E h => ?_) (fun cdv A outer s H vs Q E hr h => ?_)
  · obtain ⟨p, q, f, s, n, rfl, _⟩ := h; rfl
  · obtain ⟨p, q, f, s, n, rfl, hp, hq, l1, l2, b1, b2, k⟩ := h
    refine ⟨_, (pss_cons (ps_if (PW.pt (pw_or (pt_cmpR op_eq (pe_callB (cr_lenK K) (by rfl) T.z_len (by decide +kernel) (pa_cons (pv 0) pa_nil)) pe_int (nomark _)) (pw_or1 (pt_cmpR op_eq (pe_callB (cr_lenK K) (by rfl) T.z_len (by decide +kernel) (pa_cons (pv 1) pa_nil)) pe_int (nomark _)))))
        (pss_one (ps_ret (pe_lst pa_nil))) pss_nil)
      (pss_cons (ps_set (i := 2) sc_times.nd rfl (.inl rfl) (pe_op op_rep (pe_lst (pa_cons pe_int pa_nil)) (pe_op op_sub (pe_op op_add (pe_callB (cr_lenK K) (by rfl) T.z_len (by decide +kernel) (pa_cons (pv 0) pa_nil)) (pe_callB (cr_lenK K) (by rfl) T.z_len (by decide +kernel) (pa_cons (pv 1) pa_nil))) pe_int)))
      (pss_cons (ps_for PassesOwn.never rfl (pi_enumK K rfl T.z_enumerate (pa_cons (pv 0) pa_nil)) (pg_tup (n := 2) rfl (pgs_cons (pg_name (i := 3) sc_times.nd rfl (.inl rfl)) (pgs_cons (pg_name (i := 4) sc_times.nd rfl (.inl rfl)) pgs_nil)))
        (pss_one (ps_if (pt_cmpR op_ne (pv 4) pe_int (nomark _))
        (pss_one (ps_for PassesOwn.never rfl (pi_enumK K rfl T.z_enumerate (pa_cons (pv 1) pa_nil)) (pg_tup (n := 2) rfl (pgs_cons (pg_name (i := 5) sc_times.nd rfl (.inl rfl)) (pgs_cons (pg_name (i := 6) sc_times.nd rfl (.inl rfl)) pgs_nil)))
        (pss_one (ps_asg (pe_op op_add (pe_ix (ix_sqK K) (pv 2) (pe_op op_add (pv 3) (pv 5)) (fun _ _ => rfl)) (pe_op op_mulZ (pv 4) (pv 6))) (pg_sub (pv 2) (pe_op op_add (pv 3) (pv 5)) set_list))))) pss_nil)))
      (pss_one (ps_ret (pv 2)))))), ?_⟩
    have none : (f.length = 0 ∨ s.length = 0) → ∀ H', Same H H' → ∀ l H2, Nw l (.lst []) H' H2 → Q (.ref l) H2 := fun h H' sh l H2 nl => by
      refine k l [] H2 (sh.free nl.1) (sh.trans nl.same) nl.at ⟨Nat.zero_le _, fun k => ?_⟩
      rcases h with h | h
      · rw [List.eq_nil_of_length_eq_zero h]
        rfl
      · rw [List.eq_nil_of_length_eq_zero h, pmul_congr (h := fun _ => 0) (fun i => cf_nil i), pmul_zero]
        rfl
    walk_at "go0"
    refine r_lenL hp ?_
    walk_at "go"
    refine r_dec (fun e => ?_) (fun e1 => ?_)
    · walk_at "go"
      refine r_new (Nat.le_of_ble_eq_true rfl) fun l H2 nl => none (.inl (by rw [List.length_map] at e; omega)) H (Same.refl H) l H2 nl
    walk_at "go"
    refine r_lenL hq ?_
    walk_at "go"
    refine r_dec (fun e => ?_) (fun e2 => ?_)
    · walk_at "go"
      refine r_new (Nat.le_of_ble_eq_true rfl) fun l H2 nl => none (.inr (by rw [List.length_map] at e; omega)) H (Same.refl H) l H2 nl
    rw [List.length_map] at e1 e2
    walk_at "go"
    refine r_new (Nat.le_of_ble_eq_true rfl) fun D0 H1 n1 => ?_
    walk_at "go"
    refine r_lenL (n1.same.seq hp) ?_
    walk_at "go"
    refine r_lenL (n1.same.seq hq) ?_
    walk_at "go"
    have hm : (((f.map V.int).length : Nat) : Int) + (((s.map V.int).length : Nat) : Int) - 1 = ((f.length + s.length - 1 : Nat) : Int) := by
      rw [List.length_map, List.length_map]
      omega
    rw [hm]
    refine r_rep1 n1.at (by omega) (by omega) fun D H2 n2 => ?_
    rw [Int.toNat_natCast, rep_ints] at n2
    have sH : Same H H2 := n1.same.trans n2.same
    have nD : H D = .none := n1.same.free n2.1
    walk_at "go"
    refine l_enum (sH.seq hp) (fun i σ' H' => ∃ x y x2 y2 zs, σ' = [some (.ref p), some (.ref q), some (.ref D), x, y, x2, y2] ∧ Same H H' ∧ H' D = some (.lst (zs.map V.int)) ∧ zs.length = f.length + s.length - 1 ∧ ∀ j, cf zs j = pmul (f.take i) (cf s) j) ⟨_, _, _, _, _, rfl, sH, n2.at, List.length_replicate, fun j => cf_replicate _ j⟩ (fun i σ' H' _ z => ?_) (fun i x σ' H' t H3 e z nt => ?_) fun σ' H' z => ?_
    · obtain ⟨_, _, _, _, _, _, h, _⟩ := z
      exact h.seq hp
    · obtain ⟨x0, y0, x2, y2, zs, rfl, z1, z2, z3, z4⟩ := z
      obtain ⟨rfl, hi⟩ := int_at e
      have et : f.take (i + 1) = f.take i ++ [cf f i] := by rw [List.take_add_one, cf_lt hi]; rfl
      have el : (f.take i).length = i := by rw [List.length_take]; omega
      have z1' := z1.trans nt.same
      have z2' := nt.same _ _ z2
      walk_at "go"
      refine r_ndec (fun h0 => ?_) (fun h0 => ?_)
      · walk_at "go"
        refine l_enum (z1'.seq hq) (fun k σ' H' => ∃ x2 y2 zs, σ' = [some (.ref p), some (.ref q), some (.ref D), some (.int (i : Int)), some (.int (cf f i)), x2, y2] ∧ Same H H' ∧ H' D = some (.lst (zs.map V.int)) ∧ zs.length = f.length + s.length - 1 ∧ ∀ j, cf zs j = pmul (f.take i) (cf s) j + if i ≤ j ∧ j - i < k then cf f i * cf s (j - i) else 0) ⟨_, _, zs, rfl, z1', z2', z3, fun j => by rw [z4, if_neg (by omega)]; omega⟩ (fun k σ' H' _ z => ?_) (fun k x σ' H' t H3 e z nt => ?_) fun σ' H' z => ?_
        · obtain ⟨_, _, _, _, h, _⟩ := z
          exact h.seq hq
        · obtain ⟨x2, y2, zs, rfl, z1, z2, z3, z4⟩ := z
          obtain ⟨rfl, hk⟩ := int_at e
          have e0 : (i : Int) + (k : Int) = ((i + k : Nat) : Int) := by omega
          walk_at "go"
          refine r_ixLn (nt.same _ _ z2) e0 (by rw [z3]; omega) ?_
          walk_at "go"
          · refine r_setLn (nt.same _ _ z2) e0 (by rw [z3]; omega) fun H4 mu => ?_
            refine ⟨_, _, _, rfl, mu.same0 (z1.trans nt.same) nD, mu.at, by rw [List.length_set]; exact z3, fun j => ?_⟩
            rw [cf_set (by rw [z3]; omega), z4, z4]
            by_cases hj : j = i + k
            · rw [if_pos hj, if_neg (by omega), if_pos (by omega), hj, show i + k - i = k by omega]
              omega
            · rw [if_neg hj]
              by_cases h2 : i ≤ j ∧ j - i < k
              · rw [if_pos h2, if_pos (by omega)]
              · rw [if_neg h2, if_neg (by omega)]
          · exact mulB (b1 i) (b2 k)
        · obtain ⟨x2, y2, zs, rfl, z1, z2, z3, z4⟩ := z
          rw [List.length_map] at z4
          refine ⟨_, _, _, _, zs, rfl, z1, z2, z3, fun j => ?_⟩
          rw [z4, et, pmul_snoc, el]
          unfold beh
          by_cases h2 : i ≤ j
          · rw [if_pos h2]
            by_cases h3 : j - i < s.length
            · rw [if_pos ⟨h2, h3⟩]
            · rw [if_neg (by omega), cf_ge (l := s) (by omega), Int.mul_zero]
          · rw [if_neg h2, if_neg (by omega), Int.mul_zero]
      · walk_at "go"
        refine ⟨_, _, _, _, zs, rfl, z1', z2', z3, fun j => ?_⟩
        rw [et, pmul_snoc, h0, z4]
        omega
    · obtain ⟨x0, y0, x2, y2, zs, rfl, z1, z2, z3, z4⟩ := z
      rw [List.length_map, List.take_length] at z4
      walk_at "go"
      exact k D zs _ nD z1 z2 ⟨by omega, z4⟩
def sp_content (K : PySem.W.Frag) : Sp := fun vs H Q _ => ∃ (p : Addr) (ns : List Int), vs = [.ref p] ∧ SqL K H p (ns.map V.int) ∧ ∀ c, Cont ns c → Q (.int c) H
theorem c_content {p : Addr} {ns : List Int} {H : Hp} {Q : VK} {E : XK} {vs : List V} (e : vs = [.ref p]) (h : SqL K H p (ns.map V.int)) (k : ∀ c, Cont ns c → Q (.int c) H) : sp_content K vs H Q E := ⟨p, ns, e, h, k⟩
theorem ok_content (T : Txt K mg) : FnOk P w K mg base CX0 1 T.a_content T.d_content p_content (sp_content K) := by
  refine T.f_content.ok sc_content (fun vs H Q E h => ?_) (fun cdv A outer s H vs Q E hr h => ?_)
  · obtain ⟨p, ns, rfl, _⟩ := h; rfl
  · obtain ⟨p, ns, rfl, hp, k⟩ := h
    refine ⟨_, (pss_cons (ps_set (i := 1) sc_content.nd rfl (.inl rfl) pe_int)
      (pss_cons (ps_for PassesOwn.never rfl (pi_listK K (pv 0)) (pg_name (i := 2) sc_content.nd rfl (.inl rfl))
        (pss_cons (ps_set (i := 1) sc_content.nd rfl (.inl rfl) (pe_callBfun cr_gcd (by rfl) T.g_gcd (pa_cons (pv 1) (pa_cons (pv 2) pa_nil))))
      (pss_one (ps_if (pt_cmpR op_eq (pv 1) pe_int (nomark _))
        (pss_one ps_break) pss_nil))))
      (pss_one (ps_ret (pv 1))))), ?_⟩
    walk_at "go0"
    refine l_list hp (fun i σ' H' => ∃ y c, σ' = [some (.ref p), some (.int c), y] ∧ H = H' ∧ Cont (ns.take i) c) ⟨_, _, rfl, rfl, Cont.nil⟩ (fun i σ' H' _ z => ?_) (fun i x σ' H' e z => ?_) fun σ' H' z => ?_
    · obtain ⟨_, _, _, h, _⟩ := z
      rw [← h]
      exact hp
    · obtain ⟨y, c, rfl, rfl, hc⟩ := z
      obtain ⟨rfl, hi⟩ := int_at e
      have et : ns.take (i + 1) = ns.take i ++ [cf ns i] := by rw [List.take_add_one, cf_lt hi]; rfl
      have hc2 : Cont (ns.take (i + 1)) ((Nat.gcd c.natAbs (cf ns i).natAbs : Nat) : Int) := by
        rw [et]
        exact hc.snoc
      walk_at "go"
      refine r_dec (fun h1 => ?_) (fun h1 => ?_)
      · walk_at "go"
        refine k _ ?_
        rw [h1] at hc2 ⊢
        have := hc2.one (ns.drop (i + 1))
        rw [List.take_append_drop] at this
        exact this
      · walk_at "go"
        exact ⟨_, _, rfl, rfl, hc2⟩
    · obtain ⟨y, c, rfl, rfl, hc⟩ := z
      rw [List.length_map, List.take_length] at hc
      walk_at "go"
      exact k _ hc
def sp_prim (K : PySem.W.Frag) : Sp := fun vs H Q _ => ∃ (p : Addr) (ns : List Int), vs = [.ref p] ∧ H p = some (.lst (ns.map V.int)) ∧ ns.length ≤ 1000 ∧ cf ns (ns.length - 1) ≠ 0 ∧ (cf ns (ns.length - 1)).natAbs < 2 ^ 8000 ∧ RetLs H Q fun ps => ∃ c, Prim ns ps c
theorem c_prim {p : Addr} {ns : List Int} {H : Hp} {Q : VK} {E : XK} {vs : List V} (e : vs = [.ref p]) (h : H p = some (.lst (ns.map V.int))) (hl : ns.length ≤ 1000) (h0 : cf ns (ns.length - 1) ≠ 0) (h1 : (cf ns (ns.length - 1)).natAbs < 2 ^ 8000) (k : RetLs H Q fun ps => ∃ c, Prim ns ps c) : sp_prim K vs H Q E := ⟨p, ns, e, h, hl, h0, h1, k⟩
theorem ok_primitive (T : Txt K mg) : FnOk P w K mg base CX0 2 T.a_primitive T.d_primitive p_primitive (sp_prim K) := by
  have G_content : FnOk P w K mg base CX0 1 T.a_content T.d_content p_content (sp_content K) := ok_content T
  refine T.f_primitive.ok sc_primitive (fun vs H Q E h => ?_) (fun cdv A outer s H vs Q E hr h => ?_)
  · obtain ⟨p, ns, rfl, _⟩ := h; rfl
  · obtain ⟨p, ns, rfl, hp, hl, h0, h1, k⟩ := h
    have hne : 0 < ns.length := Nat.pos_of_ne_zero fun z => h0 (cf_ge (by omega))
    refine ⟨_, (pss_cons (ps_set (i := 1) sc_primitive.nd rfl (.inr rfl) (pe_call G_content (hr.mono (by omega)) (by rfl) T.g_content T.f_content.kp T.b_content .nil pass0 (pa_cons (pv 0) pa_nil)))
      (pss_cons (ps_if (pt_cmpR op_lt (pe_ix (ix_sqK K) (pv 0) (pe_un un_neg pe_int) (fun _ _ => rfl)) pe_int (nomark _))
        (pss_one (ps_set (i := 1) sc_primitive.nd rfl (.inr rfl) (pe_un un_neg (pv 1)))) pss_nil)
      (pss_one (ps_ret (pe_lc (own := [("number", 2)]) (g := gName 2) rfl sc_primitive.nd (pi_listK K (pv 0)) (blkOk_by (own := [("number", 2)]) (N := n_primitive) (sc := defScope s_primitive) (by decide +kernel)) (fun _ _ _ _ _ => pg_name (i := 2) sc_primitive.nd rfl (Or.inl rfl)) (fun _ _ _ _ _ => pts_nil) (fun _ _ _ _ _ => (pe_op op_fdivZ (pv 2) (pv 1)))))))), ?_⟩
    walk_at "go0"
    refine c_content rfl (SqL.of hp) fun c hc => ?_
    have hcl := hc.le h0
    have hc0 := hc.pos h0
    walk_at "g"
    refine l_if (fun σ' H' => ∃ e, σ' = [some (.ref p), some (.int e), none] ∧ H = H' ∧ e.natAbs < 2 ^ 8000 ∧ e ≠ 0 ∧ (cf ns (ns.length - 1) < 0 → e = -c) ∧ (¬ cf ns (ns.length - 1) < 0 → e = c)) (fun nx hnx => ?_) fun σ' H' z => ?_
    · walk_at "go"
      refine r_ixLast hp hne ?_
      walk_at "go"
      refine r_dec (fun e => ?_) (fun e => ?_)
      · walk_at "go"
        exact hnx _ _ ⟨_, rfl, rfl, by rw [Int.natAbs_neg]; exact Nat.lt_of_le_of_lt hcl h1, by omega, fun _ => rfl, fun z => absurd e z⟩
      · walk_at "go"
        exact hnx _ _ ⟨_, rfl, rfl, Nat.lt_of_le_of_lt hcl h1, by omega, fun z => absurd z e, fun _ => rfl⟩
    · obtain ⟨e, rfl, rfl, z1, z0, z2⟩ := z
      walk_at "go"
      refine c_list (SqL.of hp) (fun D j H' => H D = none ∧ Same H H' ∧ H' D = some (.lst (((ns.take j).map fun n => n.fdiv e).map V.int))) (fun _ => rfl) (fun D H2 n2 => ⟨n2.1, n2.same, n2.at⟩) (fun D j H' _ q => SqL.of (q.2.1 _ _ hp)) (fun D j x H' ex q => ?_) fun D H' q => ?_
      · obtain ⟨q0, q1, q2⟩ := q
        obtain ⟨rfl, hj⟩ := int_at ex
        walk_at "go"
        · refine r_it q2 (by rw [List.length_map, List.length_map, List.length_take]; omega) fun H3 mu => ⟨q0, mu.same0 q1 q0, ?_⟩
          rw [mu.at, List.take_add_one, cf_lt hj]
          simp only [List.map_append, Option.toList, List.map_cons, List.map_nil]
        · exact ⟨z0, z1⟩
      · obtain ⟨q0, q1, q2⟩ := q
        rw [List.length_map, List.take_length] at q2
        exact k _ _ _ q0 q1 q2 ⟨e, Prim.of hc h0 z2⟩
end
end Al

set_option Elab.async false
set_option linter.all false
set_option maxRecDepth 100000
set_option maxHeartbeats 4000000
set_option exponentiation.threshold 20000
open PySem PySem.Spec PyProof.Rows L2 Al
namespace Al
theorem div_size {x y : Int} {a : Nat} (h : x.natAbs < 2 ^ a) : (x / y).natAbs < 2 ^ a := Nat.lt_of_le_of_lt (Int.natAbs_ediv_le_natAbs _ _) h
theorem step_size {x st y : Int} {a b c : Nat} (h1 : x.natAbs < 2 ^ a) (h2 : st.natAbs < 2 ^ a) (h3 : y.natAbs < 2 ^ b) (hc : a + b + 1 ≤ c) : (x - st * y).natAbs < 2 ^ c := by
  have e := Int.natAbs_mul st y
  have m : st.natAbs * y.natAbs ≤ 2 ^ a * 2 ^ b := Nat.mul_le_mul (by omega) (by omega)
  have e2 : 2 ^ (a + b + 1) = 2 ^ a * 2 ^ b * 2 := by rw [Nat.pow_succ, Nat.pow_add]
  have p1 : 2 ^ a ≤ 2 ^ a * 2 ^ b := Nat.le_mul_of_pos_right _ (Nat.two_pow_pos b)
  have p2 : 2 ^ (a + b + 1) ≤ 2 ^ c := Nat.pow_le_pow_right (by decide) hc
  generalize 2 ^ a * 2 ^ b = u at *
  generalize st * y = z at *
  omega
section
variable {P : Program} {w : World} {K : PySem.W.Frag} {mg : Str → Option Value} {base : Heap}
structure ExPre (f s : List Int) (A B : Nat) : Prop where
  l1 : f.length ≤ 1000
  l2 : s.length ≤ 1000
  last : 0 < cf s (s.length - 1)
  sf : ∀ i, (cf f i).natAbs < 2 ^ A
  ss : ∀ i, (cf s i).natAbs < 2 ^ B
  small : A + f.length * (B + 1) ≤ 400000
  b : B ≤ 8000
  a0 : 0 < A
  b0 : 0 < B
def sp_exact (K : PySem.W.Frag) : Sp := fun vs H Q _ => ∃ (p q : Addr) (f s : List Int) (A B : Nat), vs = [.ref p, .ref q] ∧ H p = some (.lst (f.map V.int)) ∧ H q = some (.lst (s.map V.int)) ∧ ExPre f s A B ∧
  (RetLs H Q fun ws => (∀ k, cf f k = pmul s (cf ws) k) ∧ ws.length ≤ f.length ∧ ∀ k, (cf ws k).natAbs < 2 ^ (A + f.length * (B + 1))) ∧ (NoQ f s → ∀ H', Same H H' → Q .non H')
theorem c_exact {p q : Addr} {f s : List Int} {A B : Nat} {H : Hp} {Q : VK} {E : XK} {vs : List V} (e : vs = [.ref p, .ref q]) (h1 : H p = some (.lst (f.map V.int))) (h2 : H q = some (.lst (s.map V.int))) (hp : ExPre f s A B)
    (k1 : RetLs H Q fun ws => (∀ k, cf f k = pmul s (cf ws) k) ∧ ws.length ≤ f.length ∧ ∀ k, (cf ws k).natAbs < 2 ^ (A + f.length * (B + 1))) (k2 : NoQ f s → ∀ H', Same H H' → Q .non H') : sp_exact K vs H Q E := ⟨p, q, f, s, A, B, e, h1, h2, hp, k1, k2⟩
theorem ok_exact (T : Txt K mg) : FnOk P w K mg base CX0 2 T.a_exact T.d_exact p_exact (sp_exact K) := by
  have G_cut : FnOk P w K mg base CX0 1 T.a_cut T.d_cut p_cut (sp_cut K) := ok_cut T
  refine T.f_exact.ok sc_exact (fun vs H Q E h => ?_) (fun cdv AA outer sd H vs Q E hr h => ?_)
  · obtain ⟨p, q, f, s, A, B, rfl, _⟩ := h; rfl
  · obtain ⟨p, q, f, s, A, B, rfl, hp, hq, pre, k1, k2⟩ := h
    refine ⟨_, (pss_cons (ps_par (i := 2) (j := 3) rfl sc_exact.nd rfl rfl (by decide) rfl rfl (pa_cons (pe_op op_sub (pe_callB (cr_lenK K) (by rfl) T.z_len (by decide +kernel) (pa_cons (pv 1) pa_nil)) pe_int) (pa_cons (pe_callTy (cr_listK K) (by rfl) T.z_list (by decide +kernel) (pa_cons (pv 0) pa_nil)) pa_nil)) (by rfl))
      (pss_cons (ps_set (i := 4) sc_exact.nd rfl (.inl rfl) (pe_op op_rep (pe_lst (pa_cons pe_int pa_nil)) (pe_callB (cr_max2 rfl) (by rfl) T.z_max (by decide +kernel) (pa_cons (pe_op op_sub (pe_callB (cr_lenK K) (by rfl) T.z_len (by decide +kernel) (pa_cons (pv 0) pa_nil)) (pv 2)) (pa_cons pe_int pa_nil)))))
      (pss_cons (ps_for PassesOwn.never rfl (pi_range3 rfl T.z_range (pa_cons (pe_op op_sub (pe_callB (cr_lenK K) (by rfl) T.z_len (by decide +kernel) (pa_cons (pv 4) pa_nil)) pe_int) (pa_cons (pe_un un_neg pe_int) (pa_cons (pe_un un_neg pe_int) pa_nil)))) (pg_name (i := 5) sc_exact.nd rfl (.inl rfl))
        (pss_cons (ps_asg (pe_callB cr_divmod (by rfl) T.z_divmod (by decide +kernel) (pa_cons (pe_ix (ix_sqK K) (pv 3) (pe_op op_add (pv 5) (pv 2)) (fun _ _ => rfl)) (pa_cons (pe_ix (ix_sqK K) (pv 1) (pe_un un_neg pe_int) (fun _ _ => rfl)) pa_nil))) (pg_tup (n := 2) rfl (pgs_cons (pg_name (i := 6) sc_exact.nd rfl (.inl rfl)) (pgs_cons (pg_name (i := 7) sc_exact.nd rfl (.inl rfl)) pgs_nil))))
      (pss_cons (ps_if (pt_cmpR op_ne (pv 7) pe_int (nomark _))
        (pss_one (ps_ret pe_non)) pss_nil)
      (pss_cons (ps_asg (pv 6) (pg_sub (pv 4) (pv 5) set_list))
      (pss_one (ps_for PassesOwn.never rfl (pi_enumK K rfl T.z_enumerate (pa_cons (pv 1) pa_nil)) (pg_tup (n := 2) rfl (pgs_cons (pg_name (i := 8) sc_exact.nd rfl (.inl rfl)) (pgs_cons (pg_name (i := 9) sc_exact.nd rfl (.inl rfl)) pgs_nil)))
        (pss_one (ps_asg (pe_op op_sub (pe_ix (ix_sqK K) (pv 3) (pe_op op_add (pv 5) (pv 8)) (fun _ _ => rfl)) (pe_op op_mulZ (pv 6) (pv 9))) (pg_sub (pv 3) (pe_op op_add (pv 5) (pv 8)) set_list)))))))))
      (pss_one (ps_ret (pe_ifExp (pt_cmpR op_eq (pe_callB (cr_lenK K) (by rfl) T.z_len (by decide +kernel) (pa_cons (pe_call G_cut (hr.mono (by omega)) (by rfl) T.g_cut T.f_cut.kp T.b_cut .nil pass0 (pa_cons (pv 3) pa_nil)) pa_nil)) pe_int (nomark _)) (pv 4) pe_non)))))), ?_⟩
    have hne : 0 < s.length := Nat.pos_of_ne_zero fun z => by
      have := pre.last
      rw [cf_ge (by omega)] at this
      omega
    obtain ⟨l, hl⟩ : ∃ l, s.length = l + 1 := ⟨s.length - 1, by omega⟩
    have lst0 : 0 < cf s l := by
      have := pre.last
      rw [hl] at this
      exact this
    have pl1 := pre.l1
    walk_at "go0"
    refine r_listL (SqL.of hp) fun R H1 n1 => ?_
    walk_at "go"
    have el : (((s.map V.int).length : Nat) : Int) - 1 = (l : Int) := by rw [List.length_map, hl]; omega
    rw [el]
    refine r_new (Nat.le_of_ble_eq_true rfl) fun D0 H2 n2 => ?_
    walk_at "go"
    generalize hN : f.length - l = N
    have eN : (if (0 : Int) > (((f.map V.int).length : Nat) : Int) - (l : Int) then (0 : Int) else (((f.map V.int).length : Nat) : Int) - (l : Int)) = (N : Int) := by
      rw [List.length_map]
      split <;> omega
    rw [eN]
    refine r_rep1 n2.at (by omega) (by omega) fun D H3 n3 => ?_
    rw [Int.toNat_natCast, rep_ints] at n3
    have sH : Same H H3 := (n1.same.trans n2.same).trans n3.same
    have nR : H R = none := n1.1
    have nD : H D = none := (n1.same.trans n2.same).free n3.1
    have hR3 : H3 R = some (.lst (f.map V.int)) := n3.same _ _ (n2.same _ _ n1.at)
    have RD : R ≠ D := ne_of_none (n2.same _ _ n1.at) n3.1
    walk_at "go"
    have em : ((((List.replicate N (0 : Int)).map V.int).length : Nat) : Int) - 1 = (N : Int) - 1 := by rw [List.length_map, List.length_replicate]
    rw [em]
    refine l_down (by omega) (by omega) (fun i σ' H' => ∃ a5 a6 a7 a8 a9 zs rs, σ' = [some (.ref p), some (.ref q), some (.int (l : Int)), some (.ref R), some (.ref D), a5, a6, a7, a8, a9] ∧ Same H H' ∧ H' D = some (.lst (zs.map V.int)) ∧ H' R = some (.lst (rs.map V.int)) ∧ zs.length = N ∧ rs.length = f.length ∧ Left f s zs rs i l ∧ (∀ j, j < i → cf zs j = 0) ∧ (∀ k, (cf rs k).natAbs < 2 ^ (A + (N - i) * (B + 1))) ∧ ∀ k, (cf zs k).natAbs < 2 ^ (A + (N - i) * (B + 1)))
      ⟨_, _, _, _, _, _, f, rfl, sH, n3.at, hR3, List.length_replicate, rfl, ⟨fun k => ?_, fun k hk => ?_⟩, fun j _ => cf_replicate _ j, fun k => ?_, fun k => ?_⟩ (fun i σ' H' hi z => ?_) fun σ' H' z => ?_
    · rw [pmul_congr (h := fun _ => 0) (fun i => cf_replicate N i), pmul_zero]
      omega
    · exact cf_ge (by omega)
    · exact Nat.lt_of_lt_of_le (pre.sf k) (Nat.pow_le_pow_right (by decide) (Nat.le_add_right _ _))
    · rw [cf_replicate]
      exact Nat.two_pow_pos _
    · obtain ⟨a5, a6, a7, a8, a9, zs, rs, rfl, z1, z2, z3, z4, z5, z6, z7, z8, z9⟩ := z
      have hiN : i < N := by omega
      have hb : A + (N - (i + 1)) * (B + 1) + B + 1 = A + (N - i) * (B + 1) := by
        obtain ⟨m, hm⟩ : ∃ m, N - i = m + 1 := ⟨N - i - 1, by omega⟩
        rw [hm, show N - (i + 1) = m by omega, Nat.succ_mul]
        omega
      have hb2 : A + (N - i) * (B + 1) ≤ 400000 := by
        have : (N - i) * (B + 1) ≤ f.length * (B + 1) := Nat.mul_le_mul_right _ (by omega)
        have := pre.small
        omega
      generalize hA' : A + (N - (i + 1)) * (B + 1) = A' at z8 z9 hb
      have hA0 : 0 < A' := by have := pre.a0; omega
      walk_at "go"
      refine r_ixLn (i := i + l) z3 (by omega) (by omega) ?_
      walk_at "go"
      refine r_ixLast (z1 _ _ hq) hne ?_
      rw [show s.length - 1 = l by omega]
      walk_at "go"
      refine r_divmod lst0 (Nat.lt_of_lt_of_le (pre.ss l) (Nat.pow_le_pow_right (by decide) pre.b)) fun t H4 n4 => ?_
      have st : (cf rs (i + l) / cf s l).natAbs < 2 ^ A' := div_size (z8 _)
      have stm : cf rs (i + l) = (cf rs (i + l) / cf s l) * cf s l + cf rs (i + l) % cf s l := by
        have := Int.mul_ediv_add_emod (cf rs (i + l)) (cf s l)
        rw [Int.mul_comm]
        omega
      generalize hst : cf rs (i + l) / cf s l = x at st stm n4
      generalize hlf : cf rs (i + l) % cf s l = y at stm n4
      walk_at "g"
      have z1' := z1.trans n4.same
      refine r_if ?_
      walk_at "go"
      refine r_ndec (fun h => ?_) (fun h => ?_)
      · walk_at "go"
        exact k2 (Left.no hl (by omega) z6 (by rw [hlf]; exact h)) _ z1'
      · walk_at "go"
        refine r_setLn (n4.same _ _ z2) rfl (by omega) fun H5 m5 => ?_
        have z15 : Same H H5 := m5.same0 z1' nD
        have hR5 : H5 R = some (.lst (rs.map V.int)) := by rw [m5.ne RD]; exact n4.same _ _ z3
        walk_at "go"
        refine l_enum (SqL.of (z15 _ _ hq)) (fun k σ' H' => ∃ a8 a9 rs', σ' = [some (.ref p), some (.ref q), some (.int (l : Int)), some (.ref R), some (.ref D), some (.int (i : Int)), some (.int x), some (.int y), a8, a9] ∧ Same H H' ∧ H' D = some (.lst ((zs.set i x).map V.int)) ∧ H' R = some (.lst (rs'.map V.int)) ∧ rs'.length = f.length ∧ ∀ j, cf rs' j = cf rs j - if i ≤ j ∧ j - i < k then x * cf s (j - i) else 0) ⟨_, _, rs, rfl, z15, m5.at, hR5, z5, fun j => by rw [if_neg (by omega)]; omega⟩ (fun k σ' H' _ z => ?_) (fun k x' σ' H' t' H6 e z nt => ?_) fun σ' H' z => ?_
        · obtain ⟨_, _, _, _, h, _⟩ := z
          exact SqL.of (h _ _ hq)
        · obtain ⟨a8, a9, rs', rfl, y1, y2, y3, y4, y5⟩ := z
          obtain ⟨rfl, hk⟩ := int_at e
          have e0 : (i : Int) + (k : Int) = ((i + k : Nat) : Int) := by omega
          walk_at "go"
          refine r_ixLn (nt.same _ _ y3) e0 (by omega) ?_
          walk_at "go"
          · refine r_setLn (nt.same _ _ y3) e0 (by omega) fun H7 mu => ?_
            refine ⟨_, _, _, rfl, mu.same0 (y1.trans nt.same) nR, by rw [mu.ne RD.symm]; exact nt.same _ _ y2, mu.at, by rw [List.length_set]; exact y4, fun j => ?_⟩
            rw [cf_set (by omega), y5, y5]
            by_cases hj : j = i + k
            · rw [if_pos hj, if_neg (by omega), if_pos (by omega), hj, show i + k - i = k by omega]
              omega
            · rw [if_neg hj]
              by_cases h2 : i ≤ j ∧ j - i < k
              · rw [if_pos h2, if_pos (by omega)]
              · rw [if_neg h2, if_neg (by omega)]
          · exact mulW A' B st (pre.ss k) hA0 pre.b0 (by have := pre.b; omega)
        · obtain ⟨a8, a9, rs', rfl, y1, y2, y3, y4, y5⟩ := z
          rw [List.length_map] at y5
          have hbeh : ∀ j, cf rs' j = cf rs j - x * beh i (cf s) j := fun j => by
            rw [y5]
            unfold beh
            by_cases h2 : i ≤ j
            · rw [if_pos h2]
              by_cases h3 : j - i < s.length
              · rw [if_pos ⟨h2, h3⟩]
              · rw [if_neg (by omega), cf_ge (l := s) (by omega), Int.mul_zero]
            · rw [if_neg h2, if_neg (by omega), Int.mul_zero]
          refine ⟨_, _, _, _, _, zs.set i x, rs', rfl, y1, y2, y3, by rw [List.length_set]; exact z4, y4, z6.next hl (by omega) (z7 i (by omega)) (by omega) hbeh, fun j hj => ?_, fun j => ?_, fun j => ?_⟩
          · rw [cf_set (by omega), if_neg (by omega)]
            exact z7 j (by omega)
          · rw [hbeh]
            refine step_size (z8 j) st (b := B) ?_ (by omega)
            unfold beh
            split
            · exact pre.ss _
            · exact Nat.two_pow_pos _
          · have hle : 2 ^ A' ≤ 2 ^ (A + (N - i) * (B + 1)) := Nat.pow_le_pow_right (by decide) (by omega)
            rw [cf_set (by omega)]
            split
            · exact Nat.lt_of_lt_of_le st hle
            · exact Nat.lt_of_lt_of_le (z9 j) hle
    · obtain ⟨a5, a6, a7, a8, a9, zs, rs, rfl, z1, z2, z3, z4, z5, z6, z7, z8, z9⟩ := z
      walk_at "go"
      refine c_cut rfl (SqL.of z3) el_ints (by rw [List.length_map]; omega) fun e u H4 he nu => ?_
      obtain ⟨c1, c2, c3⟩ := cut_ints he
      walk_at "go"
      have le : (((rs.map V.int).take e).length : Int) = (e : Int) := by rw [List.length_take, List.length_map]; omega
      refine r_dec (fun h => ?_) (fun h => ?_)
      · walk_at "go"
        have e0 : e = 0 := by omega
        refine k1 D zs _ nD (z1.trans nu.same) (nu.same _ _ z2) ⟨z6.found fun k => ?_, by omega, fun k => ?_⟩
        · rw [← c1 k, e0]
          rfl
        · refine Nat.lt_of_lt_of_le (z9 k) (Nat.pow_le_pow_right (by decide) (Nat.add_le_add_left (Nat.mul_le_mul_right _ (by omega)) _))
      · walk_at "go"
        refine k2 (Left.end hl (by omega) z6 ⟨e - 1, ?_⟩) _ (z1.trans nu.same)
        rcases c2 with c2 | c2
        · omega
        · exact c2
end
end Al

set_option Elab.async false
set_option linter.all false
set_option maxRecDepth 100000
set_option maxHeartbeats 4000000
set_option exponentiation.threshold 20000
open PySem PySem.Spec PyProof.Rows L2 Al
namespace Al
structure WB (ns : List Int) (b : Int) (ws : List Int) (L : Int) : Prop where
  len : ws.length ≤ 500
  l0 : 0 < L
  lb : L.natAbs < 2 ^ 400
  eq : ∀ i, cf ws i * b = cf ns i * L
  sz : ∀ i, (cf ws i).natAbs < 2 ^ 400
  ln : ws.length = (Ln ns b).length
section
variable {P : Program} {w : World} {K : PySem.W.Frag} {mg : Str → Option Value} {base : Heap}
theorem c_wholeB {v : V} {ns : List Int} {b : Int} {H : Hp} {Q : VK} {E : XK} {vs : List V} (e : vs = [v]) (h : LnB K H v ns b) (q : ∀ t p ws L H', H p = none → Same H H' → Tp K H' t [.ref p, .int L] → H' p = some (.lst (ws.map V.int)) → WB ns b ws L → Q (.ref t) H') : sp_whole K vs H Q E := by
  have hu : (2 : Nat) ^ 400 ≤ 2 ^ 3000 := Nat.pow_le_pow_right (by decide) (by decide)
  have l1 := Ln_len ns b
  have l2 := h.len
  refine c_whole e h.at' (by omega) h.b0 (Nat.lt_of_lt_of_le h.bs hu) (fun i => Nat.lt_of_lt_of_le (h.nz i) hu) (fun i => qf_Ln ns b i) fun t p ws L H' a1 a2 a3 a4 a5 => q t p ws L H' a1 a2 a3 a4 ⟨?_, a5.2.1, ?_, a5.2.2.2.1, fun i => ?_, a5.1⟩
  · rw [a5.1]; omega
  · have b1 := a5.2.1
    have b2 := a5.2.2.1
    have b3 := h.bs
    omega
  · exact Nat.lt_of_le_of_lt (a5.size i) (h.nz i)
theorem mul4 {i j : Int} (h : i.natAbs < 2 ^ 400) (h' : j.natAbs < 2 ^ 400) : IntMulOk i j := mulW 400 400 h h' (by decide) (by decide) (by decide)
theorem prod4 {i j : Int} (h : i.natAbs < 2 ^ 400) (h' : j.natAbs < 2 ^ 400) : (i * j).natAbs < 2 ^ 8000 := Nat.lt_of_lt_of_le (wide_lt h h') (Nat.pow_le_pow_right (by decide) (by decide))
theorem mem_cf {ns : List Int} {n : Int} (h : n ∈ ns) : ∃ i, cf ns i = n := by
  obtain ⟨i, e⟩ := List.mem_iff_getElem?.mp h
  exact ⟨i, cf_get e⟩
def sp_plus (K : PySem.W.Frag) : Sp := fun vs H Q _ => ∃ (u v : V) (n1 n2 ws : List Int) (b1 b2 B : Int), vs = [u, v] ∧ LnB K H u n1 b1 ∧ LnB K H v n2 b2 ∧ B ≠ 0 ∧ (∀ i, cf ws i * (b1 * b2) = (cf n1 i * b2 + cf n2 i * b1) * B) ∧ RetLn K H Q (Ln ws B)
theorem c_plus {u v : V} {n1 n2 ws : List Int} {b1 b2 B : Int} {H : Hp} {Q : VK} {E : XK} {vs : List V} (e : vs = [u, v]) (h1 : LnB K H u n1 b1) (h2 : LnB K H v n2 b2) (hB : B ≠ 0) (r : ∀ i, cf ws i * (b1 * b2) = (cf n1 i * b2 + cf n2 i * b1) * B) (k : RetLn K H Q (Ln ws B)) : sp_plus K vs H Q E := ⟨u, v, n1, n2, ws, b1, b2, B, e, h1, h2, hB, r, k⟩
theorem ok_line_plus (T : Txt K mg) : FnOk P w K mg base CX0 6 T.a_line_plus T.d_line_plus p_line_plus (sp_plus K) := by
  have G_whole : FnOk P w K mg base CX0 1 T.a_whole T.d_whole p_whole (sp_whole K) := ok_whole T
  have G_scaled : FnOk P w K mg base CX0 1 T.a_scaled T.d_scaled p_scaled (sp_scaled K) := ok_scaled T
  have G_summed : FnOk P w K mg base CX0 2 T.a_summed T.d_summed p_summed (sp_summed K) := ok_summed T
  have G_by_bottom : FnOk P w K mg base CX0 5 T.a_by_bottom T.d_by_bottom p_by_bottom (sp_bottom K) := ok_by_bottom T
  refine T.f_line_plus.ok sc_line_plus (fun vs H Q E h => ?_) (fun cdv AA outer sd H vs Q E hr h => ?_)
  · obtain ⟨u, v, n1, n2, ws, b1, b2, B, rfl, _⟩ := h; rfl
  · obtain ⟨u, v, n1, n2, ws, b1, b2, B, rfl, h1, h2, hB, r, k⟩ := h
    refine ⟨_, (pss_cons (ps_asg (pe_call G_whole (hr.mono (by omega)) (by rfl) T.g_whole T.f_whole.kp T.b_whole .nil pass0 (pa_cons (pv 0) pa_nil)) (pg_tup (n := 2) rfl (pgs_cons (pg_name (i := 2) sc_line_plus.nd rfl (.inl rfl)) (pgs_cons (pg_name (i := 3) sc_line_plus.nd rfl (.inl rfl)) pgs_nil))))
      (pss_cons (ps_asg (pe_call G_whole (hr.mono (by omega)) (by rfl) T.g_whole T.f_whole.kp T.b_whole .nil pass0 (pa_cons (pv 1) pa_nil)) (pg_tup (n := 2) rfl (pgs_cons (pg_name (i := 4) sc_line_plus.nd rfl (.inl rfl)) (pgs_cons (pg_name (i := 5) sc_line_plus.nd rfl (.inl rfl)) pgs_nil))))
      (pss_cons (ps_set (i := 6) sc_line_plus.nd rfl (.inl rfl) (pe_call G_summed (hr.mono (by omega)) (by rfl) T.g_summed T.f_summed.kp T.b_summed .nil pass0 (pa_cons (pe_call G_scaled (hr.mono (by omega)) (by rfl) T.g_scaled T.f_scaled.kp T.b_scaled .nil pass0 (pa_cons (pv 2) (pa_cons (pv 5) pa_nil))) (pa_cons (pe_call G_scaled (hr.mono (by omega)) (by rfl) T.g_scaled T.f_scaled.kp T.b_scaled .nil pass0 (pa_cons (pv 4) (pa_cons (pv 3) pa_nil))) pa_nil))))
      (pss_one (ps_ret (pe_call G_by_bottom (hr.mono (by omega)) (by rfl) T.g_by_bottom T.f_by_bottom.kp T.b_by_bottom .nil pass0 (pa_cons (pv 6) (pa_cons (pe_op op_mulZ (pv 3) (pv 5)) pa_nil)))))))), ?_⟩
    walk_at "go0"
    refine c_wholeB rfl h1 fun t1 p1 f L1 H1 a1 a2 a3 a4 w1 => ?_
    walk_at "go"
    refine c_wholeB rfl (h2.keep (TK.of a2)) fun t2 p2 s L2 H2 c1 c2 c3 c4 w2 => ?_
    have l1 := w1.len
    have l2 := w2.len
    walk_at "go"
    refine c_scaled rfl (SqL.of (c2 _ _ a4)) (fun n hn => ?_) (by omega) fun p3 x3 H3 d1 d2 d3 d4 => ?_
    · obtain ⟨i, rfl⟩ := mem_cf hn
      exact mul4 (w1.sz i) w2.lb
    walk_at "go"
    refine c_scaled rfl (SqL.of (d2 _ _ c4)) (fun n hn => ?_) (by omega) fun p4 x4 H4 e1 e2 e3 e4 => ?_
    · obtain ⟨i, rfl⟩ := mem_cf hn
      exact mul4 (w2.sz i) w1.lb
    walk_at "go"
    refine c_summed rfl (SqL.of (e2 _ _ d3)) (SqL.of e3) (by rw [d4, List.length_map]; omega) (by rw [e4, List.length_map]; omega) fun p5 x5 H5 f1 f2 f3 f4 => ?_
    walk_at "go"
    · refine c_bottom rfl (SqL.of f3) (Int.mul_ne_zero (by have := w1.l0; omega) (by have := w2.l0; omega)) (prod4 w1.lb w2.lb) (by have := f4.1; rw [d4, e4, List.length_map, List.length_map] at this; omega) fun v H6 s6 lv => ?_
      refine k v H6 (((((a2.trans c2).trans d2).trans e2).trans f2).trans s6) ?_
      have : Ln x5 (L1 * L2) = Ln ws B := Ln_eq (Int.mul_ne_zero (by have := w1.l0; omega) (by have := w2.l0; omega)) hB fun i => by
        rw [f4.2, d4, e4, cf_map (f := fun n => n * L2) (Int.zero_mul _), cf_map (f := fun n => n * L1) (Int.zero_mul _)]
        exact sum_eq (by have := h1.b0; omega) (by have := h2.b0; omega) (w1.eq i) (w2.eq i) (r i)
      rw [← this]
      exact lv
    · exact mul4 w1.lb w2.lb
def sp_by (K : PySem.W.Frag) : Sp := fun vs H Q _ => ∃ (u v : V) (n1 n2 ws : List Int) (b1 b2 B : Int), vs = [u, v] ∧ LnB K H u n1 b1 ∧ LnB K H v n2 b2 ∧ B ≠ 0 ∧ (∀ i, cf ws i * (b1 * b2) = pmul n1 (cf n2) i * B) ∧ RetLn K H Q (Ln ws B)
theorem c_by {u v : V} {n1 n2 ws : List Int} {b1 b2 B : Int} {H : Hp} {Q : VK} {E : XK} {vs : List V} (e : vs = [u, v]) (h1 : LnB K H u n1 b1) (h2 : LnB K H v n2 b2) (hB : B ≠ 0) (r : ∀ i, cf ws i * (b1 * b2) = pmul n1 (cf n2) i * B) (k : RetLn K H Q (Ln ws B)) : sp_by K vs H Q E := ⟨u, v, n1, n2, ws, b1, b2, B, e, h1, h2, hB, r, k⟩
theorem ok_line_by (T : Txt K mg) : FnOk P w K mg base CX0 6 T.a_line_by T.d_line_by p_line_by (sp_by K) := by
  have G_whole : FnOk P w K mg base CX0 1 T.a_whole T.d_whole p_whole (sp_whole K) := ok_whole T
  have G_times : FnOk P w K mg base CX0 1 T.a_times T.d_times p_times (sp_times K) := ok_times T
  have G_by_bottom : FnOk P w K mg base CX0 5 T.a_by_bottom T.d_by_bottom p_by_bottom (sp_bottom K) := ok_by_bottom T
  refine T.f_line_by.ok sc_line_by (fun vs H Q E h => ?_) (fun cdv AA outer sd H vs Q E hr h => ?_)
  · obtain ⟨u, v, n1, n2, ws, b1, b2, B, rfl, _⟩ := h; rfl
  · obtain ⟨u, v, n1, n2, ws, b1, b2, B, rfl, h1, h2, hB, r, k⟩ := h
    refine ⟨_, (pss_cons (ps_asg (pe_call G_whole (hr.mono (by omega)) (by rfl) T.g_whole T.f_whole.kp T.b_whole .nil pass0 (pa_cons (pv 0) pa_nil)) (pg_tup (n := 2) rfl (pgs_cons (pg_name (i := 2) sc_line_by.nd rfl (.inl rfl)) (pgs_cons (pg_name (i := 3) sc_line_by.nd rfl (.inl rfl)) pgs_nil))))
      (pss_cons (ps_asg (pe_call G_whole (hr.mono (by omega)) (by rfl) T.g_whole T.f_whole.kp T.b_whole .nil pass0 (pa_cons (pv 1) pa_nil)) (pg_tup (n := 2) rfl (pgs_cons (pg_name (i := 4) sc_line_by.nd rfl (.inl rfl)) (pgs_cons (pg_name (i := 5) sc_line_by.nd rfl (.inl rfl)) pgs_nil))))
      (pss_one (ps_ret (pe_call G_by_bottom (hr.mono (by omega)) (by rfl) T.g_by_bottom T.f_by_bottom.kp T.b_by_bottom .nil pass0 (pa_cons (pe_call G_times (hr.mono (by omega)) (by rfl) T.g_times T.f_times.kp T.b_times .nil pass0 (pa_cons (pv 2) (pa_cons (pv 4) pa_nil))) (pa_cons (pe_op op_mulZ (pv 3) (pv 5)) pa_nil))))))), ?_⟩
    have hu : (2 : Nat) ^ 400 ≤ 2 ^ 3000 := Nat.pow_le_pow_right (by decide) (by decide)
    walk_at "go0"
    refine c_wholeB rfl h1 fun t1 p1 f L1 H1 a1 a2 a3 a4 w1 => ?_
    walk_at "go"
    refine c_wholeB rfl (h2.keep (TK.of a2)) fun t2 p2 s L2 H2 c1 c2 c3 c4 w2 => ?_
    have l1 := w1.len
    have l2 := w2.len
    walk_at "go"
    refine c_times rfl (SqL.of (c2 _ _ a4)) (SqL.of c4) (by omega) (by omega) (fun i => Nat.lt_of_lt_of_le (w1.sz i) hu) (fun i => Nat.lt_of_lt_of_le (w2.sz i) hu) fun p5 x5 H5 f1 f2 f3 f4 => ?_
    walk_at "go"
    · refine c_bottom rfl (SqL.of f3) (Int.mul_ne_zero (by have := w1.l0; omega) (by have := w2.l0; omega)) (prod4 w1.lb w2.lb) (by have := f4.1; omega) fun v H6 s6 lv => ?_
      refine k v H6 (((a2.trans c2).trans f2).trans s6) ?_
      have : Ln x5 (L1 * L2) = Ln ws B := Ln_eq (Int.mul_ne_zero (by have := w1.l0; omega) (by have := w2.l0; omega)) hB fun i => by
        rw [f4.2]
        exact prod_eq (by have := h1.b0; omega) (by have := h2.b0; omega) (pmul_both w1.eq w2.eq i) (r i)
      rw [← this]
      exact lv
    · exact mul4 w1.lb w2.lb
def sp_quot (K : PySem.W.Frag) : Sp := fun vs H Q _ => ∃ (u v : V) (n1 n2 : List Int) (b1 b2 : Int), vs = [u, v] ∧ LnB K H u n1 b1 ∧ LnB K H v n2 b2 ∧ Ln n2 b2 ≠ [] ∧
  ((∃ ws B, B ≠ 0 ∧ Rel n1 b1 n2 b2 ws B ∧ RetLn K H Q (Ln ws B)) ∨ ((∀ ws B, B ≠ 0 → ¬ Rel n1 b1 n2 b2 ws B) ∧ ∀ H', Same H H' → Q .non H'))
theorem c_quot {u v : V} {n1 n2 ws : List Int} {b1 b2 B : Int} {H : Hp} {Q : VK} {E : XK} {vs : List V} (e : vs = [u, v]) (h1 : LnB K H u n1 b1) (h2 : LnB K H v n2 b2) (hn : Ln n2 b2 ≠ []) (hB : B ≠ 0) (r : Rel n1 b1 n2 b2 ws B) (k : RetLn K H Q (Ln ws B)) : sp_quot K vs H Q E := ⟨u, v, n1, n2, b1, b2, e, h1, h2, hn, .inl ⟨ws, B, hB, r, k⟩⟩
theorem c_quotN {u v : V} {n1 n2 : List Int} {b1 b2 : Int} {H : Hp} {Q : VK} {E : XK} {vs : List V} (e : vs = [u, v]) (h1 : LnB K H u n1 b1) (h2 : LnB K H v n2 b2) (hn : Ln n2 b2 ≠ []) (r : ∀ ws B, B ≠ 0 → ¬ Rel n1 b1 n2 b2 ws B) (k : ∀ H', Same H H' → Q .non H') : sp_quot K vs H Q E := ⟨u, v, n1, n2, b1, b2, e, h1, h2, hn, .inr ⟨r, k⟩⟩
theorem ref_non {p : Addr} : decide (V.ref p = V.non) = false := decide_eq_false fun h => by cases h
theorem non_non : decide (V.non = V.non) = true := decide_eq_true rfl
theorem ok_line_quotient (T : Txt K mg) : FnOk P w K mg base CX0 6 T.a_line_quotient T.d_line_quotient p_line_quotient (sp_quot K) := by
  have G_whole : FnOk P w K mg base CX0 1 T.a_whole T.d_whole p_whole (sp_whole K) := ok_whole T
  have G_primitive : FnOk P w K mg base CX0 2 T.a_primitive T.d_primitive p_primitive (sp_prim K) := ok_primitive T
  have G_exact : FnOk P w K mg base CX0 2 T.a_exact T.d_exact p_exact (sp_exact K) := ok_exact T
  have G_scaled : FnOk P w K mg base CX0 1 T.a_scaled T.d_scaled p_scaled (sp_scaled K) := ok_scaled T
  have G_by_bottom : FnOk P w K mg base CX0 5 T.a_by_bottom T.d_by_bottom p_by_bottom (sp_bottom K) := ok_by_bottom T
  refine T.f_line_quotient.ok sc_line_quotient (fun vs H Q E h => ?_) (fun cdv AA outer sd H vs Q E hr h => ?_)
  · obtain ⟨u, v, n1, n2, b1, b2, rfl, _⟩ := h; rfl
  · obtain ⟨u, v, n1, n2, b1, b2, rfl, h1, h2, hn, hk⟩ := h
    refine ⟨_, (pss_cons (ps_asg (pe_call G_whole (hr.mono (by omega)) (by rfl) T.g_whole T.f_whole.kp T.b_whole .nil pass0 (pa_cons (pv 0) pa_nil)) (pg_tup (n := 2) rfl (pgs_cons (pg_name (i := 2) sc_line_quotient.nd rfl (.inl rfl)) (pgs_cons (pg_name (i := 3) sc_line_quotient.nd rfl (.inl rfl)) pgs_nil))))
      (pss_cons (ps_asg (pe_call G_whole (hr.mono (by omega)) (by rfl) T.g_whole T.f_whole.kp T.b_whole .nil pass0 (pa_cons (pv 1) pa_nil)) (pg_tup (n := 2) rfl (pgs_cons (pg_name (i := 4) sc_line_quotient.nd rfl (.inl rfl)) (pgs_cons (pg_name (i := 5) sc_line_quotient.nd rfl (.inl rfl)) pgs_nil))))
      (pss_cons (ps_set (i := 6) sc_line_quotient.nd rfl (.inl rfl) (pe_call G_primitive (hr.mono (by omega)) (by rfl) T.g_primitive T.f_primitive.kp T.b_primitive .nil pass0 (pa_cons (pv 4) pa_nil)))
      (pss_cons (ps_set (i := 7) sc_line_quotient.nd rfl (.inl rfl) (pe_call G_exact (hr.mono (by omega)) (by rfl) T.g_exact T.f_exact.kp T.b_exact .nil pass0 (pa_cons (pv 2) (pa_cons (pv 6) pa_nil))))
      (pss_cons (ps_if (pt_cmpR op_isNo (pv 7) pe_non (nomark _))
        (pss_one (ps_ret pe_non)) pss_nil)
      (pss_one (ps_ret (pe_call G_by_bottom (hr.mono (by omega)) (by rfl) T.g_by_bottom T.f_by_bottom.kp T.b_by_bottom .nil pass0 (pa_cons (pe_call G_scaled (hr.mono (by omega)) (by rfl) T.g_scaled T.f_scaled.kp T.b_scaled .nil pass0 (pa_cons (pv 7) (pa_cons (pv 5) pa_nil))) (pa_cons (pe_op op_mulZ (pv 3) (pe_op op_fdivZ (pe_ix (ix_sqK K) (pv 4) (pe_un un_neg pe_int) (fun _ _ => rfl)) (pe_ix (ix_sqK K) (pv 6) (pe_un un_neg pe_int) (fun _ _ => rfl)))) pa_nil)))))))))), ?_⟩
    walk_at "go0"
    refine c_wholeB rfl h1 fun t1 p1 f L1 H1 a1 a2 a3 a4 w1 => ?_
    walk_at "go"
    refine c_wholeB rfl (h2.keep (TK.of a2)) fun t2 p2 s L2 H2 c1 c2 c3 c4 w2 => ?_
    have l1 := w1.len
    have l2 := w2.len
    have b10 := h1.b0
    have b20 := h2.b0
    have L10 := w1.l0
    have L20 := w2.l0
    have n20 := Ln_last (show b2 ≠ 0 by omega) hn
    rw [← w2.ln] at n20
    have sl0 : cf s (s.length - 1) ≠ 0 := fun z => by
      have e := w2.eq (s.length - 1)
      rw [z, Int.zero_mul] at e
      rcases Int.mul_eq_zero.mp e.symm with e | e
      · exact n20 e
      · omega
    walk_at "go"
    refine c_prim rfl c4 (by omega) sl0 (Nat.lt_of_lt_of_le (w2.sz _) (Nat.pow_le_pow_right (by decide) (by decide))) fun p3 ps H3 d1 d2 d3 d4 => ?_
    obtain ⟨c, pr⟩ := d4
    have cs : c.natAbs < 2 ^ 400 := by
      have e := pr.eq (s.length - 1)
      have e2 := congrArg Int.natAbs e
      rw [Int.natAbs_mul] at e2
      have : 0 < (cf ps (s.length - 1)).natAbs := by have := pr.last; omega
      have := Nat.le_mul_of_pos_right c.natAbs this
      exact Nat.lt_of_le_of_lt (by omega) (w2.sz (s.length - 1))
    have psl : ps.length = s.length := pr.len
    have sne : 0 < s.length := Nat.pos_of_ne_zero fun z => sl0 (cf_ge (by omega))
    walk_at "go"
    refine c_exact (A := 400) (B := 400) rfl (d2 _ _ (c2 _ _ a4)) d3 ⟨by omega, by omega, by rw [psl]; exact pr.last, w1.sz, fun i => Nat.lt_of_le_of_lt (pr.le i) (w2.sz i), ?_, by decide, by decide, by decide⟩ (fun p4 wq H4 e1 e2 e3 e4 => ?_) fun no H4 e2 => ?_
    · have : f.length * (400 + 1) ≤ 500 * 401 := Nat.mul_le_mul_right _ l1
      omega
    · obtain ⟨e5, e6, e7⟩ := e4
      walk_at "go"
      rw [ref_non]
      walk_at "go"
      refine c_scaled rfl (SqL.of e3) (fun n hn => ?_) (by omega) fun p5 x5 H5 f1 f2 f3 f4 => ?_
      · obtain ⟨i, rfl⟩ := mem_cf hn
        have small : 400 + f.length * (400 + 1) + 400 ≤ 1000000 := by
          have : f.length * (400 + 1) ≤ 500 * 401 := Nat.mul_le_mul_right _ l1
          omega
        exact mulW _ 400 (e7 i) w2.lb (by omega) (by decide) small
      walk_at "go"
      refine r_ixLast (f2 _ _ (e2 _ _ (d2 _ _ c4))) sne ?_
      walk_at "go"
      refine r_ixLast (f2 _ _ (e2 _ _ d3)) (by omega) ?_
      rw [psl]
      walk_at "go"
      have ec : (cf s (s.length - 1)).fdiv (cf ps (s.length - 1)) = c := by
        rw [pr.eq (s.length - 1)]
        exact Int.mul_fdiv_cancel _ (by have := pr.last; omega)
      · rw [ec]
        have hB : L1 * c ≠ 0 := Int.mul_ne_zero (by omega) pr.c0
        have rel := quot_rel (wq := wq) w1.eq w2.eq pr e5
        refine c_bottom rfl (SqL.of f3) hB (prod4 w1.lb cs) (by rw [f4, List.length_map]; omega) fun v H6 s6 lv => ?_
        rcases hk with ⟨ws, B, B0, rel2, k⟩ | ⟨no, k⟩
        · have : Ln x5 (L1 * c) = Ln ws B := Ln_eq hB B0 fun i => by
            rw [f4]
            exact quot_one (show b1 ≠ 0 by omega) n20 rel rel2 i
          refine k v H6 (((((a2.trans c2).trans d2).trans e2).trans f2).trans s6) ?_
          rw [← this]
          exact lv
        · exact absurd rel (no _ _ hB)
      · have ec : (cf s (s.length - 1)).fdiv (cf ps (s.length - 1)) = c := by
          rw [pr.eq (s.length - 1)]
          exact Int.mul_fdiv_cancel _ (by have := pr.last; omega)
        rw [ec]
        exact mul4 w1.lb cs
      · refine ⟨by have := pr.last; omega, ?_⟩
        exact Nat.lt_of_lt_of_le (Nat.lt_of_le_of_lt (pr.le _) (w2.sz _)) (Nat.pow_le_pow_right (by decide) (by decide))
    · walk_at "go"
      rw [non_non]
      walk_at "go"
      rcases hk with ⟨ws, B, B0, rel2, k⟩ | ⟨no', k⟩
      · exact absurd no (quot_some (by omega) (by omega) (by omega) w1.eq w2.eq pr B0 rel2)
      · exact k H4 (((a2.trans c2).trans d2).trans e2)
def sp_back (K : PySem.W.Frag) : Sp := fun vs H Q _ => ∃ (v : V) (qs : List Rat), vs = [v] ∧ LnV K H v qs ∧ qs.length ≤ 1000 ∧ (∀ q ∈ qs, q.den < 2 ^ 8000) ∧ RetLn K H Q (cutR qs.reverse)
theorem c_back {v : V} {qs : List Rat} {H : Hp} {Q : VK} {E : XK} {vs : List V} (e : vs = [v]) (h : LnV K H v qs) (hl : qs.length ≤ 1000) (hd : ∀ q ∈ qs, q.den < 2 ^ 8000) (k : RetLn K H Q (cutR qs.reverse)) : sp_back K vs H Q E := ⟨v, qs, e, h, hl, hd, k⟩
theorem CL.rev {H : Hp} {vs : List V} {qs : List Rat} (h : CL K H vs qs) : CL K H vs.reverse qs.reverse := by
  refine ⟨by rw [List.length_reverse, List.length_reverse, h.1], fun i v e => ?_⟩
  have hi := (List.getElem?_eq_some_iff.mp e).1
  rw [List.length_reverse] at hi
  rw [List.getElem?_reverse hi] at e
  rw [List.getElem?_reverse (by rw [← h.1]; exact hi), ← h.1]
  exact h.2 _ _ e
theorem ok_line_backwards (T : Txt K mg) : FnOk P w K mg base CX0 5 T.a_line_backwards T.d_line_backwards p_line_backwards (sp_back K) := by
  have G_line_of : FnOk P w K mg base CX0 4 T.a_line_of T.d_line_of p_line_of (sp_lineof K) := ok_line_of T
  refine T.f_line_backwards.ok sc_line_backwards (fun vs H Q E h => ?_) (fun cdv AA outer sd H vs Q E hr h => ?_)
  · obtain ⟨v, qs, rfl, _⟩ := h; rfl
  · obtain ⟨v, qs, rfl, ⟨t, vs, rfl, ht, hc⟩, hl, hd, k⟩ := h
    refine ⟨_, (pss_one (ps_ret (pe_call G_line_of (hr.mono (by omega)) (by rfl) T.g_line_of T.f_line_of.kp T.b_line_of .nil pass0 (pa_cons (pe_revTK K (pv 0)) pa_nil)))), ?_⟩
    walk_at "go0"
    refine r_revT ht.sq fun p H1 np => ?_
    walk_at "go"
    refine c_lineof rfl (.inr (Tp.new np).sq) ((hc.rev.keep np.tk).cr fun q hq => hd q (List.mem_reverse.mp hq)) (by rw [List.length_reverse, hc.1]; exact hl) fun v H2 s2 lv => k v H2 (np.same.trans s2) lv
def oneLess (n : Nat) : List Int := if n = 0 then [] else [1] ++ List.replicate (n - 1) 0 ++ [-1]
def sp_oneless (K : PySem.W.Frag) : Sp := fun vs H Q _ => ∃ n : Nat, vs = [.int (n : Int)] ∧ n ≤ 900 ∧ ∀ t H', Same H H' → Tp K H' t ((oneLess n).map V.int) → Q (.ref t) H'
theorem c_oneless {n : Nat} {H : Hp} {Q : VK} {E : XK} {vs : List V} (e : vs = [.int (n : Int)]) (h : n ≤ 900) (k : ∀ t H', Same H H' → Tp K H' t ((oneLess n).map V.int) → Q (.ref t) H') : sp_oneless K vs H Q E := ⟨n, e, h, k⟩
theorem ok_one_less (T : Txt K mg) : FnOk P w K mg base CX0 1 T.a_one_less T.d_one_less p_one_less (sp_oneless K) := by
  refine T.f_one_less.ok sc_one_less (fun vs H Q E h => ?_) (fun cdv AA outer sd H vs Q E hr h => ?_)
  · obtain ⟨n, rfl, _⟩ := h; rfl
  · obtain ⟨n, rfl, hn, k⟩ := h
    refine ⟨_, (pss_cons (ps_if (pt_cmpR op_eq (pv 0) pe_int (nomark _))
        (pss_one (ps_ret (pe_tup pa_nil))) pss_nil)
      (pss_one (ps_ret (pe_op (op_catAK K) (pe_op (op_catAK K) (pe_tup (pa_cons pe_int pa_nil)) (pe_op (op_repAK K) (pe_tup (pa_cons pe_int pa_nil)) (pe_op op_sub (pv 0) pe_int))) (pe_tup (pa_cons (pe_un un_neg pe_int) pa_nil)))))), ?_⟩
    walk_at "go0"
    refine r_dec (fun e => ?_) (fun e => ?_)
    · walk_at "go"
      refine r_new (Nat.le_of_ble_eq_true rfl) fun p H1 np => ?_
      refine k _ _ np.same ?_
      unfold oneLess
      rw [if_pos (by omega)]
      exact Tp.new np
    · walk_at "go"
      refine r_new (Nat.le_of_ble_eq_true rfl) fun p H1 np => ?_
      walk_at "go"
      refine r_new (Nat.le_of_ble_eq_true rfl) fun p2 H2 np2 => ?_
      walk_at "go"
      refine r_repT1 (Tp.new np2) (by omega) (by omega) fun p3 H3 s3 t3 => ?_
      walk_at "go"
      refine r_catT (by walk_at "tp") t3 (by rw [List.length_replicate]; show 1 + _ ≤ _; omega) fun p4 H4 s4 t4 => ?_
      walk_at "go"
      refine r_new (Nat.le_of_ble_eq_true rfl) fun p5 H5 np5 => ?_
      walk_at "go"
      refine r_catT (t4.keep np5.tk) (Tp.new np5) (by rw [List.length_append, List.length_replicate]; show 1 + _ + 1 ≤ _; omega) fun p6 H6 s6 t6 => ?_
      refine k _ _ (((((np.same.trans np2.same).trans s3).trans s4).trans np5.same).trans s6) ?_
      unfold oneLess
      rw [if_neg (by omega)]
      have e1 : ((n : Int) - 1).toNat = n - 1 := by omega
      rw [e1, rep_ints] at t6
      rw [List.map_append, List.map_append]
      exact t6
end
end Al

set_option Elab.async false
set_option linter.all false
set_option maxRecDepth 100000
set_option maxHeartbeats 4000000
set_option exponentiation.threshold 20000
open PySem PySem.Spec PyProof.Rows L2 Al
namespace Al
/-- where draws come from -/
def DealAt (cs : List Int) (m : Int) (H : Hp) (a b : Addr) : Prop := H a = some (.lst [.ref b, .int m]) ∧ H b = some (.lst (cs.map V.int)) ∧ (∀ z ∈ cs, 0 ≤ z) ∧ cs.length ≤ 63
def DealOk (H : Hp) (a b : Addr) : Prop := ∃ cs m, DealAt cs m H a b
theorem DealAt.ne {cs : List Int} {m : Int} {H : Hp} {a b : Addr} (h : DealAt cs m H a b) : a ≠ b := by
  refine ne_of h.1 h.2.1 fun e => ?_
  injection e with e
  cases cs with
  | nil => cases e
  | cons x xs => cases e
theorem DealOk.keep {H H' : Hp} {a b : Addr} (h : DealOk H a b) (k : Same H H') : DealOk H' a b := by
  obtain ⟨cs, m, h1, h2, h3⟩ := h
  exact ⟨cs, m, k _ _ h1, k _ _ h2, h3⟩
theorem DealOk.ne {H : Hp} {a b : Addr} (h : DealOk H a b) : a ≠ b := by
  obtain ⟨_, _, h⟩ := h
  exact h.ne
/-- an object that came later is none of these -/
theorem DealOk.new {H H' : Hp} {a b p : Addr} {o : HO} (h : DealOk H a b) (n : Nw p o H H') : p ≠ a ∧ p ≠ b := by
  obtain ⟨_, _, h1, h2, _⟩ := h
  exact ⟨(n.ne h1).symm, (n.ne h2).symm⟩
theorem DealOk.none {H : Hp} {a b p : Addr} (h : DealOk H a b) (n : H p = none) : p ≠ a ∧ p ≠ b := by
  obtain ⟨_, _, h1, h2, _⟩ := h
  exact ⟨(ne_of_none h1 n).symm, (ne_of_none h2 n).symm⟩
theorem DealOk.tk {H H' : Hp} {a b : Addr} (h : DealOk H a b) (k : But a b H H') : TK H H' := by
  obtain ⟨_, _, h1, h2, _⟩ := h
  exact k.tk h1 h2
/-- handed back behind a draw -/
def Dr (a b : Addr) (H H' : Hp) : Prop := DealOk H' a b ∧ But a b H H' ∧ TK H H'
theorem Dr.of {a b : Addr} {H H' : Hp} (h : DealOk H a b) (h' : DealOk H' a b) (k : But a b H H') : Dr a b H H' := ⟨h', k, h.tk k⟩
theorem Dr.rfl' {a b : Addr} {H : Hp} (h : DealOk H a b) : Dr a b H H := ⟨h, But.of (Same.refl H), TK.rfl' H⟩
theorem Dr.trans {a b : Addr} {H H1 H2 : Hp} (h : Dr a b H H1) (h' : Dr a b H1 H2) : Dr a b H H2 := ⟨h'.1, h.2.1.trans h'.2.1, h.2.2.trans h'.2.2⟩
theorem Dr.same {a b : Addr} {H H1 H2 : Hp} (h : Dr a b H H1) (h' : Same H1 H2) : Dr a b H H2 := ⟨h.1.keep h', h.2.1.trans (But.of h'), h.2.2.trans (TK.of h')⟩
theorem Dr.nw {a b p : Addr} {o : HO} {H H1 H2 : Hp} (h : Dr a b H H1) (h' : Nw p o H1 H2) : Dr a b H H2 := h.same h'.same
theorem Dr.free {a b p : Addr} {H H1 : Hp} (h : Dr a b H H1) (n : H1 p = .none) : H p = .none := by
  cases e : H p with
  | none => rfl
  | some o =>
    by_cases h1 : p = a
    · obtain ⟨⟨_, _, q1, _⟩, _⟩ := h
      rw [h1, q1] at n
      cases n
    · by_cases h2 : p = b
      · obtain ⟨⟨_, _, _, q1, _⟩, _⟩ := h
        rw [h2, q1] at n
        cases n
      · rw [h.2.1 p o h1 h2 e] at n
        cases n
theorem Dr.mu {a b p : Addr} {o : HO} {H H1 H2 : Hp} (hd : DealOk H a b) (h : Dr a b H H1) (m : Mu p o H1 H2) (n : H p = .none) : Dr a b H H2 := by
  obtain ⟨n1, n2⟩ := hd.none n
  obtain ⟨⟨cs, x, q1, q2, q3⟩, h2, h3⟩ := h
  exact ⟨⟨cs, x, (m.ne n1.symm).trans q1, (m.ne n2.symm).trans q2, q3⟩, fun z u m1 m2 e => by rw [m.ne (ne_of_none e n)]; exact h2 z u m1 m2 e, fun z xs e => by rw [m.ne (ne_of_none e n)]; exact h3 z xs e⟩
def sp_any (K : PySem.W.Frag) : Sp := fun vs H Q _ => ∃ (a b : Addr) (n : Int), vs = [.ref a, .int n] ∧ DealOk H a b ∧ 0 < n ∧ n.natAbs < 2 ^ 3000 ∧ ∀ r H', 0 ≤ r → r < n → Dr a b H H' → Q (.int r) H'
theorem c_any {K : PySem.W.Frag} {a b : Addr} {n : Int} {H : Hp} {Q : VK} {E : XK} {vs : List V} (e : vs = [.ref a, .int n]) (h : DealOk H a b) (h0 : 0 < n) (h1 : n.natAbs < 2 ^ 3000) (q : ∀ r H', 0 ≤ r → r < n → Dr a b H H' → Q (.int r) H') : sp_any K vs H Q E :=
  ⟨a, b, n, e, h, h0, h1, q⟩
theorem concat_of {cs : List Int} (h : cs ≠ []) : ∃ ys z, cs = ys ++ [z] := ⟨cs.dropLast, cs.getLast h, (List.dropLast_concat_getLast h).symm⟩
section
variable {P : Program} {w : World} {K : PySem.W.Frag} {mg : Str → Option Value} {base : Heap}
theorem fdiv_nn {i n : Int} (h : 0 ≤ i) (h0 : 0 < n) : 0 ≤ i.fdiv n := by
  rw [Int.fdiv_eq_ediv_of_nonneg i (by omega)]
  exact Int.ediv_nonneg h (by omega)
theorem ok_any (T : Txt K mg) : FnOk P w K mg base CX0 1 T.a_law_any T.d_law_any p_law_any (sp_any K) := by
  refine T.f_law_any.ok sc_law_any (fun vs H Q E h => ?_) (fun cdv A outer s H vs Q E hr h => ?_)
  · obtain ⟨a, b, n, rfl, _⟩ := h; rfl
  · obtain ⟨a, b, n, rfl, hd, h0, h1, k⟩ := h
    refine ⟨_, (pss_cons (ps_while PassesOwn.never (PW.pt (pw_and (pt_cmpR (op_neDK K hr.units) (pe_ix (ix_sqK K) (pv 0) pe_int (fun _ _ => rfl)) (pe_lst pa_nil) (nomark _)) (pw_and1 (pt_cmpR op_eq (pe_ix (ix_sqK K) (pe_ix (ix_sqK K) (pv 0) pe_int (fun _ _ => rfl)) (pe_un un_neg pe_int) (fun _ _ => rfl)) pe_int (nomark _)))))
        (pss_one (ps_expr (pe_bm0 PySem.F.plainAttrs_list PySem.F.slot_list_pop PySem.F.type_list_pop mt_pop (pe_ix (ix_sqK K) (pv 0) pe_int (fun _ _ => rfl))))))
      (pss_cons (ps_if (pt_cmpR (op_neDK K hr.units) (pe_ix (ix_sqK K) (pv 0) pe_int (fun _ _ => rfl)) (pe_lst pa_nil) (nomark _))
        (pss_cons (ps_set (i := 2) sc_law_any.nd rfl (.inl rfl) (pe_callTy cr_int (by rfl) T.z_int (by decide +kernel) (pa_cons (pe_bm0 PySem.F.plainAttrs_list PySem.F.slot_list_pop PySem.F.type_list_pop mt_pop (pe_ix (ix_sqK K) (pv 0) pe_int (fun _ _ => rfl))) pa_nil)))
      (pss_cons (ps_expr (pe_bm PySem.F.plainAttrs_list PySem.F.slot_list_append PySem.F.type_list_append mt_append (pe_ix (ix_sqK K) (pv 0) pe_int (fun _ _ => rfl)) (pa_cons (pe_op op_fdivZ (pv 2) (pv 1)) pa_nil)))
      (pss_one (ps_ret (pe_op op_mod (pe_callTy cr_int (by rfl) T.z_int (by decide +kernel) (pa_cons (pv 2) pa_nil)) (pv 1)))))) pss_nil)
      (pss_cons (ps_asg (pe_op op_mod (pe_callTy cr_int (by rfl) T.z_int (by decide +kernel) (pa_cons (pe_op op_add (pe_op op_mulZ (pe_ix (ix_sqK K) (pv 0) pe_int (fun _ _ => rfl)) pe_int) pe_int) pa_nil)) pe_int) (pg_sub (pv 0) pe_int set_list))
      (pss_one (ps_ret (pe_op op_mod (pe_callTy cr_int (by rfl) T.z_int (by decide +kernel) (pa_cons (pe_op op_fdivZ (pe_ix (ix_sqK K) (pv 0) pe_int (fun _ _ => rfl)) pe_int) pa_nil)) (pv 1))))))), ?_⟩
    (try dsimp only [cxOf])
    obtain ⟨cs0, m, hD⟩ := id hd
    have nab := hD.ne
    refine r_seq ?_
    refine l_while (fun l σ' H' => ∃ cs, σ' = [some (.ref a), some (.int n), none] ∧ DealAt cs m H' a b ∧ But a b H H' ∧ cs.length = l) (fun σ' H' => ∃ cs, σ' = [some (.ref a), some (.int n), none] ∧ DealAt cs m H' a b ∧ But a b H H')
      (m0 := cs0.length) ⟨cs0, rfl, hD, But.of (Same.refl H), rfl⟩ (fun nx hnx l σ' H' hW => ?_) fun σ' H' hP => ?_
    · obtain ⟨cs, rfl, ⟨ha, hb, hn, hl⟩, hB, rfl⟩ := hW
      walk_at "go"
      refine r_new (Nat.le_of_ble_eq_true rfl) fun p H1 np => ?_
      walk_at "go"
      refine r_neNil (SqL.of (by walk_at "ls")) (SqL.of np.at) ?_
      walk_at "go"
      refine r_ndec (fun hc => ?_) (fun hc => ?_)
      · obtain ⟨ys, z, rfl⟩ := concat_of hc
        have hbb := hb
        rw [List.map_append] at hb
        walk_at "go"
        have hb1 : H1 b = some (.lst (ys.map V.int ++ [.int z])) := np.same _ _ hb
        have ha1 := np.same _ _ ha
        refine r_ixL (SqL.of hb1) (atI_last _ _) ?_
        walk_at "go"
        refine r_dec (fun hz => ?_) (fun hz => ?_)
        · refine ⟨_, fun _ _ h => h, ?_⟩
          walk_at "go"
          refine r_pop hb1 fun H2 mu => ?_
          refine ⟨ys.length, by rw [List.length_append, List.length_singleton]; omega, ys, rfl, ⟨by rw [mu.ne nab]; exact ha1, mu.at, fun z hz => hn z (List.mem_append_left _ hz), ?_⟩, ?_, rfl⟩
          · rw [List.length_append] at hl
            omega
          · exact fun x o n1 n2 e => by rw [mu.ne n2]; exact np.same _ _ (hB x o n1 n2 e)
        · exact hnx _ _ ⟨_, rfl, ⟨ha1, np.same _ _ hbb, hn, hl⟩, hB.trans (But.of np.same)⟩
      · walk_at "go"
        exact hnx _ _ ⟨_, rfl, ⟨np.same _ _ ha, np.same _ _ hb, hn, hl⟩, hB.trans (But.of np.same)⟩
    · obtain ⟨cs, rfl, ⟨ha, hb, hn, hl⟩, hB⟩ := hP
      walk_at "go"
      refine r_new (Nat.le_of_ble_eq_true rfl) fun p H1 np => ?_
      walk_at "go"
      refine r_neNil (SqL.of (by walk_at "ls")) (SqL.of np.at) ?_
      walk_at "go"
      have ha1 := np.same _ _ ha
      have hb1 := np.same _ _ hb
      have hB1 : But a b H H1 := hB.trans (But.of np.same)
      refine r_ndec (fun hc => ?_) (fun hc => ?_)
      · obtain ⟨ys, z, rfl⟩ := concat_of hc
        rw [List.map_append] at hb1
        walk_at "go"
        refine r_pop hb1 fun H2 mu => ?_
        have ha2 : H2 a = _ := (mu.ne nab).trans ha1
        walk_at "go"
        · refine r_app mu.at (by rw [List.length_map]; rw [List.length_append] at hl; omega) fun H3 mu3 => ?_
          walk_at "go"
          · have hz : 0 ≤ z := hn z (List.mem_append_right _ (List.mem_singleton.mpr rfl))
            refine k _ _ (Int.emod_nonneg _ (by omega)) (Int.emod_lt_of_pos _ h0) (Dr.of hd ⟨ys ++ [z.fdiv n], m, (mu3.ne nab).trans ha2, ?_, fun y hy => ?_, ?_⟩ fun x o n1 n2 e => by rw [mu3.ne n2, mu.ne n2]; exact hB1 x o n1 n2 e)
            · rw [mu3.at, List.map_append]
              rfl
            · rcases List.mem_append.mp hy with hy | hy
              · exact hn y (List.mem_append_left _ hy)
              · cases List.mem_singleton.mp hy
                exact fdiv_nn hz h0
            · rw [List.length_append] at hl ⊢
              exact hl
          · exact h0
        all_goals exact divC h0 h1 _
      · walk_at "go"
        · refine r_setL (i := 1) ha1 rfl fun H2 mu => ?_
          have ha2 := mu.at
          have hb2 : H2 b = _ := (mu.ne nab.symm).trans hb1
          walk_at "go"
          · refine k _ _ (Int.emod_nonneg _ (by omega)) (Int.emod_lt_of_pos _ h0) (Dr.of hd ⟨cs, _, ha2, hb2, hn, hl⟩ fun x o n1 n2 e => by rw [mu.ne n1]; exact hB1 x o n1 n2 e)
          all_goals first | exact h0 | walk_at "im"
        all_goals walk_at "im"
end
end Al

set_option Elab.async false
set_option linter.all false
set_option maxRecDepth 100000
set_option maxHeartbeats 4000000
set_option exponentiation.threshold 20000
open PySem PySem.Spec PyProof.Rows L2 Al
namespace Al
section
variable {P : Program} {w : World} {K : PySem.W.Frag} {mg : Str → Option Value} {base : Heap}
def sp_of (K : PySem.W.Frag) : Sp := fun vs H Q _ => ∃ (a b s : Addr) (xs : List V), vs = [.ref a, .ref s] ∧ DealOk H a b ∧ H s = some (.lst xs) ∧ s ≠ a ∧ s ≠ b ∧ 0 < xs.length ∧ xs.length ≤ 1000 ∧ ∀ x H', x ∈ xs → Dr a b H H' → Q x H'
theorem c_of {K : PySem.W.Frag} {a b s : Addr} {xs : List V} {H : Hp} {Q : VK} {E : XK} {vs : List V} (e : vs = [.ref a, .ref s]) (h : DealOk H a b) (hs : H s = some (.lst xs)) (hn : s ≠ a ∧ s ≠ b) (h0 : 0 < xs.length) (h1 : xs.length ≤ 1000) (q : ∀ x H', x ∈ xs → Dr a b H H' → Q x H') : sp_of K vs H Q E :=
  ⟨a, b, s, xs, e, h, hs, hn.1, hn.2, h0, h1, q⟩
theorem ok_of (T : Txt K mg) : FnOk P w K mg base CX0 2 T.a_law_of T.d_law_of p_law_of (sp_of K) := by
  have G_law_any : FnOk P w K mg base CX0 1 T.a_law_any T.d_law_any p_law_any (sp_any K) := ok_any T
  refine T.f_law_of.ok sc_law_of (fun vs H Q E h => ?_) (fun cdv A outer s H vs Q E hr h => ?_)
  · obtain ⟨a, b, s, xs, rfl, _⟩ := h; rfl
  · obtain ⟨a, b, s, xs, rfl, hd, hs, n1, n2, h0, h1, k⟩ := h
    refine ⟨_, (pss_one (ps_ret (pe_ix (ix_sqK K) (pv 1) (pe_call G_law_any (hr.mono (by omega)) (by rfl) T.g_law_any T.f_law_any.kp T.b_law_any .nil pass0 (pa_cons (pv 0) (pa_cons (pe_callB (cr_lenK K) (by rfl) T.z_len (by decide +kernel) (pa_cons (pv 1) pa_nil)) pa_nil))) (fun _ _ => rfl)))), ?_⟩
    walk_at "go0"
    refine c_any rfl hd (by omega) (Nat.lt_of_le_of_lt (show ((xs.length : Nat) : Int).natAbs ≤ 2 ^ 10 by rw [Int.natAbs_natCast]; omega) (Nat.pow_lt_pow_right (by decide) (by decide))) fun r H1 r0 r1 hD => ?_
    obtain ⟨x, hx, _, e⟩ := at_ok r0 r1
    have hs1 : H1 s = some (.lst xs) := hD.2.1 _ _ n1 n2 hs
    refine r_ixL (SqL.of hs1) e ?_
    exact k _ _ hx hD
def sp_same (K : PySem.W.Frag) (n : Nat) : Sp := fun vs H Q _ => ∃ x y, vs = [x, y] ∧ Sm K H n x y ∧ ∀ H', Same H H' → Q (.bl true) H'
theorem c_same {n : Nat} {x y : V} {H : Hp} {Q : VK} {E : XK} {vs : List V} (e : vs = [x, y]) (h : Sm K H n x y) (q : ∀ H', Same H H' → Q (.bl true) H') : sp_same K n vs H Q E := ⟨x, y, e, h, q⟩
def sp_pre (K : PySem.W.Frag) : Nat → Sp
  | 0 => fun _ _ _ _ => False
  | n + 1 => sp_same K n
theorem no_int {i : Int} : decide (V.int i = V.non) = false := decide_eq_false (fun h => by cases h)
theorem no_bl {i : Bool} : decide (V.bl i = V.non) = false := decide_eq_false (fun h => by cases h)
theorem no_str {i : Str} : decide (V.str i = V.non) = false := decide_eq_false (fun h => by cases h)
theorem ok_pre (T : Txt K mg) : ∀ n, FnOk P w K mg base CX0 n T.a_law_same T.d_law_same p_law_same (sp_pre K n)
  | 0 => fn_no
  | n + 1 => by
    have G_law_same : FnOk P w K mg base CX0 n T.a_law_same T.d_law_same p_law_same (sp_pre K n) := ok_pre T n
    refine T.f_law_same.ok sc_law_same (fun vs H Q E h => ?_) (fun cdv A outer s H vs Q E hr h => ?_)
    · obtain ⟨x, y, rfl, _⟩ := h; rfl
    · obtain ⟨x, y, rfl, hm, k⟩ := h
      have h0 : Sc x y ∨ ∃ m, n = m + 1 ∧ ∃ a b xs ys, x = .ref a ∧ y = .ref b ∧ Tp K H a xs ∧ Tp K H b ys ∧ xs.length = ys.length ∧ xs.length ≤ 100000 ∧ ∀ (i : Nat) x y, xs[i]? = some x → ys[i]? = some y → Sm K H m x y := by
        cases n with
        | zero => exact .inl hm
        | succ n =>
          rcases hm with hm | hm
          · exact .inl hm
          · exact .inr ⟨n, rfl, hm⟩
      refine ⟨_, (pss_cons (ps_if (pt_val (pe_callB (cr_isiK K) (by rfl) T.z_isinstance (by decide +kernel) (pa_cons (pv 1) (pa_cons (pe_bltn (v := .ty "tuple") (u := .type "tuple") (by rfl) T.z_tuple (by decide +kernel) rfl) pa_nil))))
        (pss_cons (ps_if (PW.pt (pw_or (pt_not (pt_val (pe_callB (cr_isiK K) (by rfl) T.z_isinstance (by decide +kernel) (pa_cons (pv 0) (pa_cons (pe_bltn (v := .ty "tuple") (u := .type "tuple") (by rfl) T.z_tuple (by decide +kernel) rfl) pa_nil))))) (pw_or1 (pt_cmpR op_ne (pe_callB (cr_lenK K) (by rfl) T.z_len (by decide +kernel) (pa_cons (pv 0) pa_nil)) (pe_callB (cr_lenK K) (by rfl) T.z_len (by decide +kernel) (pa_cons (pv 1) pa_nil)) (nomark _)))))
        (pss_one (ps_ret pe_bl)) pss_nil)
      (pss_one (ps_ret (pe_cmpR op_eq (pe_callB (cr_lenK K) (by rfl) T.z_len (by decide +kernel) (pa_cons (pe_lc (own := [("at", 2)]) (g := gName 2) rfl sc_law_same.nd (pi_range1 rfl T.z_range (pa_cons (pe_callB (cr_lenK K) (by rfl) T.z_len (by decide +kernel) (pa_cons (pv 1) pa_nil)) pa_nil)) (blkOk_by (own := [("at", 2)]) (N := n_law_same) (sc := defScope s_law_same) (by decide +kernel)) (fun _ _ _ _ _ => pg_name (i := 2) sc_law_same.nd rfl (Or.inl rfl)) (fun _ _ _ _ _ => pts_one (pt_not (pt_val (pe_call G_law_same (hr.mono (by omega)) (by rfl) T.g_law_same T.f_law_same.kp T.b_law_same .nil pass0 (pa_cons (pe_ix (ix_sqK K) (pv 0) (pv 2) (fun _ _ => rfl)) (pa_cons (pe_ix (ix_sqK K) (pv 1) (pv 2) (fun _ _ => rfl)) pa_nil)))))) (fun _ _ _ _ _ => (pv 2))) pa_nil)) pe_int (nomark _))))) pss_nil)
      (pss_cons (ps_if (pt_cmpR op_isNo (pv 1) pe_non (nomark _))
        (pss_one (ps_ret (pe_cmpR op_isNo (pv 0) pe_non (nomark _)))) pss_nil)
      (pss_cons (ps_if (pt_val (pe_callB (cr_isiK K) (by rfl) T.z_isinstance (by decide +kernel) (pa_cons (pv 1) (pa_cons (pe_bltn (v := .ty "bool") (u := .type "bool") (by rfl) T.z_bool (by decide +kernel) rfl) pa_nil))))
        (pss_one (ps_ret (pe_and (pe_callB (cr_isiK K) (by rfl) T.z_isinstance (by decide +kernel) (pa_cons (pv 0) (pa_cons (pe_bltn (v := .ty "bool") (u := .type "bool") (by rfl) T.z_bool (by decide +kernel) rfl) pa_nil))) (pe_one (pe_cmpR op_eq (pv 0) (pv 1) (nomark _)))))) pss_nil)
      (pss_cons (ps_if (pt_val (pe_callB (cr_isiK K) (by rfl) T.z_isinstance (by decide +kernel) (pa_cons (pv 1) (pa_cons (pe_bltn (v := .ty "str") (u := .type "str") (by rfl) T.z_str (by decide +kernel) rfl) pa_nil))))
        (pss_one (ps_ret (pe_and (pe_callB (cr_isiK K) (by rfl) T.z_isinstance (by decide +kernel) (pa_cons (pv 0) (pa_cons (pe_bltn (v := .ty "str") (u := .type "str") (by rfl) T.z_str (by decide +kernel) rfl) pa_nil))) (pe_one (pe_cmpR op_eq (pv 0) (pv 1) (nomark _)))))) pss_nil)
      (pss_one (ps_ret (pe_and (pe_callB (cr_isiK K) (by rfl) T.z_isinstance (by decide +kernel) (pa_cons (pv 0) (pa_cons (pe_bltn (v := .ty "int") (u := .type "int") (by rfl) T.z_int (by decide +kernel) rfl) pa_nil))) (pe_and (pe_not (pe_callB (cr_isiK K) (by rfl) T.z_isinstance (by decide +kernel) (pa_cons (pv 0) (pa_cons (pe_bltn (v := .ty "bool") (u := .type "bool") (by rfl) T.z_bool (by decide +kernel) rfl) pa_nil)))) (pe_one (pe_cmpR op_eq (pv 0) (pv 1) (nomark _))))))))))), ?_⟩
      rcases h0 with ⟨rfl, hk⟩ | ⟨m, rfl, a, b, xs, ys, rfl, rfl, ha, hb, hl, hz, hs⟩
      · rcases hk with ⟨i, rfl⟩ | ⟨c, rfl⟩ | rfl | ⟨z, rfl⟩
        · walk_at "go0"
          rw [no_int]
          walk_at "go"
          have := k H (Same.refl H)
          rw [decide_eq_true rfl]
          exact this
        · walk_at "go0"
          rw [no_bl]
          walk_at "go"
          cases c
          · walk_at "go"
            exact k H (Same.refl H)
          · walk_at "go"
            exact k H (Same.refl H)
        · walk_at "go0"
          rw [decide_eq_true rfl]
          walk_at "go"
          rw [decide_eq_true rfl]
          exact k H (Same.refl H)
        · walk_at "go0"
          rw [no_str]
          walk_at "go"
          rw [decide_eq_true rfl]
          exact k H (Same.refl H)
      · walk_at "go0"
        refine r_ndec (fun e => (e (by rw [hl])).elim) fun _ => ?_
        walk_at "go"
        refine c_range1 (by omega) (by omega) (fun D _ H' => Same H H' ∧ H' D = some (.lst [])) (fun _ => rfl) (fun D H1 np => ⟨np.same, np.at⟩) (fun D i H' hi p => ?_) fun D H' p => ?_
        · obtain ⟨p1, p2⟩ := p
          have hi2 : i < ys.length := by omega
          have hi1 : i < xs.length := by omega
          walk_at "go"
          refine r_ixT (ha.keep (TK.of p1)).sq (atI_nat (List.getElem?_eq_getElem hi1)) ?_
          walk_at "go"
          refine r_ixT (hb.keep (TK.of p1)).sq (atI_nat (List.getElem?_eq_getElem hi2)) ?_
          walk_at "go"
          rw [show sp_pre K (m + 1) = sp_same K m from rfl]
          refine c_same rfl ((hs i _ _ (List.getElem?_eq_getElem hi1) (List.getElem?_eq_getElem hi2)).keep (TK.of p1)) fun H2 s2 => ?_
          walk_at "go"
          exact ⟨p1.trans s2, s2 _ _ p2⟩
        · obtain ⟨p1, p2⟩ := p
          walk_at "go"
          exact k _ p1
theorem ok_same (T : Txt K mg) (n : Nat) : FnOk P w K mg base CX0 (n + 1) T.a_law_same T.d_law_same p_law_same (sp_same K n) := ok_pre T (n + 1)
def sp_deal (K : PySem.W.Frag) : Sp := fun vs H Q _ => ∃ (a : Addr) (ns : List Int) (i : Int), vs = [.ref a, .int i] ∧ SqL K H a (ns.map V.int) ∧ ns.length ≤ 63 ∧ ∀ a b H', Same H H' → DealOk H' a b → H a = none → H b = none → Q (.ref a) H'
theorem ok_deal (T : Txt K mg) : FnOk P w K mg base CX0 1 T.a_law_source T.d_law_source p_law_source (sp_deal K) := by
  refine T.f_law_source.ok sc_law_source (fun vs H Q E h => ?_) (fun cdv A outer s H vs Q E hr h => ?_)
  · obtain ⟨a, ns, i, rfl, _⟩ := h; rfl
  · obtain ⟨a, ns, i, rfl, hS, hl, k⟩ := h
    refine ⟨_, (pss_cons (ps_setLc (i := 2) (own := [("cell", 4)]) (g := gName 4) rfl sc_law_source.nd rfl rfl (sw_true rfl rfl rfl (by decide +kernel)) (pi_listK K (pe_slice (sl_listK K) (pv 0) po_none (po_some pe_int))) (blkOk_by (own := [("cell", 4)]) (N := n_law_source) (sc := defScope s_law_source) (by decide +kernel)) (fun _ _ _ _ _ => pg_name (i := 4) sc_law_source.nd rfl (Or.inl rfl)) (fun _ _ _ _ _ => pts_nil) (fun _ _ _ _ _ => (pe_callB cr_abs (by rfl) T.z_abs (by decide +kernel) (pa_cons (pe_callTy cr_int (by rfl) T.z_int (by decide +kernel) (pa_cons (pv 4) pa_nil)) pa_nil))))
      (pss_cons (ps_set (i := 3) sc_law_source.nd rfl (.inl rfl) (pe_op op_add pe_int (pe_op op_mulZ pe_int (pv 1))))
      (pss_cons (ps_for PassesOwn.never rfl (pi_listK K (pv 2)) (pg_name (i := 4) sc_law_source.nd rfl (.inl rfl))
        (pss_one (ps_set (i := 3) sc_law_source.nd rfl (.inl rfl) (pe_op op_mod (pe_callTy cr_int (by rfl) T.z_int (by decide +kernel) (pa_cons (pe_op op_add (pe_op op_add (pe_op op_mulZ (pv 3) pe_int) (pe_op op_mod (pv 4) pe_int)) pe_int) pa_nil)) pe_int))))
      (pss_one (ps_ret (pe_lst (pa_cons (pe_revLK K (pe_lc (own := [("cell", 4)]) (g := gName 4) rfl sc_law_source.nd (pi_listK K (pv 2)) (blkOk_by (own := [("cell", 4)]) (N := n_law_source) (sc := defScope s_law_source) (by decide +kernel)) (fun _ _ _ _ _ => pg_name (i := 4) sc_law_source.nd rfl (Or.inl rfl)) (fun _ _ _ _ _ => pts_one (pt_cmpR op_ge (pv 4) (pe_op op_pow pe_int pe_int) (nomark _))) (fun _ _ _ _ _ => (pv 4)))) (pa_cons (pv 3) pa_nil)))))))), ?_⟩
    walk_at "go0"
    refine r_slL hS fun p H1 np => ?_
    have hc : cutV (ns.map V.int) none (some 63) = ns.map V.int := cut_all (n := 63) (by rw [List.length_map]; exact hl)
    rw [hc] at np
    refine c_list (SqL.of np.at) (fun D j H' => H1 D = none ∧ Same H1 H' ∧ H' D = some (.lst (((ns.take j).map fun z => if z < 0 then -z else z).map V.int))) (fun _ => rfl) (fun D H2 n2 => ⟨n2.1, n2.same, n2.at⟩) (fun D j H' _ q => SqL.of (q.2.1 _ _ np.at)) (fun D j x H' e q => ?_) fun D H' q => ?_
    · obtain ⟨q0, q1, q2⟩ := q
      rw [List.getElem?_map] at e
      cases e1 : ns[j]? with
      | none => rw [e1] at e; cases e
      | some z =>
        rw [e1] at e
        cases e
        walk_at "go"
        refine r_it q2 (by rw [List.length_map, List.length_map, List.length_take]; omega) fun H2 mu => ⟨q0, mu.same0 q1 q0, ?_⟩
        rw [mu.at, List.take_add_one, e1]
        simp only [List.map_append, Option.toList, List.map_cons, List.map_nil]
    · obtain ⟨q0, q1, q2⟩ := q
      rw [List.length_map, List.take_length] at q2
      generalize hcs : (ns.map fun z => if z < 0 then -z else z) = cs at q2
      have hcn : ∀ z ∈ cs, 0 ≤ z := fun z hz => by
        rw [← hcs] at hz
        obtain ⟨y, _, e⟩ := List.mem_map.mp hz
        rw [← e]
        split <;> omega
      have hcl : cs.length ≤ 63 := by rw [← hcs, List.length_map]; exact hl
      have hp : H D = none := np.same.free q0
      have sH : Same H H' := np.same.trans q1
      walk_at "go"
      · refine l_list (SqL.of q2) (fun j σ' H2 => H' = H2 ∧ ∃ m y, σ' = [some (.ref a), some (.int i), some (.ref D), some (.int m), y]) ⟨rfl, _, _, rfl⟩ (fun j σ' H2 _ z => by rw [← z.1]; exact SqL.of q2) (fun j x σ' H2 e z => ?_) fun σ' H2 z => ?_
        · obtain ⟨rfl, m, y, rfl⟩ := z
          rw [List.getElem?_map] at e
          cases e1 : cs[j]? with
          | none => rw [e1] at e; cases e
          | some z =>
            rw [e1] at e
            cases e
            walk_at "go"
            · exact ⟨rfl, _, _, rfl⟩
            all_goals walk_at "im"
        · obtain ⟨rfl, m, y, rfl⟩ := z
          walk_at "go"
          refine c_list (SqL.of q2) (fun F j H3 => H' F = none ∧ Same H' H3 ∧ ∃ ds : List Int, H3 F = some (.lst (ds.map V.int)) ∧ (∀ z ∈ ds, 0 ≤ z) ∧ ds.length ≤ j) (fun _ => rfl) (fun F H3 n3 => ⟨n3.1, n3.same, [], n3.at, (fun z hz => nomatch hz), Nat.le_refl _⟩) (fun F j H3 _ q => SqL.of (q.2.1 _ _ q2)) (fun F j x H3 e q => ?_) fun F H3 q => ?_
          · obtain ⟨f0, f1, ds, f2, f3, f4⟩ := q
            rw [List.getElem?_map] at e
            cases e1 : cs[j]? with
            | none => rw [e1] at e; cases e
            | some z =>
              rw [e1] at e
              cases e
              have hj : j < cs.length := (List.getElem?_eq_some_iff.mp e1).1
              walk_at "go"
              · refine r_dec (fun _ => ?_) (fun _ => ?_)
                · walk_at "go"
                  refine r_it f2 (by rw [List.length_map]; omega) fun H4 mu => ⟨f0, mu.same0 f1 f0, ds ++ [z], ?_, fun y hy => ?_, ?_⟩
                  · rw [mu.at, List.map_append]
                    rfl
                  · rcases List.mem_append.mp hy with hy | hy
                    · exact f3 y hy
                    · cases List.mem_singleton.mp hy
                      exact hcn z (List.mem_of_getElem? e1)
                  · rw [List.length_append, List.length_singleton]
                    omega
                · exact ⟨f0, f1, ds, f2, f3, by omega⟩
              all_goals walk_at "im"
          · obtain ⟨f0, f1, ds, f2, f3, f4⟩ := q
            rw [List.length_map] at f4
            walk_at "go"
            refine r_rev (SqL.of f2) fun u H4 n4 => ?_
            walk_at "go"
            refine r_new (Nat.le_of_ble_eq_true rfl) fun v H5 n5 => ?_
            have s4 : Same H H4 := (sH.trans f1).trans n4.same
            refine k v u H5 (s4.trans n5.same) ⟨ds.reverse, m, n5.at, ?_, fun z hz => f3 z (List.mem_reverse.mp hz), by rw [List.length_reverse]; omega⟩ (s4.free n5.1) ((sH.trans f1).free n4.1)
            rw [n5.same _ _ n4.at, List.map_reverse]
      all_goals walk_at "im"
end
end Al

set_option Elab.async false
set_option linter.all false
set_option maxRecDepth 100000
set_option maxHeartbeats 4000000
set_option exponentiation.threshold 20000
open PySem PySem.Spec PyProof.Rows L2 Al
namespace Al
theorem lo_neg' {a b : Int} (h : b < 0) : lo a b = (a.fdiv (-((Nat.gcd a.natAbs b.natAbs : Nat) : Int)), b.fdiv (-((Nat.gcd a.natAbs b.natAbs : Nat) : Int))) := lo_neg h
/-- lists that draws leave alone -/
def Own (a b : Addr) (H : Hp) (p : Addr) (xs : List V) : Prop := H p = some (.lst xs) ∧ p ≠ a ∧ p ≠ b
section
variable {a b p : Addr} {H H' : Hp} {xs : List V}
theorem Own.dr (h : Own a b H p xs) (d : Dr a b H H') : Own a b H' p xs := ⟨d.2.1 _ _ h.2.1 h.2.2 h.1, h.2⟩
theorem Own.same (h : Own a b H p xs) (d : Same H H') : Own a b H' p xs := ⟨d _ _ h.1, h.2⟩
theorem Own.new (hd : DealOk H a b) (n : Nw p (.lst xs) H H') : Own a b H' p xs := ⟨n.at, (hd.new n).1, (hd.new n).2⟩
theorem Own.ls (hd : DealOk H a b) (n : H p = none) (e : H' p = some (.lst xs)) : Own a b H' p xs := ⟨e, (hd.none n).1, (hd.none n).2⟩
theorem Own.sq {K : PySem.W.Frag} (h : Own a b H p xs) : SqL K H p xs := SqL.of h.1
end
/-- a list of ints, without the noughts at its end, by a bottom -/
theorem line_take {ns : List Int} {b : Int} {e : Nat} (hb : b ≠ 0) (c : IsCut (ns.map V.int) e) : (ns.take e).map (fun n => Rat.divInt n b) = Ln ns b := by
  obtain ⟨c1, c2, c3⟩ := cut_ints c
  unfold Ln
  rw [List.map_take]
  refine cut_is ⟨fun i hi => ?_, ?_⟩
  · rw [qf_div, ← c1, cf_ge (by rw [List.length_take]; omega), Rat.zero_divInt]
  · rcases c2 with c2 | c2
    · exact .inl c2
    · refine .inr fun z => c2 ?_
      rw [qf_div] at z
      exact (div_zero_iff hb).mp z
section
variable {P : Program} {w : World} {K : PySem.W.Frag} {mg : Str → Option Value} {base : Heap}
def sp_near (K : PySem.W.Frag) : Sp := fun vs H Q _ => ∃ (a b : Addr) (m : Int), vs = [.ref a, .int m] ∧ DealOk H a b ∧ 0 ≤ m ∧ m.natAbs < 2 ^ 2000 ∧ ∀ r H', -m ≤ r → r ≤ m → Dr a b H H' → Q (.int r) H'
theorem c_near {a b : Addr} {m : Int} {H : Hp} {Q : VK} {E : XK} {vs : List V} (e : vs = [.ref a, .int m]) (h : DealOk H a b) (h0 : 0 ≤ m) (h1 : m.natAbs < 2 ^ 2000) (q : ∀ r H', -m ≤ r → r ≤ m → Dr a b H H' → Q (.int r) H') : sp_near K vs H Q E := ⟨a, b, m, e, h, h0, h1, q⟩
theorem ok_near (T : Txt K mg) : FnOk P w K mg base CX0 2 T.a_law_near T.d_law_near p_law_near (sp_near K) := by
  have G_law_any : FnOk P w K mg base CX0 1 T.a_law_any T.d_law_any p_law_any (sp_any K) := ok_any T
  refine T.f_law_near.ok sc_law_near (fun vs H Q E h => ?_) (fun cdv A outer s H vs Q E hr h => ?_)
  · obtain ⟨a, b, m, rfl, _⟩ := h; rfl
  · obtain ⟨a, b, m, rfl, hd, h0, h1, k⟩ := h
    have hu : (2 : Nat) ^ 3000 = 2 ^ 2000 * 2 ^ 1000 := by rw [← Nat.pow_add]
    have hu2 : 4 ≤ 2 ^ 1000 := by decide +kernel
    have hu3 := Nat.mul_le_mul_left (2 ^ 2000) hu2
    refine ⟨_, (pss_one (ps_ret (pe_op op_sub (pe_call G_law_any (hr.mono (by omega)) (by rfl) T.g_law_any T.f_law_any.kp T.b_law_any .nil pass0 (pa_cons (pv 0) (pa_cons (pe_op op_add (pe_op op_mulZ pe_int (pv 1)) pe_int) pa_nil))) (pv 1)))), ?_⟩
    walk_at "go0"
    · refine c_any rfl hd (by omega) (by omega) fun r H1 r0 r1 d1 => ?_
      walk_at "go"
      exact k _ _ (by omega) (by omega) d1
    all_goals walk_at "im"
def sp_common (K : PySem.W.Frag) : Sp := fun vs H Q _ => ∃ x y : Int, vs = [.int x, .int y] ∧ Q (.int ((Nat.gcd x.natAbs y.natAbs : Nat) : Int)) H
theorem c_common {x y : Int} {H : Hp} {Q : VK} {E : XK} {vs : List V} (e : vs = [.int x, .int y]) (k : Q (.int ((Nat.gcd x.natAbs y.natAbs : Nat) : Int)) H) : sp_common K vs H Q E := ⟨x, y, e, k⟩
theorem ok_common (T : Txt K mg) : FnOk P w K mg base CX0 1 T.a_law_common T.d_law_common p_law_common (sp_common K) := by
  refine T.f_law_common.ok sc_law_common (fun vs H Q E h => ?_) (fun cdv A outer s H vs Q E hr h => ?_)
  · obtain ⟨x, y, rfl, _⟩ := h; rfl
  · obtain ⟨x, y, rfl, k⟩ := h
    refine ⟨_, (pss_cons (ps_par (i := 0) (j := 1) rfl sc_law_common.nd rfl rfl (by decide) rfl rfl (pa_cons (pe_callB cr_abs (by rfl) T.z_abs (by decide +kernel) (pa_cons (pv 0) pa_nil)) (pa_cons (pe_callB cr_abs (by rfl) T.z_abs (by decide +kernel) (pa_cons (pv 1) pa_nil)) pa_nil)) (by rfl))
      (pss_cons (ps_while PassesOwn.never (pt_cmpR op_gt (pv 1) pe_int (nomark _))
        (pss_one (ps_par (i := 0) (j := 1) rfl sc_law_common.nd rfl rfl (by decide) rfl rfl (pa_cons (pv 1) (pa_cons (pe_op op_mod (pe_callTy cr_int (by rfl) T.z_int (by decide +kernel) (pa_cons (pv 0) pa_nil)) (pv 1)) pa_nil)) (by rfl))))
      (pss_one (ps_ret (pv 0))))), ?_⟩
    have ab : ∀ i : Int, (if i < 0 then -i else i) = ((i.natAbs : Nat) : Int) := fun i => by split <;> omega
    walk_at "go0"
    rw [ab x, ab y]
    refine l_while (fun m σ' H' => H = H' ∧ ∃ l r : Nat, σ' = [some (.int (l : Int)), some (.int (r : Int))] ∧ Nat.gcd l r = Nat.gcd x.natAbs y.natAbs ∧ r = m) (fun σ' H' => H = H' ∧ ∃ l : Nat, σ' = [some (.int (l : Int)), some (.int 0)] ∧ l = Nat.gcd x.natAbs y.natAbs)
      (m0 := y.natAbs) ⟨rfl, _, _, rfl, rfl, rfl⟩ (fun nx hnx m σ' H' hW => ?_) fun σ' H' hP => ?_
    · obtain ⟨rfl, l, r, rfl, hg, rfl⟩ := hW
      walk_at "go"
      refine r_dec (fun hc => ?_) (fun hc => ?_)
      · refine ⟨_, fun _ _ h => h, ?_⟩
        have hr0 : 0 < r := by omega
        walk_at "go"
        · refine ⟨l % r, Nat.mod_lt _ hr0, rfl, r, l % r, rfl, ?_, rfl⟩
          rw [← hg, Nat.gcd_comm l r, Nat.gcd_comm r, ← Nat.gcd_rec]
        · show (0 : Int) < _
          omega
      · have hr0 : r = 0 := by omega
        subst hr0
        refine hnx _ _ ⟨rfl, l, rfl, ?_⟩
        rw [← hg, Nat.gcd_zero_right]
    · obtain ⟨rfl, l, rfl, rfl⟩ := hP
      walk_at "go"
      exact k
theorem ok_pair (T : Txt K mg) : FnOk P w K mg base CX0 2 T.a_law_pair T.d_law_pair p_law_pair (sp_lowest K) := by
  have G_law_common : FnOk P w K mg base CX0 1 T.a_law_common T.d_law_common p_law_common (sp_common K) := ok_common T
  refine T.f_law_pair.ok sc_law_pair (fun vs H Q E h => ?_) (fun cdv A outer s H vs Q E hr h => ?_)
  · obtain ⟨a, b, rfl, _⟩ := h; rfl
  · obtain ⟨a, b, rfl, hb, sb, q⟩ := h
    refine ⟨_, (pss_cons (ps_set (i := 2) sc_law_pair.nd rfl (.inl rfl) (pe_call G_law_common (hr.mono (by omega)) (by rfl) T.g_law_common T.f_law_common.kp T.b_law_common .nil pass0 (pa_cons (pv 0) (pa_cons (pv 1) pa_nil))))
      (pss_cons (ps_if (pt_cmpR op_lt (pv 1) pe_int (nomark _))
        (pss_one (ps_set (i := 2) sc_law_pair.nd rfl (.inl rfl) (pe_un un_neg (pv 2)))) pss_nil)
      (pss_one (ps_ret (pe_tup (pa_cons (pe_op op_fdivZ (pv 0) (pv 2)) (pa_cons (pe_op op_fdivZ (pv 1) (pv 2)) pa_nil))))))), ?_⟩
    have g1 := gcd_pos' (a := a) hb
    have g2 := gcd_lt (a := a) hb sb
    walk_at "go0"
    refine c_common rfl ?_
    walk_at "go"
    refine r_dec (fun h => ?_) (fun h => ?_)
    · walk_at "go"
      · refine r_new (Nat.le_of_ble_eq_true rfl) fun p H2 np => ?_
        refine q _ _ np.same ⟨p, rfl, ?_⟩
        rw [lo_neg h]
        exact Tp.new np
      all_goals exact ⟨by omega, by rw [Int.natAbs_neg, Int.natAbs_natCast]; exact g2⟩
    · walk_at "go"
      · refine r_new (Nat.le_of_ble_eq_true rfl) fun p H2 np => ?_
        refine q _ _ np.same ⟨p, rfl, ?_⟩
        rw [lo_pos h]
        exact Tp.new np
      all_goals exact ⟨by omega, by rw [Int.natAbs_natCast]; exact g2⟩
theorem ok_part (T : Txt K mg) : FnOk P w K mg base CX0 3 T.a_law_part T.d_law_part p_law_part (sp_coef K) := by
  have G_law_pair : FnOk P w K mg base CX0 2 T.a_law_pair T.d_law_pair p_law_pair (sp_lowest K) := ok_pair T
  refine T.f_law_part.ok sc_law_part (fun vs H Q E h => ?_) (fun cdv A outer s H vs Q E hr h => ?_)
  · obtain ⟨a, b, rfl, _⟩ := h; rfl
  · obtain ⟨a, b, rfl, hb, sb, q⟩ := h
    refine ⟨_, (pss_cons (ps_set (i := 2) sc_law_part.nd rfl (.inl rfl) (pe_call G_law_pair (hr.mono (by omega)) (by rfl) T.g_law_pair T.f_law_pair.kp T.b_law_pair .nil pass0 (pa_cons (pv 0) (pa_cons (pv 1) pa_nil))))
      (pss_one (ps_ret (pe_ifExp (pt_cmpR op_eq (pe_ix (ix_sqK K) (pv 2) pe_int (fun _ _ => rfl)) pe_int (nomark _)) (pe_ix (ix_sqK K) (pv 2) pe_int (fun _ _ => rfl)) (pv 2))))), ?_⟩
    walk_at "go0"
    refine c_lowest rfl hb sb fun v H1 s1 F => ?_
    rw [lo_rat hb] at F
    obtain ⟨t, rfl, F⟩ := F
    walk_at "go"
    refine r_dec (fun e => ?_) (fun e => ?_)
    · walk_at "go"
      exact q _ _ s1 (.inl ⟨by omega, rfl⟩)
    · walk_at "go"
      exact q _ _ s1 (.inr ⟨by omega, t, rfl, F⟩)
def sp_lcut (K : PySem.W.Frag) : Sp := fun vs H Q _ => ∃ (p : Addr) (ns : List Int), vs = [.ref p] ∧ H p = some (.lst (ns.map V.int)) ∧ ns.length ≤ 1000 ∧ ∀ e l H', IsCut (ns.map V.int) e → Same H H' → H' l = some (.lst ((ns.take e).map V.int)) → Q (.ref l) H'
theorem c_lcut {p : Addr} {ns : List Int} {H : Hp} {Q : VK} {E : XK} {vs : List V} (e : vs = [.ref p]) (h : H p = some (.lst (ns.map V.int))) (hl : ns.length ≤ 1000) (q : ∀ e l H', IsCut (ns.map V.int) e → Same H H' → H' l = some (.lst ((ns.take e).map V.int)) → Q (.ref l) H') : sp_lcut K vs H Q E := ⟨p, ns, e, h, hl, q⟩
theorem ok_lcut (T : Txt K mg) : FnOk P w K mg base CX0 1 T.a_law_cut T.d_law_cut p_law_cut (sp_lcut K) := by
  refine T.f_law_cut.ok sc_law_cut (fun vs H Q E h => ?_) (fun cdv A outer s H vs Q E hr h => ?_)
  · obtain ⟨p, ns, rfl, _⟩ := h; rfl
  · obtain ⟨p, ns, rfl, hs, hl, q⟩ := h
    refine ⟨_, (pss_cons (ps_set (i := 1) sc_law_cut.nd rfl (.inl rfl) (pe_callB (cr_lenK K) (by rfl) T.z_len (by decide +kernel) (pa_cons (pv 0) pa_nil)))
      (pss_cons (ps_while PassesOwn.never (PW.pt (pw_and (pt_cmpR op_gt (pv 1) pe_int (nomark _)) (pw_and1 (pt_cmpR op_eq (pe_ix (ix_sqK K) (pv 0) (pe_op op_sub (pv 1) pe_int) (fun _ _ => rfl)) pe_int (nomark _)))))
        (pss_one (ps_set (i := 1) sc_law_cut.nd rfl (.inl rfl) (pe_op op_sub (pv 1) pe_int))))
      (pss_one (ps_ret (pe_callTy (cr_listK K) (by rfl) T.z_list (by decide +kernel) (pa_cons (pe_slice (sl_listK K) (pv 0) po_none (po_some (pv 1))) pa_nil)))))), ?_⟩
    walk_at "go0"
    rw [List.length_map]
    refine l_while (fun m σ' H' => H = H' ∧ σ' = [some (.ref p), some (.int (m : Int))] ∧ m ≤ ns.length ∧ ∀ (i : Nat) x, m ≤ i → (ns.map V.int)[i]? = some x → x = .int 0) (fun σ' H' => H = H' ∧ ∃ e : Nat, σ' = [some (.ref p), some (.int (e : Int))] ∧ IsCut (ns.map V.int) e)
      (m0 := ns.length) ⟨rfl, rfl, Nat.le_refl _, fun i x hi e => by rw [List.getElem?_eq_none (by rw [List.length_map]; exact hi)] at e; cases e⟩ (fun nx hnx m σ' H' hW => ?_) fun σ' H' hP => ?_
    · obtain ⟨rfl, rfl, hm, hz⟩ := hW
      walk_at "go"
      refine r_dec (fun hc => ?_) (fun hc => ?_)
      · obtain ⟨n, rfl⟩ : ∃ n, m = n + 1 := ⟨m - 1, by omega⟩
        have hn : n < ns.length := by omega
        have en : (ns.map V.int)[n]? = some (.int (cf ns n)) := by rw [List.getElem?_map, cf_lt hn]; rfl
        walk_at "go"
        refine r_ixLn (i := n) hs (by omega) hn ?_
        walk_at "go"
        refine r_dec (fun h0 => ?_) (fun h0 => ?_)
        · refine ⟨_, fun _ _ h => h, ?_⟩
          walk_at "go"
          refine ⟨n, by omega, rfl, by rw [show ((n + 1 : Nat) : Int) - 1 = (n : Int) by omega]; rfl, by omega, fun j x hj ex => ?_⟩
          by_cases hjn : j = n
          · subst hjn
            cases en.symm.trans ex
            rw [h0]
          · exact hz j x (by omega) ex
        · refine hnx _ _ ⟨rfl, n + 1, rfl, by rw [List.length_map]; exact hm, hz, .inr ⟨_, en, ?_⟩⟩
          intro z
          injection z with z
          exact h0 z
      · have hm0 : m = 0 := by omega
        subst hm0
        walk_at "go"
        exact hnx _ _ ⟨rfl, 0, rfl, Nat.zero_le _, hz, .inl rfl⟩
    · obtain ⟨rfl, e, rfl, hc⟩ := hP
      walk_at "go"
      refine r_slL (SqL.of hs) fun l H' nl => ?_
      rw [cut_to (by omega) (by have := hc.1; omega)] at nl
      walk_at "go"
      refine r_listL (SqL.of nl.at) fun l2 H2 nl2 => ?_
      exact q _ _ _ hc (nl.same.trans nl2.same) (by rw [nl2.at, List.map_take]; rfl)
def sp_line (K : PySem.W.Frag) : Sp := fun vs H Q _ => ∃ (p : Addr) (ns : List Int) (b : Int), vs = [.ref p, .int b] ∧ H p = some (.lst (ns.map V.int)) ∧ b ≠ 0 ∧ b.natAbs < 2 ^ 8000 ∧ ns.length ≤ 1000 ∧ RetLn K H Q (Ln ns b)
theorem c_line {p : Addr} {ns : List Int} {b : Int} {H : Hp} {Q : VK} {E : XK} {vs : List V} (e : vs = [.ref p, .int b]) (h : H p = some (.lst (ns.map V.int))) (hb : b ≠ 0) (hs : b.natAbs < 2 ^ 8000) (hl : ns.length ≤ 1000) (q : RetLn K H Q (Ln ns b)) : sp_line K vs H Q E := ⟨p, ns, b, e, h, hb, hs, hl, q⟩
theorem ok_line (T : Txt K mg) : FnOk P w K mg base CX0 4 T.a_law_line T.d_law_line p_law_line (sp_line K) := by
  have G_law_cut : FnOk P w K mg base CX0 1 T.a_law_cut T.d_law_cut p_law_cut (sp_lcut K) := ok_lcut T
  have G_law_part : FnOk P w K mg base CX0 3 T.a_law_part T.d_law_part p_law_part (sp_coef K) := ok_part T
  refine T.f_law_line.ok sc_law_line (fun vs H Q E h => ?_) (fun cdv A outer s H vs Q E hr h => ?_)
  · obtain ⟨p, ns, b, rfl, _⟩ := h; rfl
  · obtain ⟨p, ns, b, rfl, hp, hb, hs, hl, k⟩ := h
    refine ⟨_, (pss_one (ps_ret (pe_callTy (cr_tupleK K) (by rfl) T.z_tuple (by decide +kernel) (pa_cons (pe_lc (own := [("number", 2)]) (g := gName 2) rfl sc_law_line.nd (pi_listK K (pe_call G_law_cut (hr.mono (by omega)) (by rfl) T.g_law_cut T.f_law_cut.kp T.b_law_cut .nil pass0 (pa_cons (pv 0) pa_nil))) (blkOk_by (own := [("number", 2)]) (N := n_law_line) (sc := defScope s_law_line) (by decide +kernel)) (fun _ _ _ _ _ => pg_name (i := 2) sc_law_line.nd rfl (Or.inl rfl)) (fun _ _ _ _ _ => pts_nil) (fun _ _ _ _ _ => (pe_call G_law_part (hr.mono (by omega)) (by rfl) T.g_law_part T.f_law_part.kp T.b_law_part .nil pass0 (pa_cons (pv 2) (pa_cons (pv 1) pa_nil))))) pa_nil)))), ?_⟩
    walk_at "go0"
    refine c_lcut rfl hp hl fun e l H1 he s1 hl1 => ?_
    have c1 := he.1
    rw [List.length_map] at c1
    refine c_list (SqL.of hl1) (fun D j H' => H1 D = none ∧ Same H1 H' ∧ ∃ vs, H' D = some (.lst vs) ∧ CL K H' vs (((ns.take e).take j).map fun n => Rat.divInt n b)) (fun _ => rfl) (fun D H2 n2 => ⟨n2.1, n2.same, [], n2.at, CL.nil⟩) (fun D j H' _ q => SqL.of (q.2.1 _ _ hl1)) (fun D j x H' ex q => ?_) fun D H' q => ?_
    · obtain ⟨q0, q1, ws, q2, q3⟩ := q
      obtain ⟨rfl, hj⟩ := int_at ex
      walk_at "go"
      refine c_coef rfl hb hs fun v H2 s2 cv => ?_
      walk_at "go"
      refine r_it (s2 _ _ q2) (by rw [q3.1, List.length_map, List.length_take]; rw [List.length_take] at *; omega) fun H3 mu => ⟨q0, mu.same0 (q1.trans s2) q0, _, mu.at, ?_⟩
      rw [List.take_add_one, cf_lt hj, List.map_append]
      exact ((q3.keep (TK.of s2)).keep (mu.tk (s2 _ _ q2))).snoc (cv.keep (mu.tk (s2 _ _ q2)))
    · obtain ⟨q0, q1, ws, q2, q3⟩ := q
      rw [List.length_map, List.take_length, line_take hb he] at q3
      walk_at "go"
      refine r_tupleL (SqL.of q2) fun u H3 nu => ?_
      exact k _ _ ((s1.trans q1).trans nu.same) ⟨u, _, rfl, Tp.new nu, q3.keep nu.tk⟩
end
end Al

set_option Elab.async false
set_option linter.all false
set_option maxRecDepth 100000
set_option maxHeartbeats 4000000
set_option exponentiation.threshold 20000
open PySem PySem.Spec PyProof.Rows L2 Al
namespace Al
section
variable {P : Program} {w : World} {K : PySem.W.Frag} {mg : Str → Option Value} {base : Heap}
def sp_ltimes (K : PySem.W.Frag) : Sp := fun vs H Q _ => ∃ (p q : Addr) (f s : List Int), vs = [.ref p, .ref q] ∧ H p = some (.lst (f.map V.int)) ∧ H q = some (.lst (s.map V.int)) ∧ f.length ≤ 1000 ∧ s.length ≤ 1000 ∧ (∀ i, (cf f i).natAbs < 2 ^ 3000) ∧ (∀ i, (cf s i).natAbs < 2 ^ 3000) ∧ RetLs H Q fun ws => ws.length ≤ f.length + s.length - 1 ∧ ∀ k, cf ws k = pmul f (cf s) k
theorem c_ltimes {p q : Addr} {f s : List Int} {H : Hp} {Q : VK} {E : XK} {vs : List V} (e : vs = [.ref p, .ref q]) (h1 : H p = some (.lst (f.map V.int))) (h2 : H q = some (.lst (s.map V.int))) (l1 : f.length ≤ 1000) (l2 : s.length ≤ 1000) (b1 : ∀ i, (cf f i).natAbs < 2 ^ 3000) (b2 : ∀ i, (cf s i).natAbs < 2 ^ 3000) (k : RetLs H Q fun ws => ws.length ≤ f.length + s.length - 1 ∧ ∀ k, cf ws k = pmul f (cf s) k) : sp_ltimes K vs H Q E := ⟨p, q, f, s, e, h1, h2, l1, l2, b1, b2, k⟩
theorem ok_ltimes (T : Txt K mg) : FnOk P w K mg base CX0 1 T.a_law_times T.d_law_times p_law_times (sp_ltimes K) := by
  refine T.f_law_times.ok sc_law_times (fun vs H Q E h => ?_) (fun cdv A outer s H vs Q E hr h => ?_)
  · obtain ⟨p, q, f, s, rfl, _⟩ := h; rfl
  · obtain ⟨p, q, f, s, rfl, hp, hq, l1, l2, b1, b2, k⟩ := h
    refine ⟨_, (pss_cons (ps_if (PW.pt (pw_or (pt_cmpR op_eq (pe_callB (cr_lenK K) (by rfl) T.z_len (by decide +kernel) (pa_cons (pv 0) pa_nil)) pe_int (nomark _)) (pw_or1 (pt_cmpR op_eq (pe_callB (cr_lenK K) (by rfl) T.z_len (by decide +kernel) (pa_cons (pv 1) pa_nil)) pe_int (nomark _)))))
        (pss_one (ps_ret (pe_lst pa_nil))) pss_nil)
      (pss_cons (ps_set (i := 2) sc_law_times.nd rfl (.inl rfl) (pe_op op_rep (pe_lst (pa_cons pe_int pa_nil)) (pe_op op_sub (pe_op op_add (pe_callB (cr_lenK K) (by rfl) T.z_len (by decide +kernel) (pa_cons (pv 0) pa_nil)) (pe_callB (cr_lenK K) (by rfl) T.z_len (by decide +kernel) (pa_cons (pv 1) pa_nil))) pe_int)))
      (pss_cons (ps_for PassesOwn.never rfl (pi_range1 rfl T.z_range (pa_cons (pe_callB (cr_lenK K) (by rfl) T.z_len (by decide +kernel) (pa_cons (pv 0) pa_nil)) pa_nil)) (pg_name (i := 3) sc_law_times.nd rfl (.inl rfl))
        (pss_one (ps_if (pt_cmpR op_ne (pe_ix (ix_sqK K) (pv 0) (pv 3) (fun _ _ => rfl)) pe_int (nomark _))
        (pss_one (ps_for PassesOwn.never rfl (pi_range1 rfl T.z_range (pa_cons (pe_callB (cr_lenK K) (by rfl) T.z_len (by decide +kernel) (pa_cons (pv 1) pa_nil)) pa_nil)) (pg_name (i := 4) sc_law_times.nd rfl (.inl rfl))
        (pss_one (ps_asg (pe_op op_add (pe_ix (ix_sqK K) (pv 2) (pe_op op_add (pv 3) (pv 4)) (fun _ _ => rfl)) (pe_op op_mulZ (pe_ix (ix_sqK K) (pv 0) (pv 3) (fun _ _ => rfl)) (pe_ix (ix_sqK K) (pv 1) (pv 4) (fun _ _ => rfl)))) (pg_sub (pv 2) (pe_op op_add (pv 3) (pv 4)) set_list))))) pss_nil)))
      (pss_one (ps_ret (pv 2)))))), ?_⟩
    have none : (f.length = 0 ∨ s.length = 0) → ∀ H', Same H H' → ∀ l H2, Nw l (.lst []) H' H2 → Q (.ref l) H2 := fun h H' sh l H2 nl => by
      refine k l [] H2 (sh.free nl.1) (sh.trans nl.same) nl.at ⟨Nat.zero_le _, fun k => ?_⟩
      rcases h with h | h
      · rw [List.eq_nil_of_length_eq_zero h]
        rfl
      · rw [List.eq_nil_of_length_eq_zero h, pmul_congr (h := fun _ => 0) (fun i => cf_nil i), pmul_zero]
        rfl
    walk_at "go0"
    refine r_dec (fun e => ?_) (fun e1 => ?_)
    · walk_at "go"
      refine r_new (Nat.le_of_ble_eq_true rfl) fun l H2 nl => none (.inl (by rw [List.length_map] at e; omega)) H (Same.refl H) l H2 nl
    walk_at "go"
    refine r_dec (fun e => ?_) (fun e2 => ?_)
    · walk_at "go"
      refine r_new (Nat.le_of_ble_eq_true rfl) fun l H2 nl => none (.inr (by rw [List.length_map] at e; omega)) H (Same.refl H) l H2 nl
    rw [List.length_map] at e1 e2
    walk_at "go"
    refine r_new (Nat.le_of_ble_eq_true rfl) fun D0 H1 n1 => ?_
    walk_at "go"
    have hm : (((f.map V.int).length : Nat) : Int) + (((s.map V.int).length : Nat) : Int) - 1 = ((f.length + s.length - 1 : Nat) : Int) := by
      rw [List.length_map, List.length_map]
      omega
    rw [hm]
    refine r_rep1 n1.at (by omega) (by omega) fun D H2 n2 => ?_
    rw [Int.toNat_natCast, rep_ints] at n2
    have sH : Same H H2 := n1.same.trans n2.same
    have nD : H D = .none := n1.same.free n2.1
    have hp2 := sH _ _ hp
    have hq2 := sH _ _ hq
    walk_at "go"
    refine l_range1 (by rw [List.length_map]; omega) (by omega) (fun i σ' H' => ∃ x y zs, σ' = [some (.ref p), some (.ref q), some (.ref D), x, y] ∧ Same H H' ∧ H' D = some (.lst (zs.map V.int)) ∧ zs.length = f.length + s.length - 1 ∧ ∀ j, cf zs j = pmul (f.take i) (cf s) j) ⟨_, _, _, rfl, sH, n2.at, List.length_replicate, fun j => cf_replicate _ j⟩ (fun i σ' H' hi z => ?_) fun σ' H' z => ?_
    · rw [List.length_map] at hi
      have hi : i < f.length := by omega
      obtain ⟨x0, y0, zs, rfl, z1, z2, z3, z4⟩ := z
      have et : f.take (i + 1) = f.take i ++ [cf f i] := by rw [List.take_add_one, cf_lt hi]; rfl
      have el : (f.take i).length = i := by rw [List.length_take]; omega
      clear hp2 hq2
      have hp' := z1 _ _ hp
      have hq' := z1 _ _ hq
      walk_at "go"
      refine r_ixLn hp' rfl hi ?_
      walk_at "go"
      refine r_ndec (fun h0 => ?_) (fun h0 => ?_)
      · walk_at "go"
        refine l_range1 (by rw [List.length_map]; omega) (by omega) (fun k σ' H' => ∃ y zs, σ' = [some (.ref p), some (.ref q), some (.ref D), some (.int (i : Int)), y] ∧ Same H H' ∧ H' D = some (.lst (zs.map V.int)) ∧ zs.length = f.length + s.length - 1 ∧ ∀ j, cf zs j = pmul (f.take i) (cf s) j + if i ≤ j ∧ j - i < k then cf f i * cf s (j - i) else 0) ⟨_, zs, rfl, z1, z2, z3, fun j => by rw [z4, if_neg (by omega)]; omega⟩ (fun k σ' H' hk z => ?_) fun σ' H' z => ?_
        · rw [List.length_map] at hk
          have hk : k < s.length := by omega
          obtain ⟨y, zs, rfl, z1, z2, z3, z4⟩ := z
          have e0 : (i : Int) + (k : Int) = ((i + k : Nat) : Int) := by omega
          clear hp' hq'
          walk_at "go"
          refine r_ixLn z2 e0 (by rw [z3]; omega) ?_
          walk_at "go"
          refine r_ixLn (z1 _ _ hp) rfl hi ?_
          walk_at "go"
          refine r_ixLn (z1 _ _ hq) rfl hk ?_
          walk_at "go"
          · refine r_setLn z2 e0 (by rw [z3]; omega) fun H4 mu => ?_
            refine ⟨_, _, rfl, mu.same0 z1 nD, mu.at, by rw [List.length_set]; exact z3, fun j => ?_⟩
            rw [cf_set (by rw [z3]; omega), z4, z4]
            by_cases hj : j = i + k
            · rw [if_pos hj, if_neg (by omega), if_pos (by omega), hj, show i + k - i = k by omega]
              omega
            · rw [if_neg hj]
              by_cases h2 : i ≤ j ∧ j - i < k
              · rw [if_pos h2, if_pos (by omega)]
              · rw [if_neg h2, if_neg (by omega)]
          · exact mulB (b1 i) (b2 k)
        · obtain ⟨y, zs, rfl, z1, z2, z3, z4⟩ := z
          rw [List.length_map, Int.toNat_natCast] at z4
          refine ⟨_, _, zs, rfl, z1, z2, z3, fun j => ?_⟩
          rw [z4, et, pmul_snoc, el]
          unfold beh
          by_cases h2 : i ≤ j
          · rw [if_pos h2]
            by_cases h3 : j - i < s.length
            · rw [if_pos ⟨h2, h3⟩]
            · rw [if_neg (by omega), cf_ge (l := s) (by omega), Int.mul_zero]
          · rw [if_neg h2, if_neg (by omega), Int.mul_zero]
      · walk_at "go"
        refine ⟨_, _, zs, rfl, z1, z2, z3, fun j => ?_⟩
        rw [et, pmul_snoc, h0, z4]
        omega
    · obtain ⟨x0, y0, zs, rfl, z1, z2, z3, z4⟩ := z
      rw [List.length_map, Int.toNat_natCast, List.take_length] at z4
      walk_at "go"
      exact k D zs _ nD z1 z2 ⟨by omega, z4⟩
def sp_lsum (K : PySem.W.Frag) : Sp := fun vs H Q _ => ∃ (p q : Addr) (f s : List Int) (o : Int), vs = [.ref p, .ref q, .int o] ∧ H p = some (.lst (f.map V.int)) ∧ H q = some (.lst (s.map V.int)) ∧ f.length ≤ 1000 ∧ s.length ≤ 1000 ∧ (∀ i, IntMulOk o (cf s i)) ∧ RetLs H Q fun ws => ws.length ≤ max f.length s.length ∧ ∀ k, cf ws k = cf f k + o * cf s k
theorem c_lsum {p q : Addr} {f s : List Int} {o : Int} {H : Hp} {Q : VK} {E : XK} {vs : List V} (e : vs = [.ref p, .ref q, .int o]) (h1 : H p = some (.lst (f.map V.int))) (h2 : H q = some (.lst (s.map V.int))) (l1 : f.length ≤ 1000) (l2 : s.length ≤ 1000) (ho : ∀ i, IntMulOk o (cf s i)) (k : RetLs H Q fun ws => ws.length ≤ max f.length s.length ∧ ∀ k, cf ws k = cf f k + o * cf s k) : sp_lsum K vs H Q E := ⟨p, q, f, s, o, e, h1, h2, l1, l2, ho, k⟩
theorem cf_pad (f : List Int) (n i : Nat) : cf (f ++ List.replicate n 0) i = cf f i := by
  by_cases h : i < f.length
  · exact cf_get (by rw [List.getElem?_append_left h]; exact cf_lt h)
  · rw [cf_ge (l := f) (by omega)]
    by_cases h2 : i < f.length + n
    · refine cf_get ?_
      rw [List.getElem?_append_right (by omega), List.getElem?_replicate, if_pos (by omega)]
    · exact cf_ge (by rw [List.length_append, List.length_replicate]; omega)
theorem ok_lsum (T : Txt K mg) : FnOk P w K mg base CX0 1 T.a_law_sum T.d_law_sum p_law_sum (sp_lsum K) := by
  refine T.f_law_sum.ok sc_law_sum (fun vs H Q E h => ?_) (fun cdv A outer s H vs Q E hr h => ?_)
  · obtain ⟨p, q, f, s, o, rfl, _⟩ := h; rfl
  · obtain ⟨p, q, f, s, o, rfl, hp, hq, l1, l2, ho, k⟩ := h
    refine ⟨_, (pss_cons (ps_set (i := 3) sc_law_sum.nd rfl (.inl rfl) (pe_callB (cr_max2 rfl) (by rfl) T.z_max (by decide +kernel) (pa_cons (pe_callB (cr_lenK K) (by rfl) T.z_len (by decide +kernel) (pa_cons (pv 0) pa_nil)) (pa_cons (pe_callB (cr_lenK K) (by rfl) T.z_len (by decide +kernel) (pa_cons (pv 1) pa_nil)) pa_nil))))
      (pss_cons (ps_asg (pe_tup (pa_cons (pe_op op_cat (pe_callTy (cr_listK K) (by rfl) T.z_list (by decide +kernel) (pa_cons (pv 0) pa_nil)) (pe_op op_rep (pe_lst (pa_cons pe_int pa_nil)) (pe_op op_sub (pv 3) (pe_callB (cr_lenK K) (by rfl) T.z_len (by decide +kernel) (pa_cons (pv 0) pa_nil))))) (pa_cons (pe_op op_cat (pe_callTy (cr_listK K) (by rfl) T.z_list (by decide +kernel) (pa_cons (pv 1) pa_nil)) (pe_op op_rep (pe_lst (pa_cons pe_int pa_nil)) (pe_op op_sub (pv 3) (pe_callB (cr_lenK K) (by rfl) T.z_len (by decide +kernel) (pa_cons (pv 1) pa_nil))))) pa_nil))) (pg_tup (n := 2) rfl (pgs_cons (pg_name (i := 4) sc_law_sum.nd rfl (.inr rfl)) (pgs_cons (pg_name (i := 5) sc_law_sum.nd rfl (.inr rfl)) pgs_nil))))
      (pss_one (ps_ret (pe_lc (own := [("at", 6)]) (g := gName 6) rfl sc_law_sum.nd (pi_range1 rfl T.z_range (pa_cons (pv 3) pa_nil)) (blkOk_by (own := [("at", 6)]) (N := n_law_sum) (sc := defScope s_law_sum) (by decide +kernel)) (fun _ _ _ _ _ => pg_name (i := 6) sc_law_sum.nd rfl (Or.inl rfl)) (fun _ _ _ _ _ => pts_nil) (fun _ _ _ _ _ => (pe_op op_add (pe_ix (ix_sqK K) (pv 4) (pv 6) (fun _ _ => rfl)) (pe_op op_mulZ (pv 2) (pe_ix (ix_sqK K) (pv 5) (pv 6) (fun _ _ => rfl)))))))))), ?_⟩
    walk_at "go0"
    have hm : (if ((s.map V.int).length : Int) > ((f.map V.int).length : Int) then ((s.map V.int).length : Int) else ((f.map V.int).length : Int)) = ((max f.length s.length : Nat) : Int) := by
      rw [List.length_map, List.length_map]
      split <;> omega
    rw [hm]
    generalize hM : max f.length s.length = M
    refine r_listL (SqL.of hp) fun l1' H1 n1 => ?_
    walk_at "go"
    refine r_new (Nat.le_of_ble_eq_true rfl) fun d1 H2 n2 => ?_
    walk_at "go"
    refine r_rep1 n2.at (by omega) (by omega) fun d2 H3 n3 => ?_
    walk_at "go"
    refine r_cat (n3.same _ _ (n2.same _ _ n1.at)) n3.at (by rw [List.length_map, List.length_replicate]; omega) fun d3 H4 n4 => ?_
    have s4 : Same H H4 := ((n1.same.trans n2.same).trans n3.same).trans n4.same
    have hp4 := s4 _ _ hp
    have hq4 := s4 _ _ hq
    walk_at "go"
    refine r_listL (SqL.of hq4) fun l2' H5 n5 => ?_
    walk_at "go"
    refine r_new (Nat.le_of_ble_eq_true rfl) fun d5 H6 n6 => ?_
    walk_at "go"
    refine r_rep1 n6.at (by omega) (by omega) fun d6 H7 n7 => ?_
    walk_at "go"
    refine r_cat (n7.same _ _ (n6.same _ _ n5.at)) n7.at (by rw [List.length_map, List.length_replicate]; omega) fun d7 H8 n8 => ?_
    have s8 : Same H4 H8 := ((n5.same.trans n6.same).trans n7.same).trans n8.same
    have sH : Same H H8 := s4.trans s8
    have hd3 := s8 _ _ n4.at
    have hd7 := n8.at
    rw [rep_ints, ← List.map_append] at hd3 hd7
    generalize hf : f ++ List.replicate ((M : Int) - ((f.map V.int).length : Int)).toNat 0 = f' at hd3
    generalize hs : s ++ List.replicate ((M : Int) - ((s.map V.int).length : Int)).toNat 0 = s' at hd7
    have lf : f'.length = M := by rw [← hf, List.length_append, List.length_replicate, List.length_map]; omega
    have lss : s'.length = M := by rw [← hs, List.length_append, List.length_replicate, List.length_map]; omega
    have cff : ∀ i, cf f' i = cf f i := fun i => by rw [← hf, cf_pad]
    have cfs : ∀ i, cf s' i = cf s i := fun i => by rw [← hs, cf_pad]
    clear hp4 hq4
    walk_at "go"
    refine r_new (Nat.le_of_ble_eq_true rfl) fun pt Hn npt => ?_
    replace hd3 := npt.same _ _ hd3
    replace hd7 := npt.same _ _ hd7
    replace sH := sH.trans npt.same
    walk_at "go"
    refine c_range1 (by omega) (by omega) (fun D j H' => Hn D = none ∧ Same Hn H' ∧ ∃ ws, H' D = some (.lst (ws.map V.int)) ∧ ws.length = j ∧ ∀ i, i < j → cf ws i = cf f i + o * cf s i) (fun _ => rfl) (fun D H2 n2 => ⟨n2.1, n2.same, [], n2.at, rfl, fun i h => by omega⟩) (fun D j H' hj q => ?_) fun D H' q => ?_
    · obtain ⟨q0, q1, ws, q2, q3, q4⟩ := q
      walk_at "go"
      refine r_ixLn (q1 _ _ hd3) rfl (by omega) ?_
      walk_at "go"
      refine r_ixLn (q1 _ _ hd7) rfl (by omega) ?_
      walk_at "go"
      · refine r_it q2 (by rw [List.length_map]; omega) fun H10 mu => ⟨q0, mu.same0 q1 q0, ws ++ [cf f' j + o * cf s' j], by rw [mu.at, List.map_append]; rfl, by rw [List.length_append, q3]; rfl, fun i hi => ?_⟩
        by_cases hij : i < j
        · rw [← q4 i hij]
          exact cf_get (by rw [List.getElem?_append_left (by omega)]; exact cf_lt (by omega))
        · have : i = j := by omega
          rw [this, cff, cfs]
          exact cf_get (by rw [List.getElem?_append_right (by omega), q3, Nat.sub_self]; rfl)
      · rw [cfs]
        exact ho j
    · obtain ⟨q0, q1, ws, q2, q3, q4⟩ := q
      rw [Int.toNat_natCast] at q3 q4
      refine k D ws _ (sH.free q0) (sH.trans q1) q2 ⟨by omega, fun i => ?_⟩
      by_cases hi : i < M
      · exact q4 i hi
      · rw [cf_ge (by omega), cf_ge (by omega), cf_ge (by omega), Int.mul_zero]
        rfl
end
end Al

set_option Elab.async false
set_option linter.all false
set_option maxRecDepth 100000
set_option maxHeartbeats 4000000
set_option exponentiation.threshold 20000
open PySem PySem.Spec PyProof.Rows L2 Al
namespace Al
section
variable {P : Program} {w : World} {K : PySem.W.Frag} {mg : Str → Option Value} {base : Heap}
def sp_many (K : PySem.W.Frag) : Sp := fun vs H Q _ => ∃ (a b : Addr) (m : Int), vs = [.ref a, .int m] ∧ DealOk H a b ∧ 6 ≤ m ∧ m ≤ 1000 ∧ ∀ (r : Int) H', 0 ≤ r → r ≤ m → Dr a b H H' → Q (.int r) H'
theorem c_many {a b : Addr} {m : Int} {H : Hp} {Q : VK} {E : XK} {vs : List V} (e : vs = [.ref a, .int m]) (h : DealOk H a b) (h0 : 6 ≤ m) (h1 : m ≤ 1000) (q : ∀ (r : Int) H', 0 ≤ r → r ≤ m → Dr a b H H' → Q (.int r) H') : sp_many K vs H Q E := ⟨a, b, m, e, h, h0, h1, q⟩
theorem small30 {n : Int} (h0 : 0 ≤ n) (h : n ≤ 100000) : n.natAbs < 2 ^ 3000 := Nat.lt_of_le_of_lt (show n.natAbs ≤ 2 ^ 20 by omega) (Nat.pow_lt_pow_right (by decide) (by decide))
theorem ok_many (T : Txt K mg) : FnOk P w K mg base CX0 3 T.a_law_many T.d_law_many p_law_many (sp_many K) := by
  have G_law_any : FnOk P w K mg base CX0 1 T.a_law_any T.d_law_any p_law_any (sp_any K) := ok_any T
  have G_law_of : FnOk P w K mg base CX0 2 T.a_law_of T.d_law_of p_law_of (sp_of K) := ok_of T
  refine T.f_law_many.ok sc_law_many (fun vs H Q E h => ?_) (fun cdv A outer s H vs Q E hr h => ?_)
  · obtain ⟨a, b, m, rfl, _⟩ := h; rfl
  · obtain ⟨a, b, m, rfl, hd, h0, h1, k⟩ := h
    refine ⟨_, (pss_one (ps_ret (pe_call G_law_of (hr.mono (by omega)) (by rfl) T.g_law_of T.f_law_of.kp T.b_law_of .nil pass0 (pa_cons (pv 0) (pa_cons (pe_lst (pa_cons (pv 1) (pa_cons (pe_op op_add pe_int (pe_call G_law_any (hr.mono (by omega)) (by rfl) T.g_law_any T.f_law_any.kp T.b_law_any .nil pass0 (pa_cons (pv 0) (pa_cons (pv 1) pa_nil)))) (pa_cons (pe_op op_add pe_int (pe_call G_law_any (hr.mono (by omega)) (by rfl) T.g_law_any T.f_law_any.kp T.b_law_any .nil pass0 (pa_cons (pv 0) (pa_cons pe_int pa_nil)))) (pa_cons (pe_op op_add pe_int (pe_call G_law_any (hr.mono (by omega)) (by rfl) T.g_law_any T.f_law_any.kp T.b_law_any .nil pass0 (pa_cons (pv 0) (pa_cons pe_int pa_nil)))) (pa_cons (pe_call G_law_any (hr.mono (by omega)) (by rfl) T.g_law_any T.f_law_any.kp T.b_law_any .nil pass0 (pa_cons (pv 0) (pa_cons pe_int pa_nil))) pa_nil)))))) pa_nil))))), ?_⟩
    walk_at "go0"
    refine c_any rfl hd (by omega) (small30 (by omega) (by omega)) fun r1 H1 x1 y1 d1 => ?_
    walk_at "go"
    refine c_any rfl d1.1 (by decide) (by decide +kernel) fun r2 H2 x2 y2 d2 => ?_
    walk_at "go"
    refine c_any rfl d2.1 (by decide) (by decide +kernel) fun r3 H3 x3 y3 d3 => ?_
    walk_at "go"
    refine c_any rfl d3.1 (by decide) (by decide +kernel) fun r4 H4 x4 y4 d4 => ?_
    have dd := ((d1.trans d2).trans d3).trans d4
    walk_at "go"
    refine r_new (Nat.le_of_ble_eq_true rfl) fun p H5 np => ?_
    walk_at "go"
    refine c_of rfl (dd.1.keep np.same) np.at (dd.1.new np) (Nat.zero_lt_succ _) (Nat.le_of_ble_eq_true rfl) fun x H6 hx d6 => ?_
    have hx2 : ∃ n : Int, x = .int n ∧ 0 ≤ n ∧ n ≤ m := by
      rcases List.mem_cons.mp hx with rfl | hx
      · exact ⟨_, rfl, by omega, by omega⟩
      rcases List.mem_cons.mp hx with rfl | hx
      · exact ⟨_, rfl, by omega, by omega⟩
      rcases List.mem_cons.mp hx with rfl | hx
      · exact ⟨_, rfl, by omega, by omega⟩
      rcases List.mem_cons.mp hx with rfl | hx
      · exact ⟨_, rfl, by omega, by omega⟩
      cases List.mem_singleton.mp hx
      exact ⟨_, rfl, by omega, by omega⟩
    obtain ⟨n, rfl, n0, n1⟩ := hx2
    exact k _ _ n0 n1 ((dd.nw np).trans d6)
def sp_lbottom (K : PySem.W.Frag) : Sp := fun vs H Q _ => ∃ (a b : Addr) (m : Int), vs = [.ref a, .int m] ∧ DealOk H a b ∧ 30030 ≤ m ∧ m.natAbs < 2 ^ 3000 ∧ ∀ (r : Int) H', 0 < r → r ≤ m → Dr a b H H' → Q (.int r) H'
theorem c_lbottom {a b : Addr} {m : Int} {H : Hp} {Q : VK} {E : XK} {vs : List V} (e : vs = [.ref a, .int m]) (h : DealOk H a b) (h0 : 30030 ≤ m) (h1 : m.natAbs < 2 ^ 3000) (q : ∀ (r : Int) H', 0 < r → r ≤ m → Dr a b H H' → Q (.int r) H') : sp_lbottom K vs H Q E := ⟨a, b, m, e, h, h0, h1, q⟩
theorem ok_lbottom (T : Txt K mg) : FnOk P w K mg base CX0 3 T.a_law_bottom T.d_law_bottom p_law_bottom (sp_lbottom K) := by
  have G_law_any : FnOk P w K mg base CX0 1 T.a_law_any T.d_law_any p_law_any (sp_any K) := ok_any T
  have G_law_of : FnOk P w K mg base CX0 2 T.a_law_of T.d_law_of p_law_of (sp_of K) := ok_of T
  refine T.f_law_bottom.ok sc_law_bottom (fun vs H Q E h => ?_) (fun cdv A outer s H vs Q E hr h => ?_)
  · obtain ⟨a, b, m, rfl, _⟩ := h; rfl
  · obtain ⟨a, b, m, rfl, hd, h0, h1, k⟩ := h
    refine ⟨_, (pss_one (ps_ret (pe_call G_law_of (hr.mono (by omega)) (by rfl) T.g_law_of T.f_law_of.kp T.b_law_of .nil pass0 (pa_cons (pv 0) (pa_cons (pe_lst (pa_cons pe_int (pa_cons pe_int (pa_cons pe_int (pa_cons pe_int (pa_cons pe_int (pa_cons (pe_op op_add pe_int (pe_call G_law_any (hr.mono (by omega)) (by rfl) T.g_law_any T.f_law_any.kp T.b_law_any .nil pass0 (pa_cons (pv 0) (pa_cons (pv 1) pa_nil)))) (pa_cons (pv 1) pa_nil)))))))) pa_nil))))), ?_⟩
    walk_at "go0"
    refine c_any rfl hd (by omega) h1 fun r1 H1 x1 y1 d1 => ?_
    walk_at "go"
    refine r_new (Nat.le_of_ble_eq_true rfl) fun p H5 np => ?_
    walk_at "go"
    refine c_of rfl (d1.1.keep np.same) np.at (d1.1.new np) (Nat.zero_lt_succ _) (Nat.le_of_ble_eq_true rfl) fun x H6 hx d6 => ?_
    have hx2 : ∃ n : Int, x = .int n ∧ 0 < n ∧ n ≤ m := by
      rcases List.mem_cons.mp hx with rfl | hx
      · exact ⟨_, rfl, by omega, by omega⟩
      rcases List.mem_cons.mp hx with rfl | hx
      · exact ⟨_, rfl, by omega, by omega⟩
      rcases List.mem_cons.mp hx with rfl | hx
      · exact ⟨_, rfl, by omega, by omega⟩
      rcases List.mem_cons.mp hx with rfl | hx
      · exact ⟨_, rfl, by omega, by omega⟩
      rcases List.mem_cons.mp hx with rfl | hx
      · exact ⟨_, rfl, by omega, by omega⟩
      rcases List.mem_cons.mp hx with rfl | hx
      · exact ⟨_, rfl, by omega, by omega⟩
      cases List.mem_singleton.mp hx
      exact ⟨_, rfl, by omega, by omega⟩
    obtain ⟨n, rfl, n0, n1⟩ := hx2
    exact k _ _ n0 n1 ((d1.nw np).trans d6)
def sp_told (K : PySem.W.Frag) : Sp := fun vs H Q _ => ∃ (a b : Addr) (n c : Int), vs = [.ref a, .int n, .int c] ∧ DealOk H a b ∧ c ≠ 0 ∧ c.natAbs < 2 ^ 8000 ∧ ∀ v H', Cr K H' v (Rat.divInt n c) → Dr a b H H' → Q v H'
theorem c_told {a b : Addr} {n c : Int} {H : Hp} {Q : VK} {E : XK} {vs : List V} (e : vs = [.ref a, .int n, .int c]) (h : DealOk H a b) (h0 : c ≠ 0) (h1 : c.natAbs < 2 ^ 8000) (q : ∀ v H', Cr K H' v (Rat.divInt n c) → Dr a b H H' → Q v H') : sp_told K vs H Q E := ⟨a, b, n, c, e, h, h0, h1, q⟩
theorem ok_told (T : Txt K mg) : FnOk P w K mg base CX0 4 T.a_law_told T.d_law_told p_law_told (sp_told K) := by
  have G_law_any : FnOk P w K mg base CX0 1 T.a_law_any T.d_law_any p_law_any (sp_any K) := ok_any T
  have G_law_part : FnOk P w K mg base CX0 3 T.a_law_part T.d_law_part p_law_part (sp_coef K) := ok_part T
  refine T.f_law_told.ok sc_law_told (fun vs H Q E h => ?_) (fun cdv A outer s H vs Q E hr h => ?_)
  · obtain ⟨a, b, n, c, rfl, _⟩ := h; rfl
  · obtain ⟨a, b, n, c, rfl, hd, h0, h1, k⟩ := h
    refine ⟨_, (pss_cons (ps_set (i := 3) sc_law_told.nd rfl (.inl rfl) (pe_call G_law_part (hr.mono (by omega)) (by rfl) T.g_law_part T.f_law_part.kp T.b_law_part .nil pass0 (pa_cons (pv 1) (pa_cons (pv 2) pa_nil))))
      (pss_one (ps_ret (pe_ifExp (PW.pt (pw_and (pt_val (pe_callB (cr_isiK K) (by rfl) T.z_isinstance (by decide +kernel) (pa_cons (pv 3) (pa_cons (pe_bltn (v := .ty "int") (u := .type "int") (by rfl) T.z_int (by decide +kernel) rfl) pa_nil)))) (pw_and1 (pt_cmpR op_eq (pe_call G_law_any (hr.mono (by omega)) (by rfl) T.g_law_any T.f_law_any.kp T.b_law_any .nil pass0 (pa_cons (pv 0) (pa_cons pe_int pa_nil))) pe_int (nomark _))))) (pe_tup (pa_cons (pv 3) (pa_cons pe_int pa_nil))) (pv 3))))), ?_⟩
    walk_at "go0"
    refine c_coef rfl h0 h1 fun v H1 s1 cv => ?_
    have hd1 := hd.keep s1
    have dr1 : Dr a b H H1 := (Dr.rfl' hd).same s1
    have cr := cv.cr (den_lt h0 h1)
    rcases id cv with ⟨d, rfl⟩ | ⟨d, t, rfl, ht⟩
    · walk_at "go"
      refine c_any rfl hd1 (by decide) (by decide +kernel) fun r H2 _ _ d2 => ?_
      walk_at "go"
      refine r_dec (fun e => ?_) (fun e => ?_)
      · walk_at "go"
        refine r_new (Nat.le_of_ble_eq_true rfl) fun p H3 np => ?_
        refine k _ _ (.inr ⟨_, 1, ⟨p, rfl, Tp.new np⟩, by decide, by decide +kernel, ?_⟩) ((dr1.trans d2).nw np)
        have := Rat.num_divInt_den (Rat.divInt n c)
        rw [d] at this
        exact this.symm
      · walk_at "go"
        exact k _ _ (cr.keep d2.2.2) (dr1.trans d2)
    · walk_at "go"
      exact k _ _ cr dr1
/-- a list of ints, its last one not 0 -/
structure Rw (m : Nat) (g : Int) (ns : List Int) : Prop where
  len : ns.length ≤ m
  sz : ∀ i, -g ≤ cf ns i ∧ cf ns i ≤ g
  last : ns = [] ∨ cf ns (ns.length - 1) ≠ 0
def sp_lwhole (K : PySem.W.Frag) : Sp := fun vs H Q _ => ∃ (a b : Addr) (m : Nat) (g : Int), vs = [.ref a, .int (m : Int), .int g] ∧ DealOk H a b ∧ 6 ≤ m ∧ m ≤ 1000 ∧ 1000 ≤ g ∧ g.natAbs < 2 ^ 2000 ∧ ∀ l ns H', H l = none → H' l = some (.lst (ns.map V.int)) → Rw m g ns → Dr a b H H' → Q (.ref l) H'
theorem c_lwhole {a b : Addr} {m : Nat} {g : Int} {H : Hp} {Q : VK} {E : XK} {vs : List V} (e : vs = [.ref a, .int (m : Int), .int g]) (h : DealOk H a b) (h0 : 6 ≤ m) (h1 : m ≤ 1000) (h2 : 1000 ≤ g) (h3 : g.natAbs < 2 ^ 2000) (q : ∀ l ns H', H l = none → H' l = some (.lst (ns.map V.int)) → Rw m g ns → Dr a b H H' → Q (.ref l) H') : sp_lwhole K vs H Q E := ⟨a, b, m, g, e, h, h0, h1, h2, h3, q⟩
theorem cf_snoc_at (ns : List Int) (z : Int) (i : Nat) : cf (ns ++ [z]) i = if i = ns.length then z else cf ns i := by
  by_cases h : i < ns.length
  · rw [if_neg (by omega)]
    exact cf_get (by rw [List.getElem?_append_left h]; exact cf_lt h)
  · by_cases e : i = ns.length
    · rw [if_pos e]
      exact cf_get (by rw [List.getElem?_append_right (by omega), e, Nat.sub_self]; rfl)
    · rw [if_neg e, cf_ge (by rw [List.length_append, List.length_singleton]; omega), cf_ge (by omega)]
theorem ok_lwhole (T : Txt K mg) : FnOk P w K mg base CX0 4 T.a_law_whole T.d_law_whole p_law_whole (sp_lwhole K) := by
  have G_law_any : FnOk P w K mg base CX0 1 T.a_law_any T.d_law_any p_law_any (sp_any K) := ok_any T
  have G_law_of : FnOk P w K mg base CX0 2 T.a_law_of T.d_law_of p_law_of (sp_of K) := ok_of T
  have G_law_near : FnOk P w K mg base CX0 2 T.a_law_near T.d_law_near p_law_near (sp_near K) := ok_near T
  have G_law_many : FnOk P w K mg base CX0 3 T.a_law_many T.d_law_many p_law_many (sp_many K) := ok_many T
  refine T.f_law_whole.ok sc_law_whole (fun vs H Q E h => ?_) (fun cdv A outer s H vs Q E hr h => ?_)
  · obtain ⟨a, b, m, g, rfl, _⟩ := h; rfl
  · obtain ⟨a, b, m, g, rfl, hd, h0, h1, h2, h3, k⟩ := h
    refine ⟨_, (pss_cons (ps_par (i := 3) (j := 4) rfl sc_law_whole.nd rfl rfl (by decide) rfl rfl (pa_cons (pe_call G_law_many (hr.mono (by omega)) (by rfl) T.g_law_many T.f_law_many.kp T.b_law_many .nil pass0 (pa_cons (pv 0) (pa_cons (pv 1) pa_nil))) (pa_cons (pe_call G_law_of (hr.mono (by omega)) (by rfl) T.g_law_of T.f_law_of.kp T.b_law_of .nil pass0 (pa_cons (pv 0) (pa_cons (pe_lst (pa_cons pe_int (pa_cons pe_int (pa_cons pe_int (pa_cons (pv 2) pa_nil))))) pa_nil))) pa_nil)) (by rfl))
      (pss_cons (ps_par (i := 5) (j := 6) rfl sc_law_whole.nd rfl rfl (by decide) rfl rfl (pa_cons (pe_call G_law_any (hr.mono (by omega)) (by rfl) T.g_law_any T.f_law_any.kp T.b_law_any .nil pass0 (pa_cons (pv 0) (pa_cons pe_int pa_nil))) (pa_cons (pe_lst pa_nil) pa_nil)) (by rfl))
      (pss_cons (ps_for PassesOwn.never rfl (pi_range1 rfl T.z_range (pa_cons (pv 3) pa_nil)) (pg_name (i := 7) sc_law_whole.nd rfl (.inl rfl))
        (pss_one (ps_expr (pe_bm PySem.F.plainAttrs_list PySem.F.slot_list_append PySem.F.type_list_append mt_append (pv 6) (pa_cons (pe_ifExp (PW.pt (pw_and (pt_cmpR op_eq (pv 5) pe_int (nomark _)) (pw_and1 (pt_cmpR op_gt (pe_call G_law_any (hr.mono (by omega)) (by rfl) T.g_law_any T.f_law_any.kp T.b_law_any .nil pass0 (pa_cons (pv 0) (pa_cons pe_int pa_nil))) pe_int (nomark _))))) pe_int (pe_call G_law_near (hr.mono (by omega)) (by rfl) T.g_law_near T.f_law_near.kp T.b_law_near .nil pass0 (pa_cons (pv 0) (pa_cons (pv 4) pa_nil)))) pa_nil)))))
      (pss_cons (ps_if (PW.pt (pw_and (pt_cmpR op_gt (pv 3) pe_int (nomark _)) (pw_and1 (pt_cmpR op_eq (pe_ix (ix_sqK K) (pv 6) (pe_un un_neg pe_int) (fun _ _ => rfl)) pe_int (nomark _)))))
        (pss_one (ps_asg (pe_call G_law_of (hr.mono (by omega)) (by rfl) T.g_law_of T.f_law_of.kp T.b_law_of .nil pass0 (pa_cons (pv 0) (pa_cons (pe_lst (pa_cons pe_int (pa_cons (pe_un un_neg pe_int) (pa_cons (pv 4) pa_nil)))) pa_nil))) (pg_sub (pv 6) (pe_un un_neg pe_int) set_list))) pss_nil)
      (pss_one (ps_ret (pv 6))))))), ?_⟩
    walk_at "go0"
    refine c_many rfl hd (by omega) (by omega) fun r H1 r0 r1 d1 => ?_
    walk_at "go"
    refine r_new (Nat.le_of_ble_eq_true rfl) fun p1 H2 n2 => ?_
    walk_at "go"
    refine c_of rfl (d1.1.keep n2.same) n2.at (d1.1.new n2) (Nat.zero_lt_succ _) (Nat.le_of_ble_eq_true rfl) fun x H3 hx d3 => ?_
    have hx2 : ∃ n : Int, x = .int n ∧ 1 ≤ n ∧ n ≤ g := by
      rcases List.mem_cons.mp hx with rfl | hx
      · exact ⟨_, rfl, by omega, by omega⟩
      rcases List.mem_cons.mp hx with rfl | hx
      · exact ⟨_, rfl, by omega, by omega⟩
      rcases List.mem_cons.mp hx with rfl | hx
      · exact ⟨_, rfl, by omega, by omega⟩
      cases List.mem_singleton.mp hx
      exact ⟨_, rfl, by omega, by omega⟩
    obtain ⟨z, rfl, z0, z1⟩ := hx2
    have dr3 : Dr a b H H3 := (d1.nw n2).trans d3
    walk_at "go"
    refine c_any rfl dr3.1 (by decide) (by decide +kernel) fun th H4 t0 t1 d4 => ?_
    walk_at "go"
    refine r_new (Nat.le_of_ble_eq_true rfl) fun D H5 n5 => ?_
    have dr4 := dr3.trans d4
    have nD : H D = none := dr4.free n5.1
    have dr5 := dr4.nw n5
    obtain ⟨Da, Db⟩ := hd.none nD
    walk_at "go"
    refine l_range1 (by omega) (by omega) (fun i σ' H' => ∃ y ns, σ' = [some (.ref a), some (.int (m : Int)), some (.int g), some (.int r), some (.int z), some (.int th), some (.ref D), y] ∧ Dr a b H H' ∧ H' D = some (.lst (ns.map V.int)) ∧ ns.length = i ∧ ∀ i, -g ≤ cf ns i ∧ cf ns i ≤ g) ⟨_, [], rfl, dr5, n5.at, rfl, fun i => by rw [cf_nil]; omega⟩ (fun i σ' H' hi p => ?_) fun σ' H' p => ?_
    · obtain ⟨y, ns, rfl, p1, p2, p3, p4⟩ := p
      have add : ∀ (v : Int) H2, -g ≤ v → v ≤ g → Dr a b H' H2 → ∀ H3, Mu D (.lst (ns.map V.int ++ [.int v])) H2 H3 → ∃ (y' : Option V) (ns' : List Int), ([some (.ref a), some (.int (m : Int)), some (.int g), some (.int r), some (.int z), some (.int th), some (.ref D), some (.int (i : Int))] : L2.St) = [some (.ref a), some (.int (m : Int)), some (.int g), some (.int r), some (.int z), some (.int th), some (.ref D), y'] ∧ Dr a b H H3 ∧ H3 D = some (.lst (ns'.map V.int)) ∧ ns'.length = i + 1 ∧ ∀ i, -g ≤ cf ns' i ∧ cf ns' i ≤ g := fun v H2 v0 v1 dv H3 mu => by
        refine ⟨_, ns ++ [v], rfl, (p1.trans dv).mu hd mu nD, by rw [mu.at, List.map_append]; rfl, by rw [List.length_append, p3]; rfl, fun j => ?_⟩
        rw [cf_snoc_at]
        split
        · exact ⟨v0, v1⟩
        · exact p4 j
      have hle : (ns.map V.int).length ≤ 1000000 := by rw [List.length_map]; omega
      walk_at "go"
      refine r_dec (fun e => ?_) (fun e => ?_)
      · walk_at "go"
        refine c_any rfl p1.1 (by decide) (by decide +kernel) fun q H6 _ _ d6 => ?_
        walk_at "go"
        refine r_dec (fun e2 => ?_) (fun e2 => ?_)
        · walk_at "go"
          refine r_app (d6.2.1 _ _ Da Db p2) hle fun H7 mu => ?_
          exact add 0 H6 (by omega) (by omega) d6 H7 mu
        · walk_at "go"
          refine c_near rfl d6.1 (by omega) (by omega) fun v H7 v0 v1 d7 => ?_
          walk_at "go"
          refine r_app (d7.2.1 _ _ Da Db (d6.2.1 _ _ Da Db p2)) hle fun H8 mu => ?_
          exact add v H7 (by omega) (by omega) (d6.trans d7) H8 mu
      · walk_at "go"
        refine c_near rfl p1.1 (by omega) (by omega) fun v H7 v0 v1 d7 => ?_
        walk_at "go"
        refine r_app (d7.2.1 _ _ Da Db p2) hle fun H8 mu => ?_
        exact add v H7 (by omega) (by omega) d7 H8 mu
    · obtain ⟨y, ns, rfl, p1, p2, p3, p4⟩ := p
      have hle : ns.length ≤ m := by omega
      walk_at "g"
      refine l_if (fun σ' H' => ∃ y ns, σ' = [some (.ref a), some (.int (m : Int)), some (.int g), some (.int r), some (.int z), some (.int th), some (.ref D), y] ∧ Dr a b H H' ∧ H' D = some (.lst (ns.map V.int)) ∧ Rw m g ns) (fun nx hnx => ?_) fun σ' H' p => ?_
      · walk_at "go"
        refine r_dec (fun e => ?_) (fun e => ?_)
        · walk_at "go"
          refine r_ixLast p2 (by omega) ?_
          walk_at "go"
          refine r_dec (fun e2 => ?_) (fun e2 => ?_)
          · walk_at "go"
            refine r_new (Nat.le_of_ble_eq_true rfl) fun q6 H6 n6 => ?_
            walk_at "go"
            refine c_of rfl (p1.1.keep n6.same) n6.at (p1.1.new n6) (Nat.zero_lt_succ _) (Nat.le_of_ble_eq_true rfl) fun x H7 hx d7 => ?_
            have hx2 : ∃ n : Int, x = .int n ∧ n ≠ 0 ∧ -g ≤ n ∧ n ≤ g := by
              rcases List.mem_cons.mp hx with rfl | hx
              · exact ⟨_, rfl, by omega, by omega, by omega⟩
              rcases List.mem_cons.mp hx with rfl | hx
              · exact ⟨_, rfl, by decide, by omega, by omega⟩
              cases List.mem_singleton.mp hx
              exact ⟨_, rfl, by omega, by omega, by omega⟩
            obtain ⟨u, rfl, u0, u1, u2⟩ := hx2
            walk_at "go"
            refine r_setLlast (d7.2.1 _ _ Da Db (n6.same _ _ p2)) (by omega) fun H8 mu => ?_
            refine hnx _ _ ⟨_, _, rfl, ((p1.nw n6).trans d7).mu hd mu nD, mu.at, by rw [List.length_set]; exact hle, fun i => ?_, .inr ?_⟩
            · rw [cf_set (by omega)]
              split
              · exact ⟨u1, u2⟩
              · exact p4 i
            · rw [List.length_set, cf_set (by omega), if_pos rfl]
              exact u0
          · walk_at "go"
            exact hnx _ _ ⟨_, ns, rfl, p1, p2, hle, p4, .inr e2⟩
        · walk_at "go"
          exact hnx _ _ ⟨_, ns, rfl, p1, p2, hle, p4, .inl (List.eq_nil_of_length_eq_zero (by omega))⟩
      · obtain ⟨y, ns, rfl, p1, p2, p3⟩ := p
        walk_at "go"
        exact k D ns _ nD p2 p3 p1
end
end Al

set_option Elab.async false
set_option linter.all false
set_option maxRecDepth 100000
set_option maxHeartbeats 4000000
set_option exponentiation.threshold 20000
open PySem PySem.Spec PyProof.Rows L2 Al
namespace Al
section
variable {P : Program} {w : World} {K : PySem.W.Frag} {mg : Str → Option Value} {base : Heap}
/-- a part of the law -/
def spB (K : PySem.W.Frag) : Sp := fun vs H Q _ => ∃ a b : Addr, vs = [.ref a] ∧ DealOk H a b ∧ ∀ H', Dr a b H H' → Q (.bl true) H'
theorem c_B {a b : Addr} {H : Hp} {Q : VK} {E : XK} {vs : List V} (e : vs = [.ref a]) (h : DealOk H a b) (q : ∀ H', Dr a b H H' → Q (.bl true) H') : spB K vs H Q E := ⟨a, b, e, h, q⟩
theorem lt400 {n g : Int} (h : -g ≤ n ∧ n ≤ g) (hg : g.natAbs < 2 ^ 400) : n.natAbs < 2 ^ 400 := by omega
theorem up8 {n : Int} (h : n.natAbs < 2 ^ 400) : n.natAbs < 2 ^ 8000 := Nat.lt_of_lt_of_le h (Nat.pow_le_pow_right (by decide) (by decide))
theorem p20 : ((10 : Int) ^ (20 : Int).toNat) = 100000000000000000000 := by decide
theorem g20 : ((100000000000000000000 - 1 : Int)).natAbs < 2 ^ 400 := by decide +kernel
theorem ok_taken (T : Txt K mg) : FnOk P w K mg base CX0 5 T.a_law_taken T.d_law_taken p_law_taken (spB K) := by
  have G_law_any : FnOk P w K mg base CX0 1 T.a_law_any T.d_law_any p_law_any (sp_any K) := ok_any T
  have G_law_of : FnOk P w K mg base CX0 2 T.a_law_of T.d_law_of p_law_of (sp_of K) := ok_of T
  have G_law_whole : FnOk P w K mg base CX0 4 T.a_law_whole T.d_law_whole p_law_whole (sp_lwhole K) := ok_lwhole T
  have G_law_bottom : FnOk P w K mg base CX0 3 T.a_law_bottom T.d_law_bottom p_law_bottom (sp_lbottom K) := ok_lbottom T
  have G_law_told : FnOk P w K mg base CX0 4 T.a_law_told T.d_law_told p_law_told (sp_told K) := ok_told T
  have G_law_line : FnOk P w K mg base CX0 4 T.a_law_line T.d_law_line p_law_line (sp_line K) := ok_line T
  have G_line_of : FnOk P w K mg base CX0 4 T.a_line_of T.d_line_of p_line_of (sp_lineof K) := ok_line_of T
  have G_law_same : FnOk P w K mg base CX0 3 T.a_law_same T.d_law_same p_law_same (sp_same K 2) := ok_same T 2
  refine T.f_law_taken.ok sc_law_taken (fun vs H Q E h => ?_) (fun cdv A outer s H vs Q E hr h => ?_)
  · obtain ⟨a, b, rfl, _⟩ := h; rfl
  · obtain ⟨a, b, rfl, hd, k⟩ := h
    refine ⟨_, (pss_cons (ps_asg (pe_tup (pa_cons (pe_call G_law_whole (hr.mono (by omega)) (by rfl) T.g_law_whole T.f_law_whole.kp T.b_law_whole .nil pass0 (pa_cons (pv 0) (pa_cons pe_int (pa_cons (pe_op op_sub (pe_op op_pow pe_int pe_int) pe_int) pa_nil)))) (pa_cons (pe_call G_law_bottom (hr.mono (by omega)) (by rfl) T.g_law_bottom T.f_law_bottom.kp T.b_law_bottom .nil pass0 (pa_cons (pv 0) (pa_cons (pe_op op_sub (pe_op op_pow pe_int pe_int) pe_int) pa_nil))) pa_nil))) (pg_tup (n := 2) rfl (pgs_cons (pg_name (i := 1) sc_law_taken.nd rfl (.inl rfl)) (pgs_cons (pg_name (i := 2) sc_law_taken.nd rfl (.inr rfl)) pgs_nil))))
      (pss_cons (ps_setLc (i := 3) (own := [("number", 9)]) (g := gName 9) rfl sc_law_taken.nd rfl rfl (sw_true rfl rfl rfl (by decide +kernel)) (pi_listK K (pv 1)) (blkOk_by (own := [("number", 9)]) (N := n_law_taken) (sc := defScope s_law_taken) (by decide +kernel)) (fun _ _ _ _ _ => pg_name (i := 9) sc_law_taken.nd rfl (Or.inl rfl)) (fun _ _ _ _ _ => pts_nil) (fun _ _ _ _ _ => (pe_call G_law_told (hr.mono (by omega)) (by rfl) T.g_law_told T.f_law_told.kp T.b_law_told .nil pass0 (pa_cons (pv 0) (pa_cons (pv 9) (pa_cons (pv 2) pa_nil))))))
      (pss_cons (ps_set (i := 3) sc_law_taken.nd rfl (.inl rfl) (pe_op op_cat (pv 3) (pe_lc (own := [("at", 7)]) (g := gName 7) rfl sc_law_taken.nd (pi_range1 rfl T.z_range (pa_cons (pe_call G_law_any (hr.mono (by omega)) (by rfl) T.g_law_any T.f_law_any.kp T.b_law_any .nil pass0 (pa_cons (pv 0) (pa_cons pe_int pa_nil))) pa_nil)) (blkOk_by (own := [("at", 7)]) (N := n_law_taken) (sc := defScope s_law_taken) (by decide +kernel)) (fun _ _ _ _ _ => pg_name (i := 7) sc_law_taken.nd rfl (Or.inl rfl)) (fun _ _ _ _ _ => pts_nil) (fun _ _ _ _ _ => (pe_call G_law_of (hr.mono (by omega)) (by rfl) T.g_law_of T.f_law_of.kp T.b_law_of .nil pass0 (pa_cons (pv 0) (pa_cons (pe_lst (pa_cons pe_int (pa_cons (pe_tup (pa_cons pe_int (pa_cons pe_int pa_nil))) pa_nil))) pa_nil)))))))
      (pss_cons (ps_par (i := 4) (j := 5) rfl sc_law_taken.nd rfl rfl (by decide) rfl rfl (pa_cons (pe_call G_law_line (hr.mono (by omega)) (by rfl) T.g_law_line T.f_law_line.kp T.b_law_line .nil pass0 (pa_cons (pv 1) (pa_cons (pv 2) pa_nil))) (pa_cons (pe_callTy (cr_listK K) (by rfl) T.z_list (by decide +kernel) (pa_cons (pv 3) pa_nil)) pa_nil)) (by rfl))
      (pss_cons (ps_set (i := 6) sc_law_taken.nd rfl (.inl rfl) (pe_call G_line_of (hr.mono (by omega)) (by rfl) T.g_line_of T.f_line_of.kp T.b_line_of .nil pass0 (pa_cons (pv 3) pa_nil)))
      (pss_cons (ps_if (PW.pt (pw_or (pt_not (pt_val (pe_call G_law_same (hr.mono (by omega)) (by rfl) T.g_law_same T.f_law_same.kp T.b_law_same .nil pass0 (pa_cons (pv 6) (pa_cons (pv 4) pa_nil))))) (pw_or1 (pt_cmpR (op_neDK K hr.units) (pv 3) (pv 5) (nomark _)))))
        (pss_one (ps_ret pe_bl)) pss_nil)
      (pss_cons (ps_if (pt_cmpR op_gt (pe_callB (cr_lenK K) (by rfl) T.z_len (by decide +kernel) (pa_cons (pv 3) pa_nil)) pe_int (nomark _))
        (pss_cons (ps_set (i := 7) sc_law_taken.nd rfl (.inl rfl) (pe_call G_law_any (hr.mono (by omega)) (by rfl) T.g_law_any T.f_law_any.kp T.b_law_any .nil pass0 (pa_cons (pv 0) (pa_cons (pe_callB (cr_lenK K) (by rfl) T.z_len (by decide +kernel) (pa_cons (pv 3) pa_nil)) pa_nil))))
      (pss_cons (ps_asg pe_int (pg_sub (pv 3) (pv 7) set_list))
      (pss_cons (ps_set (i := 8) sc_law_taken.nd rfl (.inl rfl) (pe_op op_cat (pe_callTy (cr_listK K) (by rfl) T.z_list (by decide +kernel) (pa_cons (pv 1) pa_nil)) (pe_op op_rep (pe_lst (pa_cons pe_int pa_nil)) (pe_op op_sub (pe_callB (cr_lenK K) (by rfl) T.z_len (by decide +kernel) (pa_cons (pv 3) pa_nil)) (pe_callB (cr_lenK K) (by rfl) T.z_len (by decide +kernel) (pa_cons (pv 1) pa_nil))))))
      (pss_cons (ps_asg (pe_op op_mulZ pe_int (pv 2)) (pg_sub (pv 8) (pv 7) set_list))
      (pss_one (ps_if (PW.pt (pw_or (pt_not (pt_val (pe_call G_law_same (hr.mono (by omega)) (by rfl) T.g_law_same T.f_law_same.kp T.b_law_same .nil pass0 (pa_cons (pe_callK0 G_line_of (hr.mono (by omega)) (by rfl) T.g_line_of T.f_line_of.kp (T.kb_line_of_numbers) pass0 (pk_cons (pv 3) pk_nil)) (pa_cons (pe_call G_law_line (hr.mono (by omega)) (by rfl) T.g_law_line T.f_law_line.kp T.b_law_line .nil pass0 (pa_cons (pv 8) (pa_cons (pv 2) pa_nil))) pa_nil))))) (pw_or1 (pt_not (pt_val (pe_call G_law_same (hr.mono (by omega)) (by rfl) T.g_law_same T.f_law_same.kp T.b_law_same .nil pass0 (pa_cons (pv 6) (pa_cons (pv 4) pa_nil))))))))
        (pss_one (ps_ret pe_bl)) pss_nil)))))) pss_nil)
      (pss_one (ps_ret (pe_and (pe_call G_law_same (hr.mono (by omega)) (by rfl) T.g_law_same T.f_law_same.kp T.b_law_same .nil pass0 (pa_cons (pe_call G_line_of (hr.mono (by omega)) (by rfl) T.g_line_of T.f_line_of.kp T.b_line_of .nil pass0 (pa_cons (pe_callTy (cr_tupleK K) (by rfl) T.z_tuple (by decide +kernel) (pa_cons (pv 5) pa_nil)) pa_nil)) (pa_cons (pv 4) pa_nil))) (pe_one (pe_call G_law_same (hr.mono (by omega)) (by rfl) T.g_law_same T.f_law_same.kp T.b_law_same .nil pass0 (pa_cons (pe_call G_line_of (hr.mono (by omega)) (by rfl) T.g_line_of T.f_line_of.kp T.b_line_of .nil pass0 (pa_cons (pv 4) pa_nil)) (pa_cons (pv 4) pa_nil)))))))))))))), ?_⟩
    have g3 : (2 : Nat) ^ 400 ≤ 2 ^ 2000 := Nat.pow_le_pow_right (by decide) (by decide)
    have g4 : (2 : Nat) ^ 400 ≤ 2 ^ 3000 := Nat.pow_le_pow_right (by decide) (by decide)
    walk_at "go0"
    · rw [p20]
      refine c_lwhole (m := 94) rfl hd (by decide) (by decide) (by decide) (Nat.lt_of_lt_of_le g20 g3) fun p ns H1 np hp hw d1 => ?_
      walk_at "go"
      · rw [p20]
        refine c_lbottom rfl d1.1 (by decide) (Nat.lt_of_lt_of_le g20 g4) fun m H2 m0 m1 d2 => ?_
        have dr2 := d1.trans d2
        have Op : Own a b H2 p (ns.map V.int) := (Own.ls hd np hp).dr d2
        have ms : m.natAbs < 2 ^ 400 := lt400 ⟨by omega, m1⟩ g20
        have nl := hw.len
        walk_at "go"
        refine r_new (Nat.le_of_ble_eq_true rfl) fun t H3 n3 => ?_
        have dr3 := dr2.nw n3
        have Op3 := Op.same n3.same
        walk_at "go"
        refine c_list Op3.sq (fun D j H' => H3 D = none ∧ Dr a b H3 H' ∧ ∃ vs, H' D = some (.lst vs) ∧ CR K H' vs ((ns.take j).map fun n => Rat.divInt n m)) (fun _ => rfl) (fun D H2 n2 => ⟨n2.1, (Dr.rfl' dr3.1).nw n2, [], n2.at, CR.nil⟩) (fun D j H' _ q => (Op3.dr q.2.1).sq) (fun D j x H' ex q => ?_) fun D H4 q => ?_
        · obtain ⟨q0, q1, ws, q2, q3⟩ := q
          obtain ⟨rfl, hj⟩ := int_at ex
          obtain ⟨Da, Db⟩ := dr3.1.none q0
          walk_at "go"
          refine c_told rfl q1.1 (by omega) (up8 ms) fun v H5 cv d5 => ?_
          walk_at "go"
          have hD := d5.2.1 _ _ Da Db q2
          refine r_it hD (by rw [q3.1, List.length_map, List.length_take]; omega) fun H6 mu => ⟨q0, (q1.trans d5).mu dr3.1 mu q0, _, mu.at, ?_⟩
          rw [List.take_add_one, cf_lt hj, List.map_append]
          exact ((q3.keep d5.2.2).keep (mu.tk hD)).snoc (cv.keep (mu.tk hD))
        · obtain ⟨q0, q1, ws, q2, q3⟩ := q
          rw [List.length_map, List.take_length] at q3
          have dr4 := dr3.trans q1
          obtain ⟨Da, Db⟩ := dr3.1.none q0
          have nD : H D = none := dr3.free q0
          have OD : Own a b H4 D ws := ⟨q2, Da, Db⟩
          have Op4 := Op3.dr q1
          walk_at "go"
          refine c_any rfl dr4.1 (by decide) (by decide +kernel) fun r H5 r0 r1 d5 => ?_
          walk_at "go"
          refine c_range1 (by omega) r0 (fun F j H' => H5 F = none ∧ Dr a b H5 H' ∧ ∃ vs, H' F = some (.lst vs) ∧ CR K H' vs (List.replicate j 0)) (fun _ => rfl) (fun F H2 n2 => ⟨n2.1, (Dr.rfl' d5.1).nw n2, [], n2.at, CR.nil⟩) (fun F j H' hj q => ?_) fun F H6 q => ?_
          · obtain ⟨f0, f1, us, f2, f3⟩ := q
            obtain ⟨Fa, Fb⟩ := d5.1.none f0
            walk_at "go"
            refine r_new (Nat.le_of_ble_eq_true rfl) fun t1 J1 m1' => ?_
            walk_at "go"
            refine r_new (Nat.le_of_ble_eq_true rfl) fun t2 J2 m2' => ?_
            walk_at "go"
            have dj := (f1.nw m1').nw m2'
            refine c_of rfl dj.1 m2'.at ((f1.nw m1').1.new m2') (Nat.zero_lt_succ _) (Nat.le_of_ble_eq_true rfl) fun x J3 hx d6 => ?_
            have hF := d6.2.1 _ _ Fa Fb (m2'.same _ _ (m1'.same _ _ f2))
            have cx : Cr K J3 x 0 := by
              rcases List.mem_cons.mp hx with rfl | hx
              · exact .inl ⟨0, rfl, zero_div1⟩
              · cases List.mem_singleton.mp hx
                exact .inr ⟨0, 1, ⟨t1, rfl, ((Tp.new m1').keep m2'.tk).keep d6.2.2⟩, by decide, by decide +kernel, zero_div1⟩
            refine r_it hF (by rw [f3.1, List.length_replicate]; omega) fun J4 mu => ⟨f0, (dj.trans d6).mu d5.1 mu f0, _, mu.at, ?_⟩
            rw [List.replicate_succ']
            exact ((((f3.keep m1'.tk).keep m2'.tk).keep d6.2.2).keep (mu.tk hF)).snoc (cx.keep (mu.tk hF))
          · obtain ⟨f0, f1, us, f2, f3⟩ := q
            have d6 := d5.trans f1
            have OD6 := OD.dr d6
            have q3len : ws.length = (ns.map fun n => Rat.divInt n m).length := q3.1
            have lw : ws.length ≤ 94 := by rw [q3.1, List.length_map]; exact nl
            have lu : us.length ≤ 6 := by rw [f3.1, List.length_replicate]; omega
            refine r_cat OD6.1 f2 (by omega) fun G H7 n7 => ?_
            have cG : CR K H7 (ws ++ us) ((ns.map fun n => Rat.divInt n m) ++ List.replicate r.toNat 0) := ((q3.keep d6.2.2).append f3).keep n7.tk
            have lG : (ws ++ us).length ≤ 100 := by rw [List.length_append]; omega
            have dr7 : Dr a b H H7 := (dr4.trans d6).nw n7
            have nG : H G = none := (dr4.trans d6).free n7.1
            obtain ⟨Ga, Gb⟩ := hd.none nG
            have Op7 := (Op4.dr d6).same n7.same
            generalize hqs : (ns.map fun n => Rat.divInt n m) ++ List.replicate r.toNat 0 = qs at cG
            have cq : cutR qs = Ln ns m := by rw [← hqs, cut_pad]; rfl
            have hG7 := n7.at
            walk_at "go"
            refine c_line rfl Op7.1 (by omega) (up8 ms) (by omega) fun v0 H8 s8 L8 => ?_
            walk_at "go"
            refine r_listL (SqL.of (s8 _ _ hG7)) fun Kp H9 n9 => ?_
            walk_at "go"
            have cG9 := (cG.keep (TK.of s8)).keep n9.tk
            have hG9 := n9.same _ _ (s8 _ _ hG7)
            refine c_lineof rfl (.inl (SqL.of hG9)) cG9 (by omega) fun vf H10 s10 L10 => ?_
            rw [cq] at L10
            have ll : (Ln ns m).length ≤ 100000 := by have := Ln_len ns m; omega
            have L0 := (L8.keep n9.tk).keep (TK.of s10)
            have cG10 := cG9.keep (TK.of s10)
            have hG10 := s10 _ _ hG9
            have hK10 := s10 _ _ n9.at
            have dr10 := ((dr7.same s8).nw n9).same s10
            have nK : H Kp = none := (dr7.same s8).free n9.1
            obtain ⟨Ka, Kb⟩ := hd.none nK
            have KG : Kp ≠ G := (n9.ne (s8 _ _ hG7)).symm
            have Op10 := ((Op7.same s8).same n9.same).same s10
            have nep : G ≠ p := (n7.ne (Op4.dr d6).1).symm
            clear L8 cG cG9 hG9 hG7 Op7 OD6 f2 f3 q2 q3 OD Op4 Op3 Op hp
            walk_at "go"
            refine c_same rfl (L10.sm L0 rfl ll) fun H11 s11 => ?_
            walk_at "go"
            refine r_neSelf (cG10.keep (TK.of s11)).el (SqL.of (s11 _ _ hG10)) (SqL.of (s11 _ _ hK10)) ?_
            have cG := cG10.keep (TK.of s11)
            have hG := s11 _ _ hG10
            have hK := s11 _ _ hK10
            have LF := L10.keep (TK.of s11)
            have LD := L0.keep (TK.of s11)
            have dr := dr10.same s11
            have Op := Op10.same s11
            clear cG10 hG10 hK10 L10 L0 dr10 Op10
            walk_at "g"
            refine l_if (fun σ' H' => ∃ y7 y8, σ' = [some (.ref a), some (.ref p), some (.int m), some (.ref G), some v0, some (.ref Kp), some vf, y7, y8, none] ∧ Dr a b H H' ∧ H' Kp = some (.lst (ws ++ us)) ∧ CR K H' (ws ++ us) qs ∧ LnV K H' v0 (Ln ns m)) (fun nx hnx => ?_) fun σ' H' z => ?_
            · walk_at "go"
              refine r_dec (fun e => ?_) (fun e => ?_)
              · walk_at "go"
                refine c_any rfl dr.1 (by omega) (small30 (by omega) (by omega)) fun x H12 x0 x1 d12 => ?_
                have hG12 := d12.2.1 _ _ Ga Gb hG
                obtain ⟨i, rfl⟩ : ∃ i : Nat, x = (i : Int) := ⟨x.toNat, by omega⟩
                have hi : i < (ws ++ us).length := by omega
                have Op12 := Op.dr d12
                have hK12 := d12.2.1 _ _ Ka Kb hK
                have LF12 := LF.keep d12.2.2
                have LD12 := LD.keep d12.2.2
                have cG12 := cG.keep d12.2.2
                have dr12 := dr.trans d12
                clear hG Op hK LF LD cG dr
                walk_at "go"
                refine r_setL hG12 (ixN_at hi) fun H13 m13 => ?_
                have t13 := m13.tk hG12
                have hp13 : H13 p = some (.lst (ns.map V.int)) := by rw [m13.ne nep.symm]; exact Op12.1
                have hG13 := m13.at
                have dr13 := dr12.mu hd m13 nG
                have hK13 : H13 Kp = some (.lst (ws ++ us)) := by rw [m13.ne KG]; exact hK12
                walk_at "go"
                refine r_listL (SqL.of hp13) fun W1 H14 n14 => ?_
                walk_at "go"
                refine r_new (Nat.le_of_ble_eq_true rfl) fun W2 H15 n15 => ?_
                have hp15 := n15.same _ _ (n14.same _ _ hp13)
                have hG15 := n15.same _ _ (n14.same _ _ hG13)
                walk_at "go"
                have hlen : (((ws ++ us).set i (.int 7)).length : Int) - ((ns.map V.int).length : Int) = ((us.length : Nat) : Int) := by
                  rw [List.length_set, List.length_append, q3len, List.length_map, List.length_map]
                  omega
                rw [hlen]
                refine r_rep1 n15.at (by omega) (by omega) fun W3 H16 n16 => ?_
                walk_at "go"
                refine r_cat (n16.same _ _ (n15.same _ _ n14.at)) n16.at (by rw [List.length_map, List.length_replicate]; omega) fun W H17 n17 => ?_
                have sW := ((n14.same.trans n15.same).trans n16.same).trans n17.same
                have dr17 := dr13.same sW
                have hG17 := sW _ _ hG13
                have hK17 := sW _ _ hK13
                have nW : H W = none := (((dr13.nw n14).nw n15).nw n16).free n17.1
                have hW := n17.at
                rw [rep_ints, ← List.map_append, Int.toNat_natCast] at hW
                have WG : W ≠ G := (n17.ne (n16.same _ _ hG15)).symm
                have WK : W ≠ Kp := (n17.ne (n16.same _ _ (n15.same _ _ (n14.same _ _ hK13)))).symm
                clear hp15 hG15
                walk_at "go"
                · refine r_setLn hW rfl (by rw [List.length_append, List.length_replicate]; rw [List.length_append, q3len, List.length_map] at hi; omega) fun H18 m18 => ?_
                  have t18 := m18.tk hW
                  have hG18 : H18 G = _ := (m18.ne WG.symm).trans hG17
                  have hK18 : H18 Kp = _ := (m18.ne WK.symm).trans hK17
                  have dr18 := dr17.mu hd m18 nW
                  have tk := (t13.trans (TK.of sW)).trans t18
                  have cS : CR K H18 ((ws ++ us).set i (.int 7)) (qs.set i (Rat.divInt 7 1)) := (cG12.keep tk).set (.inl ⟨7, rfl, rfl⟩)
                  have hW18 := m18.at
                  walk_at "go"
                  refine c_lineof (a := G) rfl (.inl (SqL.of hG18)) cS (by rw [List.length_set]; omega) fun y1 H19 s19 l19 => ?_
                  walk_at "go"
                  refine c_line rfl (s19 _ _ hW18) (by omega) (up8 ms) (by rw [List.length_set, List.length_append, List.length_replicate]; omega) fun y2 H20 s20 l20 => ?_
                  walk_at "go"
                  have eqs : cutR (qs.set i (Rat.divInt 7 1)) = Ln ((ns ++ List.replicate us.length 0).set i (7 * m)) m := cut_eq fun j => by
                    rw [qf_set (by rw [← cG12.1]; exact hi), qf_div, cf_set (by rw [List.length_append, List.length_replicate]; rw [List.length_append, q3len, List.length_map] at hi; omega), cf_pad]
                    by_cases hj : j = i
                    · rw [if_pos hj, if_pos hj]
                      exact (Rat.divInt_eq_divInt_iff (by decide) (by omega)).mpr (by omega)
                    · rw [if_neg hj, if_neg hj, ← hqs, qf_pad, qf_div]
                  refine c_same rfl ((l19.keep (TK.of s20)).sm l20 eqs (by rw [eqs]; have := Ln_len ((ns ++ List.replicate us.length 0).set i (7 * m)) m; rw [List.length_set, List.length_append, List.length_replicate] at this; omega)) fun H21 s21 => ?_
                  have sl := (s19.trans s20).trans s21
                  walk_at "go"
                  refine c_same rfl ((LF12.keep (tk.trans (TK.of sl))).sm (LD12.keep (tk.trans (TK.of sl))) rfl ll) fun H22 s22 => ?_
                  walk_at "go"
                  have se := sl.trans s22
                  exact hnx _ _ ⟨_, _, rfl, dr18.same se, se _ _ hK18, cG12.keep (tk.trans (TK.of se)), LD12.keep (tk.trans (TK.of se))⟩
                all_goals walk_at "im"
              · walk_at "go"
                exact hnx _ _ ⟨_, _, rfl, dr, hK, cG, LD⟩
            · obtain ⟨y7, y8, rfl, dr', hK', cG', LD'⟩ := z
              walk_at "go"
              refine r_tupleL (SqL.of hK') fun u H12 n12 => ?_
              walk_at "go"
              refine c_lineof rfl (.inr (Tp.new n12).sq) (cG'.keep n12.tk) (by omega) fun z1 H13 s13 l13 => ?_
              walk_at "go"
              rw [cq] at l13
              refine c_same rfl (l13.sm ((LD'.keep n12.tk).keep (TK.of s13)) rfl ll) fun H14 s14 => ?_
              have s4 := (n12.same.trans s13).trans s14
              obtain ⟨t0, vs0, rfl, ht0, hc0⟩ := (LD'.keep (TK.of s4)).seq (Ln_den (by omega) (up8 ms))
              walk_at "go"
              refine c_lineof rfl (.inr ht0.sq) hc0 (by rw [hc0.1]; have := Ln_len ns m; omega) fun z2 H15 s15 l15 => ?_
              rw [Ln_cut] at l15
              walk_at "go"
              refine c_same rfl (l15.sm (LD'.keep (TK.of (s4.trans s15))) rfl ll) fun H16 s16 => ?_
              exact k _ (dr'.same ((s4.trans s15).trans s16))
      all_goals walk_at "im"
    all_goals walk_at "im"
end
end Al

set_option Elab.async false
set_option linter.all false
set_option maxRecDepth 100000
set_option maxHeartbeats 4000000
set_option exponentiation.threshold 20000
open PySem PySem.Spec PyProof.Rows L2 Al
namespace Al
theorem LnB.of {K : PySem.W.Frag} {H : Hp} {v : V} {ns : List Int} {b g : Int} (h : LnV K H v (Ln ns b)) (hs : ∀ i, -g ≤ cf ns i ∧ cf ns i ≤ g) (hl : ns.length ≤ 500) (b0 : 0 < b) (b1 : b.natAbs < 2 ^ 400) (hg : g.natAbs < 2 ^ 400) : LnB K H v ns b :=
  ⟨h, b0, b1, fun i => lt400 (hs i) hg, hl⟩
theorem LnB.nil {K : PySem.W.Frag} {H : Hp} {t : Addr} (h : Tp K H t []) : LnB K H (.ref t) [] 1 :=
  ⟨LnV.nil h, by decide, by decide +kernel, fun i => by rw [cf_nil]; exact Nat.two_pow_pos _, Nat.zero_le _⟩
theorem cf_neg (ns : List Int) (i : Nat) : cf (ns.map fun n => -n) i = -cf ns i := cf_map (f := fun n => -n) rfl i
theorem cf_app (f s : List Int) (i : Nat) : cf (f ++ s) i = if i < f.length then cf f i else cf s (i - f.length) := by
  by_cases h : i < f.length
  · rw [if_pos h]
    exact cf_get (by rw [List.getElem?_append_left h]; exact cf_lt h)
  · rw [if_neg h]
    by_cases h2 : i - f.length < s.length
    · exact cf_get (by rw [List.getElem?_append_right (by omega)]; exact cf_lt h2)
    · rw [cf_ge (by rw [List.length_append]; omega), cf_ge (by omega)]
theorem cf_drop (s : List Int) (n i : Nat) : cf (s.drop n) i = cf s (n + i) := by
  unfold cf
  rw [List.getD_eq_getElem?_getD, List.getD_eq_getElem?_getD, List.getElem?_drop]
theorem len_ok {ns : List Int} {b : Int} (h : ns.length ≤ 1000) : (Ln ns b).length ≤ 100000 := by
  have := Ln_len ns b
  omega
section
variable {P : Program} {w : World} {K : PySem.W.Frag} {mg : Str → Option Value} {base : Heap}
theorem ok_sums (T : Txt K mg) : FnOk P w K mg base CX0 7 T.a_law_sums T.d_law_sums p_law_sums (spB K) := by
  have G_law_any : FnOk P w K mg base CX0 1 T.a_law_any T.d_law_any p_law_any (sp_any K) := ok_any T
  have G_law_near : FnOk P w K mg base CX0 2 T.a_law_near T.d_law_near p_law_near (sp_near K) := ok_near T
  have G_law_whole : FnOk P w K mg base CX0 4 T.a_law_whole T.d_law_whole p_law_whole (sp_lwhole K) := ok_lwhole T
  have G_law_bottom : FnOk P w K mg base CX0 3 T.a_law_bottom T.d_law_bottom p_law_bottom (sp_lbottom K) := ok_lbottom T
  have G_law_line : FnOk P w K mg base CX0 4 T.a_law_line T.d_law_line p_law_line (sp_line K) := ok_line T
  have G_law_sum : FnOk P w K mg base CX0 1 T.a_law_sum T.d_law_sum p_law_sum (sp_lsum K) := ok_lsum T
  have G_line_plus : FnOk P w K mg base CX0 6 T.a_line_plus T.d_line_plus p_line_plus (sp_plus K) := ok_line_plus T
  have G_law_same : FnOk P w K mg base CX0 3 T.a_law_same T.d_law_same p_law_same (sp_same K 2) := ok_same T 2
  refine T.f_law_sums.ok sc_law_sums (fun vs H Q E h => ?_) (fun cdv A outer s H vs Q E hr h => ?_)
  · obtain ⟨a, b, rfl, _⟩ := h; rfl
  · obtain ⟨a, b, rfl, hd, k⟩ := h
    refine ⟨_, (pss_cons (ps_par (i := 1) (j := 2) rfl sc_law_sums.nd rfl rfl (by decide) rfl rfl (pa_cons (pe_call G_law_whole (hr.mono (by omega)) (by rfl) T.g_law_whole T.f_law_whole.kp T.b_law_whole .nil pass0 (pa_cons (pv 0) (pa_cons pe_int (pa_cons (pe_op op_sub (pe_op op_pow pe_int pe_int) pe_int) pa_nil)))) (pa_cons (pe_call G_law_bottom (hr.mono (by omega)) (by rfl) T.g_law_bottom T.f_law_bottom.kp T.b_law_bottom .nil pass0 (pa_cons (pv 0) (pa_cons (pe_op op_sub (pe_op op_pow pe_int pe_int) pe_int) pa_nil))) pa_nil)) (by rfl))
      (pss_cons (ps_asg (pe_tup (pa_cons (pe_call G_law_whole (hr.mono (by omega)) (by rfl) T.g_law_whole T.f_law_whole.kp T.b_law_whole .nil pass0 (pa_cons (pv 0) (pa_cons pe_int (pa_cons (pe_op op_sub (pe_op op_pow pe_int pe_int) pe_int) pa_nil)))) (pa_cons (pe_call G_law_bottom (hr.mono (by omega)) (by rfl) T.g_law_bottom T.f_law_bottom.kp T.b_law_bottom .nil pass0 (pa_cons (pv 0) (pa_cons (pe_op op_sub (pe_op op_pow pe_int pe_int) pe_int) pa_nil))) pa_nil))) (pg_tup (n := 2) rfl (pgs_cons (pg_name (i := 3) sc_law_sums.nd rfl (.inl rfl)) (pgs_cons (pg_name (i := 4) sc_law_sums.nd rfl (.inr rfl)) pgs_nil))))
      (pss_cons (ps_par (i := 5) (j := 6) rfl sc_law_sums.nd rfl rfl (by decide) rfl rfl (pa_cons (pe_call G_law_line (hr.mono (by omega)) (by rfl) T.g_law_line T.f_law_line.kp T.b_law_line .nil pass0 (pa_cons (pv 1) (pa_cons (pv 2) pa_nil))) (pa_cons (pe_call G_law_line (hr.mono (by omega)) (by rfl) T.g_law_line T.f_law_line.kp T.b_law_line .nil pass0 (pa_cons (pv 3) (pa_cons (pv 4) pa_nil))) pa_nil)) (by rfl))
      (pss_cons (ps_set (i := 7) sc_law_sums.nd rfl (.inl rfl) (pe_call G_law_line (hr.mono (by omega)) (by rfl) T.g_law_line T.f_law_line.kp T.b_law_line .nil pass0 (pa_cons (pe_call G_law_sum (hr.mono (by omega)) (by rfl) T.g_law_sum T.f_law_sum.kp T.b_law_sum .nil pass0 (pa_cons (pe_lc (own := [("number", 11)]) (g := gName 11) rfl sc_law_sums.nd (pi_listK K (pv 1)) (blkOk_by (own := [("number", 11)]) (N := n_law_sums) (sc := defScope s_law_sums) (by decide +kernel)) (fun _ _ _ _ _ => pg_name (i := 11) sc_law_sums.nd rfl (Or.inl rfl)) (fun _ _ _ _ _ => pts_nil) (fun _ _ _ _ _ => (pe_op op_mulZ (pv 11) (pv 4)))) (pa_cons (pv 3) (pa_cons (pv 2) pa_nil)))) (pa_cons (pe_op op_mulZ (pv 2) (pv 4)) pa_nil))))
      (pss_cons (ps_if (PW.pt (pw_or (pt_not (pt_val (pe_call G_law_same (hr.mono (by omega)) (by rfl) T.g_law_same T.f_law_same.kp T.b_law_same .nil pass0 (pa_cons (pe_call G_line_plus (hr.mono (by omega)) (by rfl) T.g_line_plus T.f_line_plus.kp T.b_line_plus .nil pass0 (pa_cons (pv 5) (pa_cons (pv 6) pa_nil))) (pa_cons (pv 7) pa_nil))))) (pw_or1 (pt_not (pt_val (pe_call G_law_same (hr.mono (by omega)) (by rfl) T.g_law_same T.f_law_same.kp T.b_law_same .nil pass0 (pa_cons (pe_callK0 G_line_plus (hr.mono (by omega)) (by rfl) T.g_line_plus T.f_line_plus.kp (T.kb_line_plus_other_one) pass0 (pk_cons (pv 5) (pk_cons (pv 6) pk_nil))) (pa_cons (pv 7) pa_nil))))))))
        (pss_one (ps_ret pe_bl)) pss_nil)
      (pss_cons (ps_set (i := 8) sc_law_sums.nd rfl (.inl rfl) (pe_call G_law_any (hr.mono (by omega)) (by rfl) T.g_law_any T.f_law_any.kp T.b_law_any .nil pass0 (pa_cons (pv 0) (pa_cons (pe_op op_add (pe_callB (cr_lenK K) (by rfl) T.z_len (by decide +kernel) (pa_cons (pv 1) pa_nil)) pe_int) pa_nil))))
      (pss_cons (ps_set (i := 9) sc_law_sums.nd rfl (.inl rfl) (pe_op op_cat (pe_lc (own := [("k", 12)]) (g := gName 12) rfl sc_law_sums.nd (pi_range1 rfl T.z_range (pa_cons (pv 8) pa_nil)) (blkOk_by (own := [("k", 12)]) (N := n_law_sums) (sc := defScope s_law_sums) (by decide +kernel)) (fun _ _ _ _ _ => pg_name (i := 12) sc_law_sums.nd rfl (Or.inl rfl)) (fun _ _ _ _ _ => pts_nil) (fun _ _ _ _ _ => (pe_call G_law_near (hr.mono (by omega)) (by rfl) T.g_law_near T.f_law_near.kp T.b_law_near .nil pass0 (pa_cons (pv 0) (pa_cons pe_int pa_nil))))) (pe_lc (own := [("number", 11)]) (g := gName 11) rfl sc_law_sums.nd (pi_listK K (pe_slice (sl_listK K) (pv 1) (po_some (pv 8)) po_none)) (blkOk_by (own := [("number", 11)]) (N := n_law_sums) (sc := defScope s_law_sums) (by decide +kernel)) (fun _ _ _ _ _ => pg_name (i := 11) sc_law_sums.nd rfl (Or.inl rfl)) (fun _ _ _ _ _ => pts_nil) (fun _ _ _ _ _ => (pe_un un_neg (pv 11))))))
      (pss_cons (ps_set (i := 7) sc_law_sums.nd rfl (.inl rfl) (pe_call G_law_line (hr.mono (by omega)) (by rfl) T.g_law_line T.f_law_line.kp T.b_law_line .nil pass0 (pa_cons (pe_call G_law_sum (hr.mono (by omega)) (by rfl) T.g_law_sum T.f_law_sum.kp T.b_law_sum .nil pass0 (pa_cons (pv 1) (pa_cons (pv 9) (pa_cons pe_int pa_nil)))) (pa_cons (pv 2) pa_nil))))
      (pss_cons (ps_if (pt_not (pt_val (pe_call G_law_same (hr.mono (by omega)) (by rfl) T.g_law_same T.f_law_same.kp T.b_law_same .nil pass0 (pa_cons (pe_call G_line_plus (hr.mono (by omega)) (by rfl) T.g_line_plus T.f_line_plus.kp T.b_line_plus .nil pass0 (pa_cons (pv 5) (pa_cons (pe_call G_law_line (hr.mono (by omega)) (by rfl) T.g_law_line T.f_law_line.kp T.b_law_line .nil pass0 (pa_cons (pv 9) (pa_cons (pv 2) pa_nil))) pa_nil))) (pa_cons (pv 7) pa_nil)))))
        (pss_one (ps_ret pe_bl)) pss_nil)
      (pss_cons (ps_set (i := 10) sc_law_sums.nd rfl (.inl rfl) (pe_call G_line_plus (hr.mono (by omega)) (by rfl) T.g_line_plus T.f_line_plus.kp T.b_line_plus .nil pass0 (pa_cons (pv 5) (pa_cons (pe_call G_law_line (hr.mono (by omega)) (by rfl) T.g_law_line T.f_law_line.kp T.b_law_line .nil pass0 (pa_cons (pe_lc (own := [("number", 11)]) (g := gName 11) rfl sc_law_sums.nd (pi_listK K (pv 1)) (blkOk_by (own := [("number", 11)]) (N := n_law_sums) (sc := defScope s_law_sums) (by decide +kernel)) (fun _ _ _ _ _ => pg_name (i := 11) sc_law_sums.nd rfl (Or.inl rfl)) (fun _ _ _ _ _ => pts_nil) (fun _ _ _ _ _ => (pe_un un_neg (pv 11)))) (pa_cons (pv 2) pa_nil))) pa_nil))))
      (pss_one (ps_ret (pe_and (pe_call G_law_same (hr.mono (by omega)) (by rfl) T.g_law_same T.f_law_same.kp T.b_law_same .nil pass0 (pa_cons (pv 10) (pa_cons (pe_tup pa_nil) pa_nil))) (pe_and (pe_call G_law_same (hr.mono (by omega)) (by rfl) T.g_law_same T.f_law_same.kp T.b_law_same .nil pass0 (pa_cons (pe_call G_line_plus (hr.mono (by omega)) (by rfl) T.g_line_plus T.f_line_plus.kp T.b_line_plus .nil pass0 (pa_cons (pv 5) (pa_cons (pe_tup pa_nil) pa_nil))) (pa_cons (pv 5) pa_nil))) (pe_one (pe_call G_law_same (hr.mono (by omega)) (by rfl) T.g_law_same T.f_law_same.kp T.b_law_same .nil pass0 (pa_cons (pe_call G_line_plus (hr.mono (by omega)) (by rfl) T.g_line_plus T.f_line_plus.kp T.b_line_plus .nil pass0 (pa_cons (pe_tup pa_nil) (pa_cons (pv 5) pa_nil))) (pa_cons (pv 5) pa_nil)))))))))))))))))), ?_⟩
    have g3 : (2 : Nat) ^ 400 ≤ 2 ^ 2000 := Nat.pow_le_pow_right (by decide) (by decide)
    have g4 : (2 : Nat) ^ 400 ≤ 2 ^ 3000 := Nat.pow_le_pow_right (by decide) (by decide)
    walk_at "go0"
    · rw [p20]
      refine c_lwhole (m := 100) rfl hd (by decide) (by decide) (by decide) (Nat.lt_of_lt_of_le g20 g3) fun p ns H1 np hp hw d1 => ?_
      walk_at "go"
      · rw [p20]
        refine c_lbottom rfl d1.1 (by decide) (Nat.lt_of_lt_of_le g20 g4) fun m H2 m0 m1 d2 => ?_
        have dr2 := d1.trans d2
        have Op : Own a b H2 p (ns.map V.int) := (Own.ls hd np hp).dr d2
        have ms : m.natAbs < 2 ^ 400 := lt400 ⟨by omega, m1⟩ g20
        have nl := hw.len
        walk_at "go"
        · rw [p20]
          refine c_lwhole (m := 100) rfl dr2.1 (by decide) (by decide) (by decide) (Nat.lt_of_lt_of_le g20 g3) fun q os H4 nq hq hv d4 => ?_
          walk_at "go"
          · rw [p20]
            refine c_lbottom rfl d4.1 (by decide) (Nat.lt_of_lt_of_le g20 g4) fun u H5 u0 u1 d5 => ?_
            have dr5 := (dr2.trans d4).trans d5
            have Oq : Own a b H5 q (os.map V.int) := (Own.ls dr2.1 nq hq).dr d5
            replace Op := (Op.dr d4).dr d5
            have us : u.natAbs < 2 ^ 400 := lt400 ⟨by omega, u1⟩ g20
            have ol := hv.len
            clear hp hq d1 d2 d4 d5
            walk_at "go"
            refine r_new (Nat.le_of_ble_eq_true rfl) fun t H3 n3 => ?_
            replace Op := Op.same n3.same
            replace Oq := Oq.same n3.same
            replace dr5 := dr5.nw n3
            have hp := Op.1
            have hq := Oq.1
            walk_at "go"
            -- first, second
            refine c_line rfl hp (by omega) (up8 ms) (by omega) fun v1 H6 s6 L1 => ?_
            walk_at "go"
            refine c_line rfl (s6 _ _ hq) (by omega) (up8 us) (by omega) fun v2 H7 s7 L2 => ?_
            have s67 := s6.trans s7
            replace L1 := L1.keep (TK.of s7)
            replace Op := Op.same s67
            replace Oq := Oq.same s67
            replace dr5 := dr5.same s67
            clear hp hq
            have hp := Op.1
            have hq := Oq.1
            have B1 : LnB K H7 v1 ns m := LnB.of L1 hw.sz (by omega) m0 ms g20
            have B2 : LnB K H7 v2 os u := LnB.of L2 hv.sz (by omega) u0 us g20
            walk_at "go"
            refine c_list (SqL.of hp) (fun D j H' => H7 D = none ∧ Same H7 H' ∧ H' D = some (.lst (((ns.take j).map fun n => n * u).map V.int))) (fun _ => rfl) (fun D H2 n2 => ⟨n2.1, n2.same, n2.at⟩) (fun D j H' _ q => SqL.of (q.2.1 _ _ hp)) (fun D j x H' ex q => ?_) fun D H8 q => ?_
            · obtain ⟨q0, q1, q2⟩ := q
              obtain ⟨rfl, hj⟩ := int_at ex
              walk_at "go"
              · refine r_it q2 (by rw [List.length_map, List.length_map, List.length_take]; omega) fun H3 mu => ⟨q0, mu.same0 q1 q0, ?_⟩
                rw [mu.at, List.take_add_one, cf_lt hj]
                simp only [List.map_append, Option.toList, List.map_cons, List.map_nil]
              · exact mul4 (lt400 (hw.sz j) g20) us
            · obtain ⟨q0, q1, q2⟩ := q
              rw [List.length_map, List.take_length] at q2
              walk_at "go"
              refine c_lsum rfl q2 (q1 _ _ hq) (by rw [List.length_map]; omega) (by omega) (fun i => mul4 ms (lt400 (hv.sz i) g20)) fun W ws H9 w0 w1 w2 w3 => ?_
              obtain ⟨w3, w4⟩ := w3
              rw [List.length_map] at w3
              have mu0 : m * u ≠ 0 := Int.mul_ne_zero (by omega) (by omega)
              walk_at "go"
              · refine c_line rfl w2 mu0 (prod4 ms us) (by omega) fun v3 H10 s10 L3 => ?_
                have sA := (q1.trans w1).trans s10
                have e4 : ∀ i, cf ws i = cf ns i * u + m * cf os i := fun i => by rw [w4, cf_map (f := fun n => n * u) (Int.zero_mul _)]
                walk_at "go"
                refine c_plus (ws := ws) (B := m * u) rfl (B1.keep (TK.of sA)) (B2.keep (TK.of sA)) mu0 (fun i => by rw [e4]; grind) fun v4 H11 s11 L4 => ?_
                walk_at "go"
                refine c_same rfl (L4.sm (L3.keep (TK.of s11)) rfl (len_ok (by omega))) fun H12 s12 => ?_
                walk_at "go"
                have sB := sA.trans (s11.trans s12)
                refine c_plus (ws := ws) (B := m * u) rfl (B2.keep (TK.of sB)) (B1.keep (TK.of sB)) mu0 (fun i => by rw [e4]; grind) fun v5 H13 s13 L5 => ?_
                walk_at "go"
                refine c_same rfl (L5.sm (L3.keep (TK.of ((s11.trans s12).trans s13))) rfl (len_ok (by omega))) fun H14 s14 => ?_
                have sC := sB.trans (s13.trans s14)
                replace Op := Op.same sC
                replace Oq := Oq.same sC
                replace dr5 := dr5.same sC
                replace B1 := B1.keep (TK.of sC)
                clear hp hq q1 q2 w1 w2 s10 s11 s12 s13 s14 L3 L4 L5 sA sB sC B2
                have hp := Op.1
                walk_at "go"
                refine c_any rfl dr5.1 (by omega) (small30 (by omega) (by rw [List.length_map]; omega)) fun x J1 x0 x1 d1 => ?_
                rw [List.length_map] at x1
                obtain ⟨n, rfl⟩ : ∃ n : Nat, x = (n : Int) := ⟨x.toNat, by omega⟩
                replace Op := Op.dr d1
                replace dr5 := dr5.trans d1
                replace B1 := B1.keep d1.2.2
                clear hp
                walk_at "go"
                refine c_range1 (by omega) (by omega) (fun F j H' => J1 F = none ∧ Dr a b J1 H' ∧ ∃ ls, H' F = some (.lst (ls.map V.int)) ∧ ls.length = j ∧ ∀ i, -9 ≤ cf ls i ∧ cf ls i ≤ 9) (fun _ => rfl) (fun F H2 n2 => ⟨n2.1, (Dr.rfl' d1.1).nw n2, [], n2.at, rfl, fun i => by rw [cf_nil]; omega⟩) (fun F j H' hj z => ?_) fun F J2 z => ?_
                · obtain ⟨f0, f1, ls, f2, f3, f4⟩ := z
                  obtain ⟨Fa, Fb⟩ := d1.1.none f0
                  walk_at "go"
                  refine c_near rfl f1.1 (by decide) (by decide +kernel) fun y H3 y0 y1 d6 => ?_
                  have hF := d6.2.1 _ _ Fa Fb f2
                  refine r_it hF (by rw [List.length_map]; omega) fun H4 mu => ⟨f0, (f1.trans d6).mu d1.1 mu f0, ls ++ [y], by rw [mu.at, List.map_append]; rfl, by rw [List.length_append, f3]; rfl, fun i => ?_⟩
                  rw [cf_snoc_at]
                  split
                  · exact ⟨y0, y1⟩
                  · exact f4 i
                · obtain ⟨f0, f1, ls, f2, f3, f4⟩ := z
                  rw [Int.toNat_natCast] at f3
                  replace Op := Op.dr f1
                  replace dr5 := dr5.trans f1
                  replace B1 := B1.keep f1.2.2
                  have hp := Op.1
                  walk_at "go"
                  refine r_slL (SqL.of hp) fun S J3 nS => ?_
                  rw [cut_from (by omega), Int.toNat_natCast, ← List.map_drop] at nS
                  refine c_list (SqL.of nS.at) (fun D j H' => J3 D = none ∧ Same J3 H' ∧ H' D = some (.lst ((((ns.drop n).take j).map fun n => -n).map V.int))) (fun _ => rfl) (fun D H2 n2 => ⟨n2.1, n2.same, n2.at⟩) (fun D j H' _ q => SqL.of (q.2.1 _ _ nS.at)) (fun D j x H' ex q => ?_) fun D2 J4 z => ?_
                  · obtain ⟨q0, q1, q2⟩ := q
                    obtain ⟨rfl, hj⟩ := int_at ex
                    walk_at "go"
                    refine r_it q2 (by rw [List.length_map, List.length_map, List.length_take, List.length_drop]; omega) fun H3 mu => ⟨q0, mu.same0 q1 q0, ?_⟩
                    rw [mu.at, List.take_add_one, cf_lt hj]
                    simp only [List.map_append, Option.toList, List.map_cons, List.map_nil]
                  · obtain ⟨z0, z1, z2⟩ := z
                    rw [List.length_map, List.take_length] at z2
                    have sD := nS.same.trans z1
                    refine r_cat (sD _ _ f2) z2 (by rw [List.length_map, List.length_map, List.length_map, List.length_drop]; omega) fun Lw J5 nL => ?_
                    have hL := nL.at
                    rw [← List.map_append] at hL
                    generalize hlw : ls ++ (ns.drop n).map (fun n => -n) = lw at hL
                    have lwl : lw.length ≤ 200 := by rw [← hlw, List.length_append, List.length_map, List.length_drop]; omega
                    have lws : ∀ i, -(100000000000000000000 - 1) ≤ cf lw i ∧ cf lw i ≤ 100000000000000000000 - 1 := fun i => by
                      rw [← hlw, cf_app]
                      split
                      · have := f4 i
                        omega
                      · rw [cf_neg, cf_drop]
                        have := hw.sz (n + (i - ls.length))
                        omega
                    have sE := sD.trans nL.same
                    replace Op := Op.same sE
                    replace dr5 := dr5.same sE
                    replace B1 := B1.keep (TK.of sE)
                    clear hp f2 z2 z1
                    have hp := Op.1
                    walk_at "go"
                    refine c_lsum (s := lw) rfl hp hL (by omega) (by omega) (fun i => mulC' ⟨by decide, by decide⟩) fun W2 xs J6 y0 y1 y2 y3 => ?_
                    obtain ⟨y3, y4⟩ := y3
                    walk_at "go"
                    refine c_line rfl y2 (by omega) (up8 ms) (by omega) fun v6 J7 s7' L6 => ?_
                    have sF := y1.trans s7'
                    walk_at "go"
                    refine c_line rfl (sF _ _ hL) (by omega) (up8 ms) (by omega) fun v7 J8 s8 L7 => ?_
                    have B7 : LnB K J8 v7 lw m := LnB.of L7 lws (by omega) m0 ms g20
                    walk_at "go"
                    refine c_plus (ws := xs) (B := m) rfl (B1.keep (TK.of (sF.trans s8))) B7 (by omega) (fun i => by rw [y4]; grind) fun v8 J9 s9 L8 => ?_
                    walk_at "go"
                    refine c_same rfl (L8.sm (L6.keep (TK.of (s8.trans s9))) rfl (len_ok (by omega))) fun J10 s10 => ?_
                    have sG := ((sF.trans s8).trans s9).trans s10
                    replace Op := Op.same sG
                    replace dr5 := dr5.same sG
                    replace B1 := B1.keep (TK.of sG)
                    clear hp
                    have hp := Op.1
                    walk_at "go"
                    refine c_list (SqL.of hp) (fun D j H' => J10 D = none ∧ Same J10 H' ∧ H' D = some (.lst (((ns.take j).map fun n => -n).map V.int))) (fun _ => rfl) (fun D H2 n2 => ⟨n2.1, n2.same, n2.at⟩) (fun D j H' _ q => SqL.of (q.2.1 _ _ hp)) (fun D j x H' ex q => ?_) fun D3 J11 z => ?_
                    · obtain ⟨q0, q1, q2⟩ := q
                      obtain ⟨rfl, hj⟩ := int_at ex
                      walk_at "go"
                      refine r_it q2 (by rw [List.length_map, List.length_map, List.length_take]; omega) fun H3 mu => ⟨q0, mu.same0 q1 q0, ?_⟩
                      rw [mu.at, List.take_add_one, cf_lt hj]
                      simp only [List.map_append, Option.toList, List.map_cons, List.map_nil]
                    · obtain ⟨z0, z1, z2⟩ := z
                      rw [List.length_map, List.take_length] at z2
                      walk_at "go"
                      refine c_line rfl z2 (by omega) (up8 ms) (by rw [List.length_map]; omega) fun v9 J12 s12 L9 => ?_
                      have sH := z1.trans s12
                      have B9 : LnB K J12 v9 (ns.map fun n => -n) m := LnB.of L9 (fun i => by rw [cf_neg]; have := hw.sz i; omega) (by rw [List.length_map]; omega) m0 ms g20
                      walk_at "go"
                      refine c_plus (ws := []) (B := 1) rfl (B1.keep (TK.of sH)) B9 (by decide) (fun i => by rw [cf_neg, cf_nil]; grind) fun v10 J13 s13 L10 => ?_
                      walk_at "go"
                      refine r_new (Nat.le_of_ble_eq_true rfl) fun e1 J14 n14 => ?_
                      walk_at "go"
                      refine c_same rfl ((L10.keep n14.tk).sm (LnV.nil (Tp.new n14)) rfl (len_ok (Nat.zero_le _))) fun J15 s15 => ?_
                      have sI := ((sH.trans s13).trans n14.same).trans s15
                      walk_at "go"
                      refine r_new (Nat.le_of_ble_eq_true rfl) fun e2 J16 n16 => ?_
                      have B3 := B1.keep (TK.of (sI.trans n16.same))
                      walk_at "go"
                      refine c_plus (ws := ns) (B := m) rfl B3 (LnB.nil (Tp.new n16)) (by omega) (fun i => by rw [cf_nil]; grind) fun v11 J17 s17 L11 => ?_
                      walk_at "go"
                      refine c_same rfl (L11.sm (B3.at'.keep (TK.of s17)) rfl (len_ok (by omega))) fun J18 s18 => ?_
                      walk_at "go"
                      refine r_new (Nat.le_of_ble_eq_true rfl) fun e3 J19 n19 => ?_
                      have sJ := (s17.trans s18).trans n19.same
                      walk_at "go"
                      refine c_plus (ws := ns) (B := m) rfl (LnB.nil (Tp.new n19)) (B3.keep (TK.of sJ)) (by omega) (fun i => by rw [cf_nil]; grind) fun v12 J20 s20 L12 => ?_
                      walk_at "go"
                      refine c_same rfl (L12.sm (B3.at'.keep (TK.of (sJ.trans s20))) rfl (len_ok (by omega))) fun J21 s21 => ?_
                      exact k _ (dr5.same (((sI.trans n16.same).trans sJ).trans (s20.trans s21)))
              · exact mul4 ms us
          all_goals walk_at "im"
        all_goals walk_at "im"
      all_goals walk_at "im"
    all_goals walk_at "im"
end
end Al

set_option Elab.async false
set_option linter.all false
set_option maxRecDepth 100000
set_option maxHeartbeats 4000000
set_option exponentiation.threshold 20000
open PySem PySem.Spec PyProof.Rows L2 Al
namespace Al
theorem p15 : ((10 : Int) ^ (15 : Int).toNat) = 1000000000000000 := by decide
theorem p18 : ((10 : Int) ^ (18 : Int).toNat) = 1000000000000000000 := by decide
/-- one coefficient alone, at a place -/
def alone (n : Nat) (o : Int) : List Int := List.replicate n 0 ++ [o]
theorem cf_alone (n : Nat) (o : Int) (k : Nat) : cf (alone n o) k = if k = n then o else 0 := by
  unfold alone
  rw [cf_one]
  rfl
theorem pmul_alone (n : Nat) (o : Int) (g : Nat → Int) (k : Nat) : pmul (alone n o) g k = o * beh n g k := by
  unfold alone
  rw [pmul_snoc, pmul_rep, List.length_replicate]
  omega
theorem Ln_ne {ns : List Int} {b : Int} {i : Nat} (hb : b ≠ 0) (h : cf ns i ≠ 0) : Ln ns b ≠ [] := fun z => h ((Ln_empty hb).mp z i)
theorem alone_rel {os : List Int} {u b o s : Int} {n : Nat} (hs : s * o = if o < 0 then -o else o) (h : ∀ k, k < n → cf os k = 0) : Rel os u (alone n o) b ((os.drop n).map fun x => s * x * b) (u * (if o < 0 then -o else o)) := fun k => by
  rw [pmul_alone]
  unfold beh
  by_cases hk : n ≤ k
  · rw [if_pos hk, cf_map (f := fun x => s * x * b) (by rw [Int.mul_zero, Int.zero_mul]), cf_drop, show n + (k - n) = k by omega, ← hs]
    grind
  · rw [if_neg hk, h k (by omega), Int.mul_zero, Int.zero_mul, Int.zero_mul]
theorem alone_no {os : List Int} {u b o : Int} {n j : Nat} (hb : b ≠ 0) (hj : j < n) (h : cf os j ≠ 0) : ∀ ws B, B ≠ 0 → ¬ Rel os u (alone n o) b ws B := fun ws B hB r => by
  have := r j
  rw [pmul_alone] at this
  unfold beh at this
  rw [if_neg (by omega), Int.mul_zero, Int.zero_mul] at this
  rcases Int.mul_eq_zero.mp this with e | e
  · exact h e
  · exact absurd e (Int.mul_ne_zero hb hB)
section
variable {P : Program} {w : World} {K : PySem.W.Frag} {mg : Str → Option Value} {base : Heap}
theorem sm_non {H : Hp} {n : Nat} : Sm K H (n + 1) .non .non := .inl ⟨rfl, .inr (.inr (.inl rfl))⟩
theorem ok_alone (T : Txt K mg) : FnOk P w K mg base CX0 7 T.a_law_alone T.d_law_alone p_law_alone (spB K) := by
  have G_law_any : FnOk P w K mg base CX0 1 T.a_law_any T.d_law_any p_law_any (sp_any K) := ok_any T
  have G_law_of : FnOk P w K mg base CX0 2 T.a_law_of T.d_law_of p_law_of (sp_of K) := ok_of T
  have G_law_whole : FnOk P w K mg base CX0 4 T.a_law_whole T.d_law_whole p_law_whole (sp_lwhole K) := ok_lwhole T
  have G_law_bottom : FnOk P w K mg base CX0 3 T.a_law_bottom T.d_law_bottom p_law_bottom (sp_lbottom K) := ok_lbottom T
  have G_law_line : FnOk P w K mg base CX0 4 T.a_law_line T.d_law_line p_law_line (sp_line K) := ok_line T
  have G_line_quotient : FnOk P w K mg base CX0 6 T.a_line_quotient T.d_line_quotient p_line_quotient (sp_quot K) := ok_line_quotient T
  have G_law_same : FnOk P w K mg base CX0 3 T.a_law_same T.d_law_same p_law_same (sp_same K 2) := ok_same T 2
  refine T.f_law_alone.ok sc_law_alone (fun vs H Q E h => ?_) (fun cdv A outer s H vs Q E hr h => ?_)
  · obtain ⟨a, b, rfl, _⟩ := h; rfl
  · obtain ⟨a, b, rfl, hd, k⟩ := h
    refine ⟨_, (pss_cons (ps_asg (pe_tup (pa_cons (pe_call G_law_whole (hr.mono (by omega)) (by rfl) T.g_law_whole T.f_law_whole.kp T.b_law_whole .nil pass0 (pa_cons (pv 0) (pa_cons pe_int (pa_cons (pe_op op_sub (pe_op op_pow pe_int pe_int) pe_int) pa_nil)))) (pa_cons (pe_call G_law_bottom (hr.mono (by omega)) (by rfl) T.g_law_bottom T.f_law_bottom.kp T.b_law_bottom .nil pass0 (pa_cons (pv 0) (pa_cons (pe_op op_sub (pe_op op_pow pe_int pe_int) pe_int) pa_nil))) (pa_cons (pe_call G_law_of (hr.mono (by omega)) (by rfl) T.g_law_of T.f_law_of.kp T.b_law_of .nil pass0 (pa_cons (pv 0) (pa_cons (pe_lst (pa_cons pe_int (pa_cons (pe_call G_law_any (hr.mono (by omega)) (by rfl) T.g_law_any T.f_law_any.kp T.b_law_any .nil pass0 (pa_cons (pv 0) (pa_cons pe_int pa_nil))) pa_nil))) pa_nil))) pa_nil)))) (pg_tup (n := 3) rfl (pgs_cons (pg_name (i := 1) sc_law_alone.nd rfl (.inr rfl)) (pgs_cons (pg_name (i := 2) sc_law_alone.nd rfl (.inl rfl)) (pgs_cons (pg_name (i := 3) sc_law_alone.nd rfl (.inl rfl)) pgs_nil)))))
      (pss_cons (ps_for PassesOwn.never rfl (pi_range1 rfl T.z_range (pa_cons (pe_callB (cr_min2 rfl) (by rfl) T.z_min (by decide +kernel) (pa_cons (pv 3) (pa_cons (pe_op op_sub (pe_callB (cr_lenK K) (by rfl) T.z_len (by decide +kernel) (pa_cons (pv 1) pa_nil)) pe_int) pa_nil))) pa_nil)) (pg_name (i := 4) sc_law_alone.nd rfl (.inl rfl))
        (pss_one (ps_if (pt_cmpR op_gt (pe_call G_law_any (hr.mono (by omega)) (by rfl) T.g_law_any T.f_law_any.kp T.b_law_any .nil pass0 (pa_cons (pv 0) (pa_cons pe_int pa_nil))) pe_int (nomark _))
        (pss_one (ps_asg pe_int (pg_sub (pv 1) (pv 4) set_list))) pss_nil)))
      (pss_cons (ps_asg (pe_tup (pa_cons (pe_call G_law_of (hr.mono (by omega)) (by rfl) T.g_law_of T.f_law_of.kp T.b_law_of .nil pass0 (pa_cons (pv 0) (pa_cons (pe_lst (pa_cons pe_int (pa_cons (pe_un un_neg pe_int) (pa_cons pe_int (pa_cons (pe_un un_neg pe_int) (pa_cons (pe_op op_add (pe_op op_pow pe_int pe_int) pe_int) pa_nil)))))) pa_nil))) (pa_cons (pe_call G_law_of (hr.mono (by omega)) (by rfl) T.g_law_of T.f_law_of.kp T.b_law_of .nil pass0 (pa_cons (pv 0) (pa_cons (pe_lst (pa_cons pe_int (pa_cons pe_int (pa_cons (pe_op op_sub (pe_op op_pow pe_int pe_int) pe_int) pa_nil)))) pa_nil))) pa_nil))) (pg_tup (n := 2) rfl (pgs_cons (pg_name (i := 5) sc_law_alone.nd rfl (.inr rfl)) (pgs_cons (pg_name (i := 6) sc_law_alone.nd rfl (.inr rfl)) pgs_nil))))
      (pss_cons (ps_par (i := 7) (j := 8) rfl sc_law_alone.nd rfl rfl (by decide) rfl rfl (pa_cons (pe_call G_law_line (hr.mono (by omega)) (by rfl) T.g_law_line T.f_law_line.kp T.b_law_line .nil pass0 (pa_cons (pe_op op_cat (pe_op op_rep (pe_lst (pa_cons pe_int pa_nil)) (pv 3)) (pe_lst (pa_cons (pv 5) pa_nil))) (pa_cons (pv 6) pa_nil))) (pa_cons pe_non pa_nil)) (by rfl))
      (pss_cons (ps_if (pt_cmpR op_eq (pe_callB (cr_lenK K) (by rfl) T.z_len (by decide +kernel) (pa_cons (pe_lc (own := [("at", 4)]) (g := gName 4) rfl sc_law_alone.nd (pi_range1 rfl T.z_range (pa_cons (pe_callB (cr_min2 rfl) (by rfl) T.z_min (by decide +kernel) (pa_cons (pv 3) (pa_cons (pe_callB (cr_lenK K) (by rfl) T.z_len (by decide +kernel) (pa_cons (pv 1) pa_nil)) pa_nil))) pa_nil)) (blkOk_by (own := [("at", 4)]) (N := n_law_alone) (sc := defScope s_law_alone) (by decide +kernel)) (fun _ _ _ _ _ => pg_name (i := 4) sc_law_alone.nd rfl (Or.inl rfl)) (fun _ _ _ _ _ => pts_one (pt_cmpR op_ne (pe_ix (ix_sqK K) (pv 1) (pv 4) (fun _ _ => rfl)) pe_int (nomark _))) (fun _ _ _ _ _ => (pv 4))) pa_nil)) pe_int (nomark _))
        (pss_one (ps_set (i := 8) sc_law_alone.nd rfl (.inl rfl) (pe_call G_law_line (hr.mono (by omega)) (by rfl) T.g_law_line T.f_law_line.kp T.b_law_line .nil pass0 (pa_cons (pe_lc (own := [("number", 9)]) (g := gName 9) rfl sc_law_alone.nd (pi_listK K (pe_slice (sl_listK K) (pv 1) (po_some (pv 3)) po_none)) (blkOk_by (own := [("number", 9)]) (N := n_law_alone) (sc := defScope s_law_alone) (by decide +kernel)) (fun _ _ _ _ _ => pg_name (i := 9) sc_law_alone.nd rfl (Or.inl rfl)) (fun _ _ _ _ _ => pts_nil) (fun _ _ _ _ _ => (pe_op op_mulZ (pe_op op_mulZ (pe_ifExp (pt_cmpR op_gt (pv 5) pe_int (nomark _)) pe_int (pe_un un_neg pe_int)) (pv 9)) (pv 6)))) (pa_cons (pe_op op_mulZ (pv 2) (pe_callB cr_abs (by rfl) T.z_abs (by decide +kernel) (pa_cons (pv 5) pa_nil))) pa_nil))))) pss_nil)
      (pss_one (ps_ret (pe_call G_law_same (hr.mono (by omega)) (by rfl) T.g_law_same T.f_law_same.kp T.b_law_same .nil pass0 (pa_cons (pe_call G_line_quotient (hr.mono (by omega)) (by rfl) T.g_line_quotient T.f_line_quotient.kp T.b_line_quotient .nil pass0 (pa_cons (pe_call G_law_line (hr.mono (by omega)) (by rfl) T.g_law_line T.f_law_line.kp T.b_law_line .nil pass0 (pa_cons (pv 1) (pa_cons (pv 2) pa_nil))) (pa_cons (pv 7) pa_nil))) (pa_cons (pv 8) pa_nil)))))))))), ?_⟩
    have g3 : (2 : Nat) ^ 400 ≤ 2 ^ 2000 := Nat.pow_le_pow_right (by decide) (by decide)
    have g4 : (2 : Nat) ^ 400 ≤ 2 ^ 3000 := Nat.pow_le_pow_right (by decide) (by decide)
    walk_at "go0"
    · rw [p20]
      refine c_lwhole (m := 80) rfl hd (by decide) (by decide) (by decide) (Nat.lt_of_lt_of_le g20 g3) fun p os0 H1 np hp hw d1 => ?_
      walk_at "go"
      · rw [p20]
        refine c_lbottom rfl d1.1 (by decide) (Nat.lt_of_lt_of_le g20 g4) fun u H2 u0 u1 d2 => ?_
        have dr2 := d1.trans d2
        have Op : Own a b H2 p (os0.map V.int) := (Own.ls hd np hp).dr d2
        have us : u.natAbs < 2 ^ 400 := lt400 ⟨by omega, u1⟩ g20
        have ol := hw.len
        walk_at "go"
        refine c_any rfl dr2.1 (by decide) (by decide +kernel) fun x H3 x0 x1 d3 => ?_
        walk_at "go"
        refine r_new (Nat.le_of_ble_eq_true rfl) fun t H4 n4 => ?_
        walk_at "go"
        have dr3 := dr2.trans d3
        refine c_of rfl (dr3.1.keep n4.same) n4.at (dr3.1.new n4) (Nat.zero_lt_succ _) (Nat.le_of_ble_eq_true rfl) fun y H5 hy d5 => ?_
        have hy2 : ∃ n : Nat, y = .int (n : Int) ∧ n < 9 := by
          rcases List.mem_cons.mp hy with rfl | hy
          · exact ⟨0, rfl, by decide⟩
          cases List.mem_singleton.mp hy
          exact ⟨x.toNat, by rw [Int.toNat_of_nonneg x0], by omega⟩
        obtain ⟨n, rfl, hn⟩ := hy2
        have dr5 := (dr3.nw n4).trans d5
        replace Op := ((Op.dr d3).same n4.same).dr d5
        clear dr2 dr3 d1 d2 d3 d5 n4 hp
        walk_at "go"
        refine r_new (Nat.le_of_ble_eq_true rfl) fun t2 H6 n6 => ?_
        have dr6 := dr5.nw n6
        replace Op := Op.same n6.same
        have hp := Op.1
        obtain ⟨pa, pb⟩ := hd.none np
        walk_at "g"
        have hmn : ∀ i : Int, -(10 : Int) ≤ i → i ≤ 1000 → -1000000 ≤ (if i < (n : Int) then i else (n : Int)) ∧ (if i < (n : Int) then i else (n : Int)) < 1000000 := fun i h1 h2 => by split <;> omega
        refine l_range1n (hmn _ (by omega) (by rw [List.length_map]; omega)).1 (hmn _ (by omega) (by rw [List.length_map]; omega)).2 (fun i σ' H' => ∃ y os, σ' = [some (.ref a), some (.ref p), some (.int u), some (.int (n : Int)), y, none, none, none, none, none] ∧ Dr a b H H' ∧ H' p = some (.lst (os.map V.int)) ∧ os.length = os0.length ∧ (∀ i, -(100000000000000000000 - 1) ≤ cf os i ∧ cf os i ≤ 100000000000000000000 - 1)) ⟨_, os0, rfl, dr6, hp, rfl, hw.sz⟩ (fun i σ' H' hi z => ?_) fun σ' H' z => ?_
        · obtain ⟨y, os, rfl, z1, z2, z3, z4⟩ := z
          have hil : i < os.length := by
            rw [List.length_map] at hi
            rw [z3]
            split at hi <;> omega
          walk_at "go"
          refine c_any rfl z1.1 (by decide) (by decide +kernel) fun v H7 _ _ d7 => ?_
          walk_at "go"
          refine r_dec (fun e => ?_) (fun e => ?_)
          · walk_at "go"
            refine r_setLn (d7.2.1 _ _ pa pb z2) rfl hil fun H8 mu => ?_
            refine ⟨_, _, rfl, (z1.trans d7).mu hd mu np, mu.at, by rw [List.length_set]; exact z3, fun j => ?_⟩
            rw [cf_set hil]
            split
            · omega
            · exact z4 j
          · walk_at "go"
            exact ⟨_, os, rfl, z1.trans d7, d7.2.1 _ _ pa pb z2, z3, z4⟩
        · obtain ⟨y, os, rfl, z1, z2, z3, z4⟩ := z
          clear hp Op
          walk_at "go"
          · rw [p15]
            refine r_new (Nat.le_of_ble_eq_true rfl) fun t3 H7 n7 => ?_
            walk_at "go"
            refine c_of rfl (z1.1.keep n7.same) n7.at (z1.1.new n7) (Nat.zero_lt_succ _) (Nat.le_of_ble_eq_true rfl) fun x H8 hx d8 => ?_
            have hx2 : ∃ o : Int, x = .int o ∧ o ≠ 0 ∧ o.natAbs < 2 ^ 400 ∧ ∃ s : Int, (s = 1 ∨ s = -1) ∧ (if (decide (0 < o)) = true then 1 else -1 : Int) = s ∧ s * o = if o < 0 then -o else o := by
              rcases List.mem_cons.mp hx with rfl | hx
              · exact ⟨_, rfl, by decide, by decide +kernel, 1, .inl rfl, rfl, rfl⟩
              rcases List.mem_cons.mp hx with rfl | hx
              · exact ⟨_, rfl, by decide, by decide +kernel, -1, .inr rfl, rfl, rfl⟩
              rcases List.mem_cons.mp hx with rfl | hx
              · exact ⟨_, rfl, by decide, by decide +kernel, 1, .inl rfl, rfl, rfl⟩
              rcases List.mem_cons.mp hx with rfl | hx
              · exact ⟨_, rfl, by decide, by decide +kernel, -1, .inr rfl, rfl, rfl⟩
              cases List.mem_singleton.mp hx
              exact ⟨_, rfl, by decide, by decide +kernel, 1, .inl rfl, rfl, rfl⟩
            obtain ⟨o, rfl, o0, oS, s, s1, s2, s3⟩ := hx2
            walk_at "go"
            · rw [p18]
              refine r_new (Nat.le_of_ble_eq_true rfl) fun t4 H9 n9 => ?_
              walk_at "go"
              have dr8 := (z1.nw n7).trans d8
              refine c_of rfl (dr8.1.keep n9.same) n9.at (dr8.1.new n9) (Nat.zero_lt_succ _) (Nat.le_of_ble_eq_true rfl) fun x H10 hx d10 => ?_
              have hx2 : ∃ c : Int, x = .int c ∧ 0 < c ∧ c.natAbs < 2 ^ 400 := by
                rcases List.mem_cons.mp hx with rfl | hx
                · exact ⟨_, rfl, by decide, by decide +kernel⟩
                rcases List.mem_cons.mp hx with rfl | hx
                · exact ⟨_, rfl, by decide, by decide +kernel⟩
                cases List.mem_singleton.mp hx
                exact ⟨_, rfl, by decide, by decide +kernel⟩
              obtain ⟨c, rfl, c0, cS⟩ := hx2
              have dr10 := (dr8.nw n9).trans d10
              have hp := d10.2.1 _ _ pa pb (n9.same _ _ (d8.2.1 _ _ pa pb (n7.same _ _ z2)))
              clear z1 z2 dr8 d8 d10 n7 n9
              walk_at "go"
              refine r_new (Nat.le_of_ble_eq_true rfl) fun t5 J1 m1 => ?_
              walk_at "go"
              -- line
              refine r_new (Nat.le_of_ble_eq_true rfl) fun l1 J2 m2 => ?_
              walk_at "go"
              refine r_rep1 m2.at (by omega) (by omega) fun l2 J3 m3 => ?_
              walk_at "go"
              refine r_new (Nat.le_of_ble_eq_true rfl) fun l3 J4 m4 => ?_
              walk_at "go"
              refine r_cat (m4.same _ _ m3.at) m4.at (by rw [List.length_replicate]; show _ + 1 ≤ _; omega) fun l4 J5 m5 => ?_
              have hl := m5.at
              rw [rep_ints, Int.toNat_natCast, show [V.int o] = [o].map V.int from rfl, ← List.map_append] at hl
              walk_at "go"
              refine c_line (ns := alone n o) rfl hl (by omega) (up8 cS) (by unfold alone; rw [List.length_append, List.length_replicate]; show _ + 1 ≤ _; omega) fun v1 J6 s6 L1 => ?_
              have sA := ((((m1.same.trans m2.same).trans m3.same).trans m4.same).trans m5.same).trans s6
              have B2 : LnB K J6 v1 (alone n o) c := ⟨L1, c0, cS, fun i => by rw [cf_alone]; split; exact oS; exact Nat.two_pow_pos _, by unfold alone; rw [List.length_append, List.length_replicate]; show _ + 1 ≤ _; omega⟩
              have hp6 := sA _ _ hp
              have dr6' := dr10.same sA
              have ln0 : Ln (alone n o) c ≠ [] := Ln_ne (i := n) (by omega) (by rw [cf_alone, if_pos rfl]; exact o0)
              clear hp hl m1 m2 m3 m4 m5
              walk_at "g"
              refine l_if (fun σ' H' => ∃ v, σ' = [some (.ref a), some (.ref p), some (.int u), some (.int (n : Int)), y, some (.int o), some (.int c), some v1, some v, none] ∧ Same J6 H' ∧ (((∀ k, k < n → cf os k = 0) ∧ LnV K H' v (Ln ((os.drop n).map fun x => s * x * c) (u * (if o < 0 then -o else o)))) ∨ (v = .non ∧ ∃ j, j < n ∧ cf os j ≠ 0))) (fun nx hnx => ?_) fun σ' H' z => ?_
              · walk_at "go"
                generalize hM : (if (((os.map V.int).length : Nat) : Int) < (n : Int) then (((os.map V.int).length : Nat) : Int) else (n : Int)) = M
                have hM0 : 0 ≤ M ∧ M ≤ (n : Int) ∧ M ≤ (os.length : Int) ∧ (M = (n : Int) ∨ M = (os.length : Int)) := by
                  rw [List.length_map] at hM
                  split at hM <;> omega
                refine c_range1 (by omega) hM0.1 (fun D j H' => J6 D = none ∧ Same J6 H' ∧ ∃ xs, H' D = some (.lst xs) ∧ xs.length ≤ j ∧ (xs = [] ↔ ∀ i, i < j → cf os i = 0)) (fun _ => rfl) (fun D H2 n2 => ⟨n2.1, n2.same, [], n2.at, Nat.le_refl _, ⟨fun _ i h => by omega, fun _ => rfl⟩⟩) (fun D j H' hj z => ?_) fun D J7 z => ?_
                · obtain ⟨q0, q1, xs, q2, q3, q4⟩ := z
                  walk_at "go"
                  refine r_ixLn (q1 _ _ hp6) rfl (by omega) ?_
                  walk_at "go"
                  refine r_ndec (fun e => ?_) (fun e => ?_)
                  · walk_at "go"
                    refine r_it q2 (by omega) fun H3 mu => ⟨q0, mu.same0 q1 q0, _, mu.at, by rw [List.length_append]; show _ + 1 ≤ _; omega, ⟨fun h => ?_, fun h => absurd (h j (by omega)) e⟩⟩
                    exact absurd (congrArg List.length h) (by rw [List.length_append]; show ¬ _ + 1 = 0; omega)
                  · refine ⟨q0, q1, xs, q2, by omega, ⟨fun h i hi => ?_, fun h => q4.mpr fun i hi => h i (by omega)⟩⟩
                    by_cases hij : i = j
                    · rw [hij]; exact e
                    · exact q4.mp h i (by omega)
                · obtain ⟨q0, q1, xs, q2, q3, q4⟩ := z
                  walk_at "go"
                  refine r_dec (fun e => ?_) (fun e => ?_)
                  · have zz : ∀ k, k < n → cf os k = 0 := fun k hk => by
                      by_cases hl : k < os.length
                      · exact q4.mp (List.eq_nil_of_length_eq_zero (by omega)) k (by omega)
                      · exact cf_ge (by omega)
                    have hp7 := q1 _ _ hp6
                    walk_at "go"
                    refine r_slL (SqL.of hp7) fun S J8 nS => ?_
                    rw [cut_from (by omega), Int.toNat_natCast, ← List.map_drop] at nS
                    refine c_list (SqL.of nS.at) (fun D j H' => J8 D = none ∧ Same J8 H' ∧ H' D = some (.lst ((((os.drop n).take j).map fun x => s * x * c).map V.int))) (fun _ => rfl) (fun D H2 n2 => ⟨n2.1, n2.same, n2.at⟩) (fun D j H' _ q => SqL.of (q.2.1 _ _ nS.at)) (fun D j x H' ex q => ?_) fun D2 J9 z => ?_
                    · obtain ⟨q0, q1, q2⟩ := q
                      obtain ⟨rfl, hj⟩ := int_at ex
                      have hx1 := z4 (n + j)
                      rw [← cf_drop] at hx1
                      have fin : ∀ H3, Mu D (.lst ((((os.drop n).take j).map fun x => s * x * c).map V.int ++ [.int (s * cf (os.drop n) j * c)])) H' H3 → J8 D = none ∧ Same J8 H3 ∧ H3 D = some (.lst ((((os.drop n).take (j + 1)).map fun x => s * x * c).map V.int)) := fun H3 mu => ⟨q0, mu.same0 q1 q0, by
                        rw [mu.at, List.take_add_one, cf_lt hj]
                        simp only [List.map_append, Option.toList, List.map_cons, List.map_nil]⟩
                      have fl : ((((os.drop n).take j).map fun x => s * x * c).map V.int).length ≤ 1000000 := by rw [List.length_map, List.length_map, List.length_take, List.length_drop]; omega
                      walk_at "go"
                      refine r_dec (fun e => ?_) (fun e => ?_)
                      · rw [decide_eq_true e, if_pos rfl] at s2
                        subst s2
                        walk_at "go"
                        · exact r_it q2 fl fin
                        · exact mul4 (lt400 ⟨by omega, by omega⟩ g20) cS
                        · exact mulC' ⟨by decide, by decide⟩
                      · rw [decide_eq_false e, if_neg (by decide)] at s2
                        subst s2
                        walk_at "go"
                        · exact r_it q2 fl fin
                        · exact mul4 (lt400 ⟨by omega, by omega⟩ g20) cS
                        · exact mulC' ⟨by decide, by decide⟩
                    · obtain ⟨y0, y1, y2⟩ := z
                      rw [List.length_map, List.take_length] at y2
                      walk_at "go"
                      · refine c_line rfl y2 (Int.mul_ne_zero (by omega) (by split <;> omega)) (prod4 us (by split <;> omega)) (by rw [List.length_map, List.length_drop]; omega) fun v J10 s10 L10 => ?_
                        exact hnx _ _ ⟨v, rfl, ((q1.trans nS.same).trans y1).trans s10, .inl ⟨zz, L10⟩⟩
                      · exact mul4 us (by split <;> omega)
                  · walk_at "go"
                    refine hnx _ _ ⟨.non, rfl, q1, .inr ⟨rfl, ?_⟩⟩
                    refine Classical.byContradiction fun no => e ?_
                    have : xs = [] := q4.mpr fun i hi => Classical.byContradiction fun z => no ⟨i, by omega, z⟩
                    rw [this]
                    rfl
              · obtain ⟨v, rfl, z1, z5⟩ := z
                walk_at "go"
                refine c_line rfl (z1 _ _ hp6) (by omega) (up8 us) (by omega) fun v2 J7 s7 L2 => ?_
                have B1 : LnB K J7 v2 os u := LnB.of L2 z4 (by omega) u0 us g20
                walk_at "go"
                rcases z5 with ⟨z5, z6⟩ | ⟨rfl, j, hj, z6⟩
                · refine c_quot rfl B1 (B2.keep (TK.of (z1.trans s7))) ln0 (Int.mul_ne_zero (by omega) (by split <;> omega)) (alone_rel s3 z5) fun v3 J8 s8 L8 => ?_
                  walk_at "go"
                  refine c_same rfl (L8.sm (z6.keep (TK.of (s7.trans s8))) rfl (len_ok (by rw [List.length_map, List.length_drop]; omega))) fun J9 s9 => ?_
                  exact k _ (dr6'.same (((z1.trans s7).trans s8).trans s9))
                · refine c_quotN rfl B1 (B2.keep (TK.of (z1.trans s7))) ln0 (alone_no (by omega) hj z6) fun J8 s8 => ?_
                  walk_at "go"
                  refine c_same rfl sm_non fun J9 s9 => ?_
                  exact k _ (dr6'.same (((z1.trans s7).trans s8).trans s9))
            all_goals walk_at "im"
          all_goals walk_at "im"
      all_goals walk_at "im"
    all_goals walk_at "im"
end
end Al

set_option Elab.async false
set_option linter.all false
set_option maxRecDepth 100000
set_option maxHeartbeats 4000000
set_option exponentiation.threshold 20000
open PySem PySem.Spec PyProof.Rows L2 Al
namespace Al
section
variable {P : Program} {w : World} {K : PySem.W.Frag} {mg : Str → Option Value} {base : Heap}
theorem c_step {n : Nat} {H : Hp} {Cn : VK} {σ : L2.St} (hn : n ≤ 900) (h : σ[6]? = some (some (.int (n : Int)))) (k : ∀ st J, Same H J → Tp K J st ((oneL n).map V.int) → Cn (.ref st) J) :
    if decide ((n : Int) = 0) = true then tTup tNil σ H Cn else tOp (rCatA K) (tOp (rCatA K) (tTup (tCons (tC (.int 1)) tNil)) (tOp (rRepA K) (tTup (tCons (tC (.int 0)) tNil)) (tOp (rI0 fun i j => .int (i - j)) (tVar 6) (tC (.int 1))))) (tTup (tCons (tUn (rU fun i => .int (-i)) (tC (.int 1))) tNil)) σ H Cn := by
  refine r_dec (fun e => ?_) (fun e => ?_)
  · walk_at "go"
    refine r_new (Nat.le_of_ble_eq_true rfl) fun p H1 np => ?_
    refine k _ _ np.same ?_
    unfold oneL
    rw [if_pos (by omega)]
    exact Tp.new np
  · walk_at "go"
    refine r_new (Nat.le_of_ble_eq_true rfl) fun p H1 np => ?_
    walk_at "go"
    refine r_new (Nat.le_of_ble_eq_true rfl) fun p2 H2 np2 => ?_
    walk_at "go"
    refine r_var h ?_
    walk_at "go"
    refine r_repT1 (Tp.new np2) (by omega) (by omega) fun p3 H3 s3 t3 => ?_
    walk_at "go"
    refine r_catT (by walk_at "tp") t3 (by rw [List.length_replicate]; show 1 + _ ≤ _; omega) fun p4 H4 s4 t4 => ?_
    walk_at "go"
    refine r_new (Nat.le_of_ble_eq_true rfl) fun p5 H5 np5 => ?_
    walk_at "go"
    refine r_catT (t4.keep np5.tk) (Tp.new np5) (by rw [List.length_append, List.length_replicate]; show 1 + _ + 1 ≤ _; omega) fun p6 H6 s6 t6 => ?_
    refine k _ _ (((((np.same.trans np2.same).trans s3).trans s4).trans np5.same).trans s6) ?_
    unfold oneL
    rw [if_neg (by omega)]
    have e1 : ((n : Int) - 1).toNat = n - 1 := by omega
    rw [e1, rep_ints] at t6
    rw [List.map_append, List.map_append]
    exact t6
theorem ok_turned (T : Txt K mg) : FnOk P w K mg base CX0 7 T.a_law_turned T.d_law_turned p_law_turned (spB K) := by
  have G_law_any : FnOk P w K mg base CX0 1 T.a_law_any T.d_law_any p_law_any (sp_any K) := ok_any T
  have G_law_of : FnOk P w K mg base CX0 2 T.a_law_of T.d_law_of p_law_of (sp_of K) := ok_of T
  have G_law_whole : FnOk P w K mg base CX0 4 T.a_law_whole T.d_law_whole p_law_whole (sp_lwhole K) := ok_lwhole T
  have G_law_bottom : FnOk P w K mg base CX0 3 T.a_law_bottom T.d_law_bottom p_law_bottom (sp_lbottom K) := ok_lbottom T
  have G_law_line : FnOk P w K mg base CX0 4 T.a_law_line T.d_law_line p_law_line (sp_line K) := ok_line T
  have G_line_backwards : FnOk P w K mg base CX0 5 T.a_line_backwards T.d_line_backwards p_line_backwards (sp_back K) := ok_line_backwards T
  have G_one_less : FnOk P w K mg base CX0 1 T.a_one_less T.d_one_less p_one_less (sp_oneless K) := ok_one_less T
  have G_line_quotient : FnOk P w K mg base CX0 6 T.a_line_quotient T.d_line_quotient p_line_quotient (sp_quot K) := ok_line_quotient T
  have G_law_same : FnOk P w K mg base CX0 3 T.a_law_same T.d_law_same p_law_same (sp_same K 2) := ok_same T 2
  refine T.f_law_turned.ok sc_law_turned (fun vs H Q E h => ?_) (fun cdv A outer s H vs Q E hr h => ?_)
  · obtain ⟨a, b, rfl, _⟩ := h; rfl
  · obtain ⟨a, b, rfl, hd, k⟩ := h
    refine ⟨_, (pss_cons (ps_asg (pe_tup (pa_cons (pe_call G_law_whole (hr.mono (by omega)) (by rfl) T.g_law_whole T.f_law_whole.kp T.b_law_whole .nil pass0 (pa_cons (pv 0) (pa_cons pe_int (pa_cons (pe_op op_sub (pe_op op_pow pe_int pe_int) pe_int) pa_nil)))) (pa_cons (pe_call G_law_bottom (hr.mono (by omega)) (by rfl) T.g_law_bottom T.f_law_bottom.kp T.b_law_bottom .nil pass0 (pa_cons (pv 0) (pa_cons (pe_op op_sub (pe_op op_pow pe_int pe_int) pe_int) pa_nil))) pa_nil))) (pg_tup (n := 2) rfl (pgs_cons (pg_name (i := 1) sc_law_turned.nd rfl (.inr rfl)) (pgs_cons (pg_name (i := 2) sc_law_turned.nd rfl (.inl rfl)) pgs_nil))))
      (pss_cons (ps_set (i := 1) sc_law_turned.nd rfl (.inr rfl) (pe_op op_cat (pe_op op_rep (pe_lst (pa_cons pe_int pa_nil)) (pe_callB (cr_min2 rfl) (by rfl) T.z_min (by decide +kernel) (pa_cons (pe_call G_law_any (hr.mono (by omega)) (by rfl) T.g_law_any T.f_law_any.kp T.b_law_any .nil pass0 (pa_cons (pv 0) (pa_cons pe_int pa_nil))) (pa_cons (pe_op op_sub pe_int (pe_callB (cr_lenK K) (by rfl) T.z_len (by decide +kernel) (pa_cons (pv 1) pa_nil))) pa_nil)))) (pv 1)))
      (pss_cons (ps_set (i := 3) sc_law_turned.nd rfl (.inl rfl) (pe_callB (cr_lenK K) (by rfl) T.z_len (by decide +kernel) (pa_cons (pe_lc (own := [("at", 8)]) (g := gName 8) rfl sc_law_turned.nd (pi_range1 rfl T.z_range (pa_cons (pe_callB (cr_lenK K) (by rfl) T.z_len (by decide +kernel) (pa_cons (pv 1) pa_nil)) pa_nil)) (blkOk_by (own := [("at", 8)]) (N := n_law_turned) (sc := defScope s_law_turned) (by decide +kernel)) (fun _ _ _ _ _ => pg_name (i := 8) sc_law_turned.nd rfl (Or.inl rfl)) (fun _ _ _ _ _ => pts_one (pt_cmpR op_eq (pe_callB (cr_lenK K) (by rfl) T.z_len (by decide +kernel) (pa_cons (pe_lc (own := [("k", 9)]) (g := gName 9) rfl sc_law_turned.nd (pi_range1 rfl T.z_range (pa_cons (pe_op op_add (pv 8) pe_int) pa_nil)) (blkOk_by (own := [("k", 9)]) (N := n_law_turned) (sc := { kind := ScopeKind.function, names := [(".0", .local), ("at", .local), ("len", .globalImplicit), ("range", .globalImplicit), ("one", .cell)], isGenerator := false, isCoroutine := false }) (by decide +kernel)) (fun _ _ _ _ _ => pg_name (i := 9) sc_law_turned.nd rfl (Or.inl rfl)) (fun _ _ _ _ _ => pts_one (pt_cmpR op_ne (pe_ix (ix_sqK K) (pv 1) (pv 9) (fun _ _ => rfl)) pe_int (nomark _))) (fun _ _ _ _ _ => (pv 9))) pa_nil)) pe_int (nomark _))) (fun _ _ _ _ _ => (pv 8))) pa_nil)))
      (pss_cons (ps_par (i := 4) (j := 5) rfl sc_law_turned.nd rfl rfl (by decide) rfl rfl (pa_cons (pe_call G_law_line (hr.mono (by omega)) (by rfl) T.g_law_line T.f_law_line.kp T.b_law_line .nil pass0 (pa_cons (pv 1) (pa_cons (pv 2) pa_nil))) (pa_cons (pe_call G_law_line (hr.mono (by omega)) (by rfl) T.g_law_line T.f_law_line.kp T.b_law_line .nil pass0 (pa_cons (pe_revLK K (pv 1)) (pa_cons (pv 2) pa_nil))) pa_nil)) (by rfl))
      (pss_cons (ps_if (PW.pt (pw_or (pt_not (pt_val (pe_call G_law_same (hr.mono (by omega)) (by rfl) T.g_law_same T.f_law_same.kp T.b_law_same .nil pass0 (pa_cons (pe_call G_line_backwards (hr.mono (by omega)) (by rfl) T.g_line_backwards T.f_line_backwards.kp T.b_line_backwards .nil pass0 (pa_cons (pv 4) pa_nil)) (pa_cons (pv 5) pa_nil))))) (pw_or1 (pt_not (pt_val (pe_call G_law_same (hr.mono (by omega)) (by rfl) T.g_law_same T.f_law_same.kp T.b_law_same .nil pass0 (pa_cons (pe_callK0 G_line_backwards (hr.mono (by omega)) (by rfl) T.g_line_backwards T.f_line_backwards.kp (T.kb_line_backwards_line) pass0 (pk_cons (pv 5) pk_nil)) (pa_cons (pe_call G_law_line (hr.mono (by omega)) (by rfl) T.g_law_line T.f_law_line.kp T.b_law_line .nil pass0 (pa_cons (pe_slice (sl_listK K) (pv 1) (po_some (pv 3)) po_none) (pa_cons (pv 2) pa_nil))) pa_nil))))))))
        (pss_one (ps_ret pe_bl)) pss_nil)
      (pss_cons (ps_set (i := 6) sc_law_turned.nd rfl (.inl rfl) (pe_call G_law_of (hr.mono (by omega)) (by rfl) T.g_law_of T.f_law_of.kp T.b_law_of .nil pass0 (pa_cons (pv 0) (pa_cons (pe_lst (pa_cons pe_int (pa_cons pe_int (pa_cons pe_int (pa_cons (pe_call G_law_any (hr.mono (by omega)) (by rfl) T.g_law_any T.f_law_any.kp T.b_law_any .nil pass0 (pa_cons (pv 0) (pa_cons pe_int pa_nil))) pa_nil))))) pa_nil))))
      (pss_cons (ps_set (i := 7) sc_law_turned.nd rfl (.inl rfl) (pe_ifExp (pt_cmpR op_eq (pv 6) pe_int (nomark _)) (pe_tup pa_nil) (pe_op (op_catAK K) (pe_op (op_catAK K) (pe_tup (pa_cons pe_int pa_nil)) (pe_op (op_repAK K) (pe_tup (pa_cons pe_int pa_nil)) (pe_op op_sub (pv 6) pe_int))) (pe_tup (pa_cons (pe_un un_neg pe_int) pa_nil)))))
      (pss_cons (ps_if (PW.pt (pw_or (pt_not (pt_val (pe_call G_law_same (hr.mono (by omega)) (by rfl) T.g_law_same T.f_law_same.kp T.b_law_same .nil pass0 (pa_cons (pe_call G_one_less (hr.mono (by omega)) (by rfl) T.g_one_less T.f_one_less.kp T.b_one_less .nil pass0 (pa_cons (pv 6) pa_nil)) (pa_cons (pv 7) pa_nil))))) (pw_or1 (pt_not (pt_val (pe_call G_law_same (hr.mono (by omega)) (by rfl) T.g_law_same T.f_law_same.kp T.b_law_same .nil pass0 (pa_cons (pe_callK0 G_one_less (hr.mono (by omega)) (by rfl) T.g_one_less T.f_one_less.kp (T.kb_one_less_number) pass0 (pk_cons (pv 6) pk_nil)) (pa_cons (pv 7) pa_nil))))))))
        (pss_one (ps_ret pe_bl)) pss_nil)
      (pss_one (ps_ret (pe_or (pe_cmpR op_eq (pv 6) pe_int (nomark _)) (pe_one (pe_call G_law_same (hr.mono (by omega)) (by rfl) T.g_law_same T.f_law_same.kp T.b_law_same .nil pass0 (pa_cons (pe_call G_line_quotient (hr.mono (by omega)) (by rfl) T.g_line_quotient T.f_line_quotient.kp T.b_line_quotient .nil pass0 (pa_cons (pv 7) (pa_cons (pe_tup (pa_cons pe_int (pa_cons (pe_un un_neg pe_int) pa_nil))) pa_nil))) (pa_cons (pe_op (op_repAK K) (pe_tup (pa_cons pe_int pa_nil)) (pv 6)) pa_nil))))))))))))))), ?_⟩
    have g3 : (2 : Nat) ^ 400 ≤ 2 ^ 2000 := Nat.pow_le_pow_right (by decide) (by decide)
    have g4 : (2 : Nat) ^ 400 ≤ 2 ^ 3000 := Nat.pow_le_pow_right (by decide) (by decide)
    walk_at "go0"
    · rw [p20]
      refine c_lwhole (m := 100) rfl hd (by decide) (by decide) (by decide) (Nat.lt_of_lt_of_le g20 g3) fun p os H1 np hp hw d1 => ?_
      walk_at "go"
      · rw [p20]
        refine c_lbottom rfl d1.1 (by decide) (Nat.lt_of_lt_of_le g20 g4) fun u H2 u0 u1 d2 => ?_
        have dr2 := d1.trans d2
        have Op : Own a b H2 p (os.map V.int) := (Own.ls hd np hp).dr d2
        have us : u.natAbs < 2 ^ 400 := lt400 ⟨by omega, u1⟩ g20
        have ol := hw.len
        walk_at "go"
        refine r_new (Nat.le_of_ble_eq_true rfl) fun t H3 n3 => ?_
        replace Op := Op.same n3.same
        replace dr2 := dr2.nw n3
        clear hp d1 d2
        walk_at "go"
        refine r_new (Nat.le_of_ble_eq_true rfl) fun l1 H4 n4 => ?_
        have dr4 := dr2.nw n4
        replace Op := Op.same n4.same
        have O4 : Own a b H4 l1 [.int 0] := Own.new dr2.1 n4
        walk_at "go"
        refine c_any rfl dr4.1 (by decide) (by decide +kernel) fun x H5 x0 x1 d5 => ?_
        have dr5 := dr4.trans d5
        replace Op := Op.dr d5
        have h5 := (O4.dr d5).1
        have hp := Op.1
        walk_at "go"
        generalize hM : (if (100 - (((os.map V.int).length : Nat) : Int)) < x then (100 - (((os.map V.int).length : Nat) : Int)) else x) = M
        have hM0 : 0 ≤ M ∧ M + (os.length : Int) ≤ 100 := by
          rw [List.length_map] at hM
          split at hM <;> omega
        refine r_rep1 h5 (by omega) (by omega) fun l2 H6 n6 => ?_
        walk_at "go"
        refine r_cat n6.at (n6.same _ _ hp) (by rw [List.length_replicate, List.length_map]; omega) fun q H7 n7 => ?_
        have hq := n7.at
        rw [rep_ints, ← List.map_append] at hq
        have hl : (∀ i, cf (List.replicate M.toNat 0 ++ os) i = 0) ∨ cf (List.replicate M.toNat 0 ++ os) ((List.replicate M.toNat 0 ++ os).length - 1) ≠ 0 := by
          rcases hw.last with e | e
          · subst e
            refine .inl fun i => ?_
            rw [List.append_nil, cf_replicate]
          · have : os.length ≠ 0 := fun z => e (cf_ge (by omega))
            refine .inr ?_
            rw [cf_app, List.length_append, List.length_replicate, if_neg (by omega), show M.toNat + os.length - 1 - M.toNat = os.length - 1 by omega]
            exact e
        have nl : (List.replicate M.toNat 0 ++ os).length ≤ 100 := by rw [List.length_append, List.length_replicate]; omega
        generalize hns : (List.replicate M.toNat 0 ++ os : List Int) = ns at hq hl nl
        have dr7 := (dr5.nw n6).nw n7
        clear hp h5 Op O4 d5 dr2 dr4
        walk_at "go"
        refine c_range1 (by rw [List.length_map]; omega) (by omega) (fun D j H' => H7 D = none ∧ Same H7 H' ∧ ∃ xs, H' D = some (.lst xs) ∧ Ahead ns j xs.length) (fun _ => rfl) (fun D H2 n2 => ⟨n2.1, n2.same, [], n2.at, Nat.le_refl _, fun k h => absurd h (Nat.not_lt_zero _), .inl rfl⟩) (fun D j H' hj z => ?_) fun D J1 z => ?_
        · obtain ⟨q0, q1, xs, q2, q3⟩ := z
          rw [List.length_map] at hj
          have hq' := q1 _ _ hq
          walk_at "go"
          refine c_range1 (by omega) (by omega) (fun F i H2 => H' F = none ∧ Same H' H2 ∧ ∃ ys, H2 F = some (.lst ys) ∧ ys.length ≤ i ∧ (ys = [] ↔ ∀ k, k < i → cf ns k = 0)) (fun _ => rfl) (fun F H2 n2 => ⟨n2.1, n2.same, [], n2.at, Nat.le_refl _, ⟨fun _ i h => by omega, fun _ => rfl⟩⟩) (fun F i H2 hi z => ?_) fun F H2 z => ?_
          · obtain ⟨f0, f1, ys, f2, f3, f4⟩ := z
            walk_at "go"
            refine r_ixLn (f1 _ _ hq') rfl (by omega) ?_
            walk_at "go"
            refine r_ndec (fun e => ?_) (fun e => ?_)
            · walk_at "go"
              refine r_it f2 (by omega) fun H3 mu => ⟨f0, mu.same0 f1 f0, _, mu.at, by rw [List.length_append]; show _ + 1 ≤ _; omega, ⟨fun h => ?_, fun h => absurd (h i (by omega)) e⟩⟩
              exact absurd (congrArg List.length h) (by rw [List.length_append]; show ¬ _ + 1 = 0; omega)
            · refine ⟨f0, f1, ys, f2, by omega, ⟨fun h k hk => ?_, fun h => f4.mpr fun k hk => h k (by omega)⟩⟩
              by_cases hij : k = i
              · rw [hij]; exact e
              · exact f4.mp h k (by omega)
          · obtain ⟨f0, f1, ys, f2, f3, f4⟩ := z
            rw [show ((j : Int) + 1).toNat = j + 1 by omega] at f3 f4
            walk_at "go"
            refine r_dec (fun e => ?_) (fun e => ?_)
            · walk_at "go"
              refine r_it (f1 _ _ q2) (by have := q3.1; omega) fun H3 mu => ⟨q0, mu.same0 (q1.trans f1) q0, _, mu.at, ?_⟩
              rw [List.length_append]
              exact q3.yes (f4.mp (List.eq_nil_of_length_eq_zero (by omega)))
            · refine ⟨q0, q1.trans f1, xs, f1 _ _ q2, q3.no fun z => e ?_⟩
              rw [f4.mpr z]
              rfl
        · obtain ⟨q0, q1, xs, q2, q3⟩ := z
          rw [List.length_map, Int.toNat_natCast] at q3
          generalize hL : xs.length = L at q3
          have hq1 := q1 _ _ hq
          have dr8 := dr7.same q1
          walk_at "go"
          rw [hL]
          refine c_line rfl hq1 (by omega) (up8 us) (by omega) fun v1 J2 s2 L1 => ?_
          have hq2 := s2 _ _ hq1
          walk_at "go"
          refine r_rev (SqL.of hq2) fun q2' J3 n3' => ?_
          have hr := n3'.at
          rw [← List.map_reverse] at hr
          walk_at "go"
          refine c_line rfl hr (by omega) (up8 us) (by rw [List.length_reverse]; omega) fun v2 J4 s4 L2 => ?_
          have s34 := n3'.same.trans s4
          have ub : (u : Int) ≠ 0 := by omega
          have ll1 := Ln_len ns u
          have ll2 := Ln_len ns.reverse u
          rw [List.length_reverse] at ll2
          replace L1 := L1.keep (TK.of s34)
          have dr9 := (dr8.same s2).same s34
          have hq4 := s34 _ _ hq2
          clear hq1 hq2 hq hr dr7 dr8 q2
          walk_at "go"
          refine c_back rfl L1 (by omega) (Ln_den ub (up8 us)) fun v3 J5 s5 L3 => ?_
          rw [back_one ub hl] at L3
          walk_at "go"
          refine c_same rfl (L3.sm (L2.keep (TK.of s5)) rfl (by omega)) fun J6 s6 => ?_
          walk_at "go"
          refine c_back rfl (L2.keep (TK.of (s5.trans s6))) (by omega) (Ln_den ub (up8 us)) fun v4 J7 s7 L4 => ?_
          rw [back_two ub q3] at L4
          have sA := (s5.trans s6).trans s7
          have hq7 := sA _ _ hq4
          walk_at "go"
          refine r_slL (SqL.of hq7) fun S J8 nS => ?_
          rw [cut_from (by omega), Int.toNat_natCast, ← List.map_drop] at nS
          walk_at "go"
          refine c_line rfl nS.at ub (up8 us) (by rw [List.length_drop]; omega) fun v5 J9 s9 L5 => ?_
          walk_at "go"
          have ll3 := Ln_len (ns.drop L) u
          rw [List.length_drop] at ll3
          refine c_same rfl ((L4.keep (TK.of (nS.same.trans s9))).sm L5 rfl (by omega)) fun J10 s10 => ?_
          have sB := ((sA.trans nS.same).trans s9).trans s10
          have drB := dr9.same sB
          clear L1 L2 L3 L4 L5 hq4 hq7 dr9
          walk_at "go"
          refine c_any rfl drB.1 (by decide) (by decide +kernel) fun y J11 y0 y1 d11 => ?_
          walk_at "go"
          refine r_new (Nat.le_of_ble_eq_true rfl) fun t6 J12 n12 => ?_
          have drC := drB.trans d11
          walk_at "go"
          refine c_of rfl (drC.1.keep n12.same) n12.at (drC.1.new n12) (Nat.zero_lt_succ _) (Nat.le_of_ble_eq_true rfl) fun z J13 hz d13 => ?_
          have hz2 : ∃ n : Nat, z = .int (n : Int) ∧ n < 49 := by
            rcases List.mem_cons.mp hz with rfl | hz
            · exact ⟨0, rfl, by decide⟩
            rcases List.mem_cons.mp hz with rfl | hz
            · exact ⟨1, rfl, by decide⟩
            rcases List.mem_cons.mp hz with rfl | hz
            · exact ⟨48, rfl, by decide⟩
            cases List.mem_singleton.mp hz
            exact ⟨y.toNat, by rw [Int.toNat_of_nonneg y0], by omega⟩
          obtain ⟨n, rfl, hn⟩ := hz2
          have drD := (drC.nw n12).trans d13
          clear drB drC d11 d13 n12
          have onl := oneL_len n
          have lln : (Ln (oneL n) 1).length ≤ 100000 := by have := Ln_len (oneL n) 1; omega
          walk_at "g"
          refine c_step (by omega) rfl fun st J14 s14 ts => ?_
          have ls : LnV K J14 (.ref st) (Ln (oneL n) 1) := LnV.ints ts (oneL_last n)
          walk_at "go"
          refine c_oneless (n := n) rfl (by omega) fun w1 J15 s15 t15 => ?_
          walk_at "go"
          refine c_same rfl ((LnV.ints (ns := oneL n) t15 (oneL_last n)).sm (ls.keep (TK.of s15)) rfl lln) fun J16 s16 => ?_
          walk_at "go"
          refine c_oneless (n := n) rfl (by omega) fun w2 J17 s17 t17 => ?_
          walk_at "go"
          have sC := (s15.trans s16).trans s17
          refine c_same rfl ((LnV.ints (ns := oneL n) t17 (oneL_last n)).sm (ls.keep (TK.of sC)) rfl lln) fun J18 s18 => ?_
          have sD := sC.trans s18
          have drE := (drD.same s14).same sD
          walk_at "go"
          refine r_dec (fun e => ?_) (fun e => ?_)
          · walk_at "go"
            exact k _ drE
          · walk_at "go"
            refine r_new (Nat.le_of_ble_eq_true rfl) fun e1 J19 n19 => ?_
            walk_at "go"
            have B1 : LnB K J19 (.ref st) (oneL n) 1 := ⟨ls.keep (TK.of (sD.trans n19.same)), by decide, by decide +kernel, oneL_sz n, by omega⟩
            have B2 : LnB K J19 (.ref e1) [1, -1] 1 := ⟨LnV.ints (Tp.new n19) (.inr (by decide)), by decide, by decide +kernel, fun i => by
              match i with
              | 0 => exact (by decide +kernel : (1 : Int).natAbs < 2 ^ 400)
              | 1 => exact (by decide +kernel : (-1 : Int).natAbs < 2 ^ 400)
              | i + 2 => exact Nat.two_pow_pos _, by decide⟩
            refine c_quot rfl B1 B2 (Ln_ne (i := 0) (by decide) (by decide)) (by decide) (oneL_rel (by omega)) fun v7 J20 s20 L7 => ?_
            walk_at "go"
            refine r_new (Nat.le_of_ble_eq_true rfl) fun e2 J21 n21 => ?_
            walk_at "go"
            refine r_repT1 (Tp.new n21) (by omega) (by omega) fun e3 J22 s22 t22 => ?_
            rw [Int.toNat_natCast, rep_ints] at t22
            walk_at "go"
            have L8 : LnV K J22 (.ref e3) (Ln (List.replicate n 1) 1) := LnV.ints t22 (.inr (by rw [List.length_replicate, cf_rep1, if_pos (by omega)]; decide))
            refine c_same rfl ((L7.keep (TK.of (n21.same.trans s22))).sm L8 rfl (len_ok (by rw [List.length_replicate]; omega))) fun J23 s23 => ?_
            exact k _ (drE.same (((n19.same.trans s20).trans (n21.same.trans s22)).trans s23))
      all_goals walk_at "im"
    all_goals walk_at "im"
end
end Al

set_option Elab.async false
set_option linter.all false
set_option maxRecDepth 100000
set_option maxHeartbeats 4000000
set_option exponentiation.threshold 20000
open PySem PySem.Spec PyProof.Rows L2 Al
namespace Al
theorem p9 : ((10 : Int) ^ (9 : Int).toNat) = 1000000000 := by decide
theorem p10 : ((10 : Int) ^ (10 : Int).toNat) = 10000000000 := by decide
theorem g9 : ((1000000000 - 1 : Int)).natAbs < 2 ^ 400 := by decide +kernel
theorem g10 : ((10000000000 - 33 : Int)).natAbs < 2 ^ 400 := by decide +kernel
theorem one_row (g : Nat → Int) (k : Nat) : pmul [1] g k = g k := by
  show 1 * g k + sh (pmul [] g) k = g k
  have z : sh (pmul [] g) k = 0 := by cases k <;> rfl
  rw [z]
  omega
section
variable {P : Program} {w : World} {K : PySem.W.Frag} {mg : Str → Option Value} {base : Heap}
theorem ok_products (T : Txt K mg) : FnOk P w K mg base CX0 7 T.a_law_products T.d_law_products p_law_products (spB K) := by
  have G_law_any : FnOk P w K mg base CX0 1 T.a_law_any T.d_law_any p_law_any (sp_any K) := ok_any T
  have G_law_of : FnOk P w K mg base CX0 2 T.a_law_of T.d_law_of p_law_of (sp_of K) := ok_of T
  have G_law_whole : FnOk P w K mg base CX0 4 T.a_law_whole T.d_law_whole p_law_whole (sp_lwhole K) := ok_lwhole T
  have G_law_bottom : FnOk P w K mg base CX0 3 T.a_law_bottom T.d_law_bottom p_law_bottom (sp_lbottom K) := ok_lbottom T
  have G_law_line : FnOk P w K mg base CX0 4 T.a_law_line T.d_law_line p_law_line (sp_line K) := ok_line T
  have G_law_times : FnOk P w K mg base CX0 1 T.a_law_times T.d_law_times p_law_times (sp_ltimes K) := ok_ltimes T
  have G_line_by : FnOk P w K mg base CX0 6 T.a_line_by T.d_line_by p_line_by (sp_by K) := ok_line_by T
  have G_line_quotient : FnOk P w K mg base CX0 6 T.a_line_quotient T.d_line_quotient p_line_quotient (sp_quot K) := ok_line_quotient T
  have G_law_same : FnOk P w K mg base CX0 3 T.a_law_same T.d_law_same p_law_same (sp_same K 2) := ok_same T 2
  refine T.f_law_products.ok sc_law_products (fun vs H Q E h => ?_) (fun cdv A outer s H vs Q E hr h => ?_)
  · obtain ⟨a, b, rfl, _⟩ := h; rfl
  · obtain ⟨a, b, rfl, hd, k⟩ := h
    refine ⟨_, (pss_cons (ps_par (i := 1) (j := 2) rfl sc_law_products.nd rfl rfl (by decide) rfl rfl (pa_cons (pe_call G_law_whole (hr.mono (by omega)) (by rfl) T.g_law_whole T.f_law_whole.kp T.b_law_whole .nil pass0 (pa_cons (pv 0) (pa_cons pe_int (pa_cons (pe_op op_sub (pe_op op_pow pe_int pe_int) pe_int) pa_nil)))) (pa_cons (pe_call G_law_bottom (hr.mono (by omega)) (by rfl) T.g_law_bottom T.f_law_bottom.kp T.b_law_bottom .nil pass0 (pa_cons (pv 0) (pa_cons (pe_op op_sub (pe_op op_pow pe_int pe_int) pe_int) pa_nil))) pa_nil)) (by rfl))
      (pss_cons (ps_par (i := 3) (j := 4) rfl sc_law_products.nd rfl rfl (by decide) rfl rfl (pa_cons (pe_call G_law_whole (hr.mono (by omega)) (by rfl) T.g_law_whole T.f_law_whole.kp T.b_law_whole .nil pass0 (pa_cons (pv 0) (pa_cons pe_int (pa_cons (pe_op op_sub (pe_op op_pow pe_int pe_int) pe_int) pa_nil)))) (pa_cons (pe_call G_law_bottom (hr.mono (by omega)) (by rfl) T.g_law_bottom T.f_law_bottom.kp T.b_law_bottom .nil pass0 (pa_cons (pv 0) (pa_cons (pe_op op_sub (pe_op op_pow pe_int pe_int) pe_int) pa_nil))) pa_nil)) (by rfl))
      (pss_cons (ps_par (i := 5) (j := 6) rfl sc_law_products.nd rfl rfl (by decide) rfl rfl (pa_cons (pe_call G_law_line (hr.mono (by omega)) (by rfl) T.g_law_line T.f_law_line.kp T.b_law_line .nil pass0 (pa_cons (pv 1) (pa_cons (pv 2) pa_nil))) (pa_cons (pe_call G_law_line (hr.mono (by omega)) (by rfl) T.g_law_line T.f_law_line.kp T.b_law_line .nil pass0 (pa_cons (pv 3) (pa_cons (pv 4) pa_nil))) pa_nil)) (by rfl))
      (pss_cons (ps_set (i := 7) sc_law_products.nd rfl (.inl rfl) (pe_call G_law_times (hr.mono (by omega)) (by rfl) T.g_law_times T.f_law_times.kp T.b_law_times .nil pass0 (pa_cons (pv 1) (pa_cons (pv 3) pa_nil))))
      (pss_cons (ps_set (i := 8) sc_law_products.nd rfl (.inl rfl) (pe_call G_law_line (hr.mono (by omega)) (by rfl) T.g_law_line T.f_law_line.kp T.b_law_line .nil pass0 (pa_cons (pv 7) (pa_cons (pe_op op_mulZ (pv 2) (pv 4)) pa_nil))))
      (pss_cons (ps_if (PW.pt (pw_or (pt_not (pt_val (pe_call G_law_same (hr.mono (by omega)) (by rfl) T.g_law_same T.f_law_same.kp T.b_law_same .nil pass0 (pa_cons (pe_call G_line_by (hr.mono (by omega)) (by rfl) T.g_line_by T.f_line_by.kp T.b_line_by .nil pass0 (pa_cons (pv 5) (pa_cons (pv 6) pa_nil))) (pa_cons (pv 8) pa_nil))))) (pw_or1 (pt_not (pt_val (pe_call G_law_same (hr.mono (by omega)) (by rfl) T.g_law_same T.f_law_same.kp T.b_law_same .nil pass0 (pa_cons (pe_callK0 G_line_by (hr.mono (by omega)) (by rfl) T.g_line_by T.f_line_by.kp (T.kb_line_by_one_other) pass0 (pk_cons (pv 6) (pk_cons (pv 5) pk_nil))) (pa_cons (pv 8) pa_nil))))))))
        (pss_one (ps_ret pe_bl)) pss_nil)
      (pss_cons (ps_if (PW.pt (pw_or (pt_not (pt_val (pe_call G_law_same (hr.mono (by omega)) (by rfl) T.g_law_same T.f_law_same.kp T.b_law_same .nil pass0 (pa_cons (pe_call G_line_by (hr.mono (by omega)) (by rfl) T.g_line_by T.f_line_by.kp T.b_line_by .nil pass0 (pa_cons (pv 5) (pa_cons (pe_tup pa_nil) pa_nil))) (pa_cons (pe_tup pa_nil) pa_nil))))) (pw_or1 (pt_not (pt_val (pe_call G_law_same (hr.mono (by omega)) (by rfl) T.g_law_same T.f_law_same.kp T.b_law_same .nil pass0 (pa_cons (pe_call G_line_by (hr.mono (by omega)) (by rfl) T.g_line_by T.f_line_by.kp T.b_line_by .nil pass0 (pa_cons (pe_tup (pa_cons pe_int pa_nil)) (pa_cons (pv 5) pa_nil))) (pa_cons (pv 5) pa_nil))))))))
        (pss_one (ps_ret pe_bl)) pss_nil)
      (pss_cons (ps_if (pt_cmpR op_gt (pe_callB (cr_lenK K) (by rfl) T.z_len (by decide +kernel) (pa_cons (pv 1) pa_nil)) pe_int (nomark _))
        (pss_one (ps_if (PW.pt (pw_or (pt_not (pt_val (pe_call G_law_same (hr.mono (by omega)) (by rfl) T.g_law_same T.f_law_same.kp T.b_law_same .nil pass0 (pa_cons (pe_call G_line_quotient (hr.mono (by omega)) (by rfl) T.g_line_quotient T.f_line_quotient.kp T.b_line_quotient .nil pass0 (pa_cons (pv 8) (pa_cons (pv 5) pa_nil))) (pa_cons (pv 6) pa_nil))))) (pw_or1 (pt_not (pt_val (pe_call G_law_same (hr.mono (by omega)) (by rfl) T.g_law_same T.f_law_same.kp T.b_law_same .nil pass0 (pa_cons (pe_call G_line_quotient (hr.mono (by omega)) (by rfl) T.g_line_quotient T.f_line_quotient.kp T.b_line_quotient .nil pass0 (pa_cons (pe_tup pa_nil) (pa_cons (pv 5) pa_nil))) (pa_cons (pe_tup pa_nil) pa_nil))))))))
        (pss_one (ps_ret pe_bl)) pss_nil)) pss_nil)
      (pss_cons (ps_if (pt_cmpR op_gt (pe_callB (cr_lenK K) (by rfl) T.z_len (by decide +kernel) (pa_cons (pe_lc (own := [("number", 11)]) (g := gName 11) rfl sc_law_products.nd (pi_listK K (pv 1)) (blkOk_by (own := [("number", 11)]) (N := n_law_products) (sc := defScope s_law_products) (by decide +kernel)) (fun _ _ _ _ _ => pg_name (i := 11) sc_law_products.nd rfl (Or.inl rfl)) (fun _ _ _ _ _ => pts_one (pt_cmpR op_ne (pv 11) pe_int (nomark _))) (fun _ _ _ _ _ => (pv 11))) pa_nil)) pe_int (nomark _))
        (pss_cons (ps_set (i := 9) sc_law_products.nd rfl (.inl rfl) (pe_call G_law_line (hr.mono (by omega)) (by rfl) T.g_law_line T.f_law_line.kp T.b_law_line .nil pass0 (pa_cons (pe_slice (sl_listK K) (pv 1) po_none (po_some (pe_op op_sub (pe_callB (cr_lenK K) (by rfl) T.z_len (by decide +kernel) (pa_cons (pv 1) pa_nil)) pe_int))) (pa_cons (pv 2) pa_nil))))
      (pss_cons (ps_if (pt_not (pt_val (pe_call G_law_same (hr.mono (by omega)) (by rfl) T.g_law_same T.f_law_same.kp T.b_law_same .nil pass0 (pa_cons (pe_call G_line_quotient (hr.mono (by omega)) (by rfl) T.g_line_quotient T.f_line_quotient.kp T.b_line_quotient .nil pass0 (pa_cons (pv 9) (pa_cons (pv 5) pa_nil))) (pa_cons (pe_ifExp (pt_cmpR (op_eqDK K hr.units) (pv 9) (pe_tup pa_nil) (nomark _)) (pe_tup pa_nil) pe_non) pa_nil)))))
        (pss_one (ps_ret pe_bl)) pss_nil)
      (pss_one (ps_if (pt_cmpR op_gt (pe_callB (cr_lenK K) (by rfl) T.z_len (by decide +kernel) (pa_cons (pv 7) pa_nil)) pe_int (nomark _))
        (pss_cons (ps_set (i := 10) sc_law_products.nd rfl (.inl rfl) (pe_call G_law_any (hr.mono (by omega)) (by rfl) T.g_law_any T.f_law_any.kp T.b_law_any .nil pass0 (pa_cons (pv 0) (pa_cons (pe_callB (cr_lenK K) (by rfl) T.z_len (by decide +kernel) (pa_cons (pv 7) pa_nil)) pa_nil))))
      (pss_cons (ps_asg (pe_op op_add (pe_ix (ix_sqK K) (pv 7) (pv 10) (fun _ _ => rfl)) (pe_call G_law_of (hr.mono (by omega)) (by rfl) T.g_law_of T.f_law_of.kp T.b_law_of .nil pass0 (pa_cons (pv 0) (pa_cons (pe_lst (pa_cons pe_int (pa_cons (pe_un un_neg pe_int) (pa_cons (pv 2) pa_nil)))) pa_nil)))) (pg_sub (pv 7) (pv 10) set_list))
      (pss_one (ps_if (pt_not (pt_val (pe_call G_law_same (hr.mono (by omega)) (by rfl) T.g_law_same T.f_law_same.kp T.b_law_same .nil pass0 (pa_cons (pe_callK0 G_line_quotient (hr.mono (by omega)) (by rfl) T.g_line_quotient T.f_line_quotient.kp (T.kb_line_quotient_other_one) pass0 (pk_cons (pv 5) (pk_cons (pe_call G_law_line (hr.mono (by omega)) (by rfl) T.g_law_line T.f_law_line.kp T.b_law_line .nil pass0 (pa_cons (pv 7) (pa_cons (pe_op op_mulZ (pv 2) (pv 4)) pa_nil))) pk_nil))) (pa_cons pe_non pa_nil)))))
        (pss_one (ps_ret pe_bl)) pss_nil)))) pss_nil)))) pss_nil)
      (pss_one (ps_ret pe_bl))))))))))), ?_⟩
    have g3 : (2 : Nat) ^ 400 ≤ 2 ^ 2000 := Nat.pow_le_pow_right (by decide) (by decide)
    have g4 : (2 : Nat) ^ 400 ≤ 2 ^ 3000 := Nat.pow_le_pow_right (by decide) (by decide)
    walk_at "go0"
    · rw [p9]
      refine c_lwhole (m := 50) rfl hd (by decide) (by decide) (by decide) (Nat.lt_of_lt_of_le g9 g3) fun p ns H1 np hp hw d1 => ?_
      walk_at "go"
      · rw [p10]
        refine c_lbottom rfl d1.1 (by decide) (Nat.lt_of_lt_of_le g10 g4) fun m H2 m0 m1 d2 => ?_
        have dr2 := d1.trans d2
        have Op : Own a b H2 p (ns.map V.int) := (Own.ls hd np hp).dr d2
        have ms : m.natAbs < 2 ^ 400 := lt400 ⟨by omega, m1⟩ g10
        have nl := hw.len
        walk_at "go"
        · rw [p9]
          refine c_lwhole (m := 50) rfl dr2.1 (by decide) (by decide) (by decide) (Nat.lt_of_lt_of_le g9 g3) fun q os H4 nq hq hv d4 => ?_
          walk_at "go"
          · rw [p10]
            refine c_lbottom rfl d4.1 (by decide) (Nat.lt_of_lt_of_le g10 g4) fun u H5 u0 u1 d5 => ?_
            have dr5 := (dr2.trans d4).trans d5
            have Oq : Own a b H5 q (os.map V.int) := (Own.ls dr2.1 nq hq).dr d5
            replace Op := (Op.dr d4).dr d5
            have us : u.natAbs < 2 ^ 400 := lt400 ⟨by omega, u1⟩ g10
            have ol := hv.len
            clear hp hq d1 d2 d4 d5
            have hp := Op.1
            have hq := Oq.1
            walk_at "go"
            refine c_line rfl hp (by omega) (up8 ms) (by omega) fun v1 H6 s6 L1 => ?_
            walk_at "go"
            refine c_line rfl (s6 _ _ hq) (by omega) (up8 us) (by omega) fun v2 H7 s7 L2 => ?_
            have s67 := s6.trans s7
            replace L1 := L1.keep (TK.of s7)
            replace Op := Op.same s67
            replace Oq := Oq.same s67
            replace dr5 := dr5.same s67
            clear hp hq
            have hp := Op.1
            have hq := Oq.1
            have B1 : LnB K H7 v1 ns m := LnB.of L1 hw.sz (by omega) m0 ms g9
            have B2 : LnB K H7 v2 os u := LnB.of L2 hv.sz (by omega) u0 us g9
            clear L1 L2
            walk_at "go"
            refine c_ltimes rfl hp hq (by omega) (by omega) (fun i => Nat.lt_of_lt_of_le (lt400 (hw.sz i) g9) g4) (fun i => Nat.lt_of_lt_of_le (lt400 (hv.sz i) g9) g4) fun W ws H8 w0 w1 w2 w3 => ?_
            obtain ⟨w3, w4⟩ := w3
            have mu0 : m * u ≠ 0 := Int.mul_ne_zero (by omega) (by omega)
            have muS : (m * u).natAbs < 2 ^ 400 := by
              have : (m * u).natAbs ≤ 10000000000 * 10000000000 := by
                rw [Int.natAbs_mul]
                exact Nat.mul_le_mul (by omega) (by omega)
              exact Nat.lt_of_le_of_lt this (by decide +kernel)
            have mup : 0 < m * u := Int.mul_pos m0 u0
            have wsS : ∀ i, (cf ws i).natAbs ≤ 50 * (1000000000 * 1000000000) := fun i => by
              rw [w4]
              refine Nat.le_trans (pmul_le (A := 1000000000) (B := 1000000000) (fun k => by have := hv.sz k; omega) ns (fun x hx => ?_) i) (Nat.mul_le_mul_right _ nl)
              obtain ⟨j, rfl⟩ := mem_cf hx
              have := hw.sz j
              omega
            have wsB : ∀ i, (cf ws i).natAbs < 2 ^ 400 := fun i => Nat.lt_of_le_of_lt (wsS i) (by decide +kernel)
            have OW : Own a b H8 W (ws.map V.int) := Own.ls dr5.1 w0 w2
            have nW : H W = none := dr5.free w0
            walk_at "go"
            · refine c_line rfl w2 mu0 (prod4 ms us) (by omega) fun v3 H9 s9 L3 => ?_
              have s79 := w1.trans s9
              replace B1 := B1.keep (TK.of s79)
              replace B2 := B2.keep (TK.of s79)
              replace Op := Op.same s79
              replace dr5 := dr5.same s79
              replace OW := OW.same s9
              clear hp hq Oq
              walk_at "go"
              refine c_by (ws := ws) (B := m * u) rfl B1 B2 mu0 (fun i => by rw [w4]) fun v4 H10 s10 L4 => ?_
              walk_at "go"
              refine c_same rfl (L4.sm (L3.keep (TK.of s10)) rfl (len_ok (by omega))) fun H11 s11 => ?_
              have sA := s10.trans s11
              walk_at "go"
              refine c_by (ws := ws) (B := m * u) rfl (B2.keep (TK.of sA)) (B1.keep (TK.of sA)) mu0 (fun i => by rw [w4, pmul_comm, Int.mul_comm u]) fun v5 H12 s12 L5 => ?_
              walk_at "go"
              refine c_same rfl (L5.sm (L3.keep (TK.of (sA.trans s12))) rfl (len_ok (by omega))) fun H13 s13 => ?_
              have sB := (sA.trans s12).trans s13
              walk_at "go"
              refine r_new (Nat.le_of_ble_eq_true rfl) fun e1 H14 n14 => ?_
              have sC := sB.trans n14.same
              walk_at "go"
              refine c_by (ws := []) (B := 1) rfl (B1.keep (TK.of sC)) (LnB.nil (Tp.new n14)) (by decide) (fun i => by rw [pmul_congr (h := fun _ => 0) (fun i => cf_nil i), pmul_zero, cf_nil, Int.zero_mul, Int.zero_mul]) fun v6 H15 s15 L6 => ?_
              walk_at "go"
              refine r_new (Nat.le_of_ble_eq_true rfl) fun e2 H16 n16 => ?_
              walk_at "go"
              refine c_same rfl ((L6.keep n16.tk).sm (LnV.nil (Tp.new n16)) rfl (len_ok (Nat.zero_le _))) fun H17 s17 => ?_
              have sD := ((sC.trans s15).trans n16.same).trans s17
              walk_at "go"
              refine r_new (Nat.le_of_ble_eq_true rfl) fun e3 H18 n18 => ?_
              have sE := sD.trans n18.same
              walk_at "go"
              have B3 : LnB K H18 (.ref e3) [1] 1 := ⟨LnV.ints (Tp.new n18) (.inr (by decide)), by decide, by decide +kernel, fun i => by
                match i with
                | 0 => exact (by decide +kernel : (1 : Int).natAbs < 2 ^ 400)
                | i + 1 => exact Nat.two_pow_pos _, by decide⟩
              refine c_by (ws := ns) (B := m) rfl B3 (B1.keep (TK.of sE)) (by omega) (fun i => by rw [one_row, Int.one_mul]) fun v7 H19 s19 L7 => ?_
              walk_at "go"
              refine c_same rfl (L7.sm (B1.at'.keep (TK.of (sE.trans s19))) rfl (len_ok (by omega))) fun H20 s20 => ?_
              have sF := (sE.trans s19).trans s20
              replace B1 := B1.keep (TK.of sF)
              replace B2 := B2.keep (TK.of sF)
              replace L3 := L3.keep (TK.of sF)
              replace Op := Op.same sF
              replace dr5 := dr5.same sF
              replace OW := OW.same sF
              clear sA sB sC sD sE sF s10 s11 s12 s13 n14 s15 n16 s17 n18 s19 s20 L4 L5 L6 L7 B3
              have hp := Op.1
              have B4 : LnB K H20 v3 ws (m * u) := ⟨L3, mup, muS, wsB, by omega⟩
              walk_at "g"
              refine l_if (fun σ' H' => σ' = [some (.ref a), some (.ref p), some (.int m), some (.ref q), some (.int u), some v1, some v2, some (.ref W), some v3, none, none, none] ∧ Same H20 H') (fun nx hnx => ?_) fun σ' H' z => ?_
              · walk_at "go"
                refine r_dec (fun e => ?_) (fun e => ?_)
                · have l0 : cf ns (ns.length - 1) ≠ 0 := by
                    rcases hw.last with z | z
                    · rw [List.length_map, z] at e
                      exact absurd e (by decide)
                    · exact z
                  have ln0 : Ln ns m ≠ [] := Ln_ne (by omega) l0
                  walk_at "go"
                  refine c_quot rfl B4 B1 ln0 (by omega) (ws := os) (B := u) (fun k => by rw [w4]) fun v5 H21 s21 L5 => ?_
                  walk_at "go"
                  refine c_same rfl (L5.sm (B2.at'.keep (TK.of s21)) rfl (len_ok (by omega))) fun H22 s22 => ?_
                  walk_at "go"
                  refine r_new (Nat.le_of_ble_eq_true rfl) fun e5 H23 n23 => ?_
                  have sG := (s21.trans s22).trans n23.same
                  walk_at "go"
                  refine c_quot rfl (LnB.nil (Tp.new n23)) (B1.keep (TK.of sG)) ln0 (by decide) (ws := []) (B := 1) (fun k => by rw [pmul_congr (h := fun _ => 0) (fun i => cf_nil i), pmul_zero, cf_nil, Int.zero_mul, Int.zero_mul]) fun v6 H24 s24 L6 => ?_
                  walk_at "go"
                  refine r_new (Nat.le_of_ble_eq_true rfl) fun e6 H25 n25 => ?_
                  walk_at "go"
                  refine c_same rfl ((L6.keep n25.tk).sm (LnV.nil (Tp.new n25)) rfl (len_ok (Nat.zero_le _))) fun H26 s26 => ?_
                  walk_at "go"
                  exact hnx _ _ ⟨rfl, ((sG.trans s24).trans n25.same).trans s26⟩
                · walk_at "go"
                  exact hnx _ _ ⟨rfl, Same.refl _⟩
              · obtain ⟨rfl, sG⟩ := z
                replace B1 := B1.keep (TK.of sG)
                replace Op := Op.same sG
                replace dr5 := dr5.same sG
                replace OW := OW.same sG
                clear B2 B4 L3 hp
                have hp := Op.1
                walk_at "go"
                refine c_list (SqL.of hp) (fun D j J => H' D = none ∧ Same H' J ∧ ∃ xs, J D = some (.lst xs) ∧ xs.length ≤ j ∧ (1 ≤ xs.length → ∃ i, i < j ∧ cf ns i ≠ 0) ∧ (2 ≤ xs.length → ∃ i j', i < j' ∧ j' < j ∧ cf ns i ≠ 0)) (fun _ => rfl) (fun D H2 n2 => ⟨n2.1, n2.same, [], n2.at, Nat.le_refl _, fun h => absurd h (by decide), fun h => absurd h (by decide)⟩) (fun D j J _ z => SqL.of (z.2.1 _ _ hp)) (fun D j x J ex z => ?_) fun D J1 z => ?_
                · obtain ⟨q0, q1, xs, q2, q3, q4, q5⟩ := z
                  obtain ⟨rfl, hj⟩ := int_at ex
                  walk_at "go"
                  refine r_ndec (fun e => ?_) (fun e => ?_)
                  · walk_at "go"
                    refine r_it q2 (by omega) fun H3 mu => ⟨q0, mu.same0 q1 q0, _, mu.at, by rw [List.length_append]; show _ + 1 ≤ _; omega, fun _ => ⟨j, by omega, e⟩, fun h => ?_⟩
                    obtain ⟨i, hi, hi0⟩ := q4 (by rw [List.length_append] at h; have : xs.length + 1 ≥ 2 := h; omega)
                    exact ⟨i, j, hi, by omega, hi0⟩
                  · refine ⟨q0, q1, xs, q2, by omega, fun h => ?_, fun h => ?_⟩
                    · obtain ⟨i, hi, hi0⟩ := q4 h
                      exact ⟨i, by omega, hi0⟩
                    · obtain ⟨i, j', hi, hj', hi0⟩ := q5 h
                      exact ⟨i, j', hi, by omega, hi0⟩
                · obtain ⟨q0, q1, xs, q2, q3, q4, q5⟩ := z
                  rw [List.length_map] at q5
                  replace B1 := B1.keep (TK.of q1)
                  replace Op := Op.same q1
                  replace dr5 := dr5.same q1
                  replace OW := OW.same q1
                  clear hp
                  have hp := Op.1
                  walk_at "go"
                  refine r_dec (fun e => ?_) (fun e => ?_)
                  · obtain ⟨i, j', hi, hj', hi0⟩ := q5 (by omega)
                    clear q4 q5
                    obtain ⟨l, hl⟩ : ∃ l, ns.length = l + 1 := ⟨ns.length - 1, by omega⟩
                    have l0 : cf ns l ≠ 0 := by
                      rcases hw.last with z | z
                      · rw [z] at hl
                        cases hl
                      · rw [hl] at z
                        exact z
                    have ln0 : Ln ns m ≠ [] := Ln_ne (by omega) l0
                    have m0' : m ≠ 0 := by omega
                    walk_at "go"
                    refine r_slL (SqL.of hp) fun S J2 nS => ?_
                    rw [cut_to (by rw [List.length_map]; omega) (by omega), List.length_map, show ((ns.length : Int) - 1).toNat = l by omega, ← List.map_take] at nS
                    walk_at "go"
                    refine c_line rfl nS.at m0' (up8 ms) (by rw [List.length_take]; omega) fun v5 J3 s3 L5 => ?_
                    have cft : ∀ k, cf (ns.take l) k = if k < l then cf ns k else 0 := fun k => by
                      by_cases hk : k < l
                      · rw [if_pos hk]
                        exact cf_get (by rw [List.getElem?_take_of_lt hk]; exact cf_lt (by omega))
                      · rw [if_neg hk]
                        exact cf_ge (by rw [List.length_take]; omega)
                    have B5 : LnB K J3 v5 (ns.take l) m := LnB.of L5 (fun k => by rw [cft]; have := hw.sz k; split <;> omega) (by rw [List.length_take]; omega) m0 ms g9
                    have sH := nS.same.trans s3
                    replace B1 := B1.keep (TK.of sH)
                    walk_at "go"
                    refine c_quotN rfl B5 B1 ln0 (no_short hl l0 (show i < l by omega) hi0 m0') fun J4 s4 => ?_
                    walk_at "go"
                    obtain ⟨t5, vs5, rfl, ht5, hc5⟩ := L5.keep (TK.of s4)
                    walk_at "go"
                    refine r_new (Nat.le_of_ble_eq_true rfl) fun e5 J5 n5 => ?_
                    walk_at "go"
                    have ne5 : Ln (ns.take l) m ≠ [] := Ln_ne (i := i) m0' (by rw [cft, if_pos (by omega)]; exact hi0)
                    refine r_eqNil (hc5.keep n5.tk).el (ht5.keep n5.tk) (Tp.new n5) (fun z => ?_) ?_
                    · have := hc5.1
                      rw [z] at this
                      exact ne5 (List.eq_nil_of_length_eq_zero this.symm)
                    walk_at "go"
                    refine c_same rfl sm_non fun J6 s6 => ?_
                    have sI := ((sH.trans s4).trans n5.same).trans s6
                    replace B1 := B1.keep (TK.of ((s4.trans n5.same).trans s6))
                    replace dr5 := dr5.same sI
                    replace OW := OW.same sI
                    have hW := OW.1
                    walk_at "go"
                    refine r_dec (fun e2 => ?_) (fun e2 => ?_)
                    · rw [List.length_map] at e2
                      walk_at "go"
                      refine c_any rfl dr5.1 (by rw [List.length_map]; omega) (small30 (by omega) (by rw [List.length_map]; omega)) fun x J7 x0 x1 d7 => ?_
                      rw [List.length_map] at x1
                      obtain ⟨n, rfl⟩ : ∃ n : Nat, x = (n : Int) := ⟨x.toNat, by omega⟩
                      have hn : n < ws.length := by omega
                      replace B1 := B1.keep d7.2.2
                      replace dr5 := dr5.trans d7
                      replace OW := OW.dr d7
                      clear hW hp
                      have hW := OW.1
                      walk_at "go"
                      refine r_ixLn hW rfl hn ?_
                      walk_at "go"
                      refine r_new (Nat.le_of_ble_eq_true rfl) fun t8 J8 n8 => ?_
                      walk_at "go"
                      refine c_of rfl (dr5.1.keep n8.same) n8.at (dr5.1.new n8) (Nat.zero_lt_succ _) (Nat.le_of_ble_eq_true rfl) fun y J9 hy d9 => ?_
                      have hy2 : ∃ d : Int, y = .int d ∧ d ≠ 0 ∧ d.natAbs ≤ 10000000000 := by
                        rcases List.mem_cons.mp hy with rfl | hy
                        · exact ⟨_, rfl, by decide, by decide⟩
                        rcases List.mem_cons.mp hy with rfl | hy
                        · exact ⟨_, rfl, by decide, by decide⟩
                        cases List.mem_singleton.mp hy
                        exact ⟨_, rfl, m0', by omega⟩
                      obtain ⟨d, rfl, d0, dS⟩ := hy2
                      replace dr5 := (dr5.nw n8).trans d9
                      replace B1 := (B1.keep n8.tk).keep d9.2.2
                      replace OW := (OW.same n8.same).dr d9
                      clear hW
                      have hW := OW.1
                      walk_at "go"
                      refine r_setLn hW rfl hn fun J10 mu => ?_
                      replace dr5 := dr5.mu hd mu nW
                      replace B1 := B1.keep (mu.tk hW)
                      clear hW OW
                      have hW := mu.at
                      walk_at "go"
                      · refine c_line rfl hW mu0 (prod4 ms us) (by rw [List.length_set]; omega) fun v8 J11 s11 L8 => ?_
                        have B8 : LnB K J11 v8 (ws.set n (cf ws n + d)) (m * u) := ⟨L8, mup, muS, fun k => by
                          rw [cf_set hn]
                          split
                          · have := wsS n
                            exact Nat.lt_of_le_of_lt (show (cf ws n + d).natAbs ≤ 10 ^ 30 by omega) (by decide +kernel)
                          · exact wsB k, by rw [List.length_set]; omega⟩
                        walk_at "go"
                        refine c_quotN rfl B8 (B1.keep (TK.of s11)) ln0 (no_changed hl l0 (show i < l by omega) hi0 m0' (by omega) d0 hn w4) fun J12 s12 => ?_
                        walk_at "go"
                        refine c_same rfl sm_non fun J13 s13 => ?_
                        walk_at "go"
                        exact k _ (dr5.same ((s11.trans s12).trans s13))
                      · exact mul4 ms us
                    · walk_at "go"
                      exact k _ dr5
                  · walk_at "go"
                    exact k _ dr5
            · exact mul4 ms us
          all_goals walk_at "im"
        all_goals walk_at "im"
      all_goals walk_at "im"
    all_goals walk_at "im"
end
end Al

set_option Elab.async false
set_option linter.all false
set_option maxRecDepth 100000
set_option maxHeartbeats 4000000
set_option exponentiation.threshold 20000
open PySem PySem.Spec PyProof.Rows L2 Al
namespace Al
section
variable {P : Program} {w : World} {K : PySem.W.Frag} {mg : Str → Option Value} {base : Heap}
def sp_law (K : PySem.W.Frag) : Sp := fun vs H Q _ => ∃ (a : Addr) (ns : List Int), vs = [.ref a] ∧ SqL K H a (ns.map V.int) ∧ ns.length ≤ 63 ∧ ∀ H', Q (.bl true) H'
theorem ok_law (T : Txt K mg) : FnOk P w K mg base CX0 8 T.a_law T.d_law p_law (sp_law K) := by
  have G_law_source : FnOk P w K mg base CX0 1 T.a_law_source T.d_law_source p_law_source (sp_deal K) := ok_deal T
  have G_law_taken : FnOk P w K mg base CX0 5 T.a_law_taken T.d_law_taken p_law_taken (spB K) := ok_taken T
  have G_law_alone : FnOk P w K mg base CX0 7 T.a_law_alone T.d_law_alone p_law_alone (spB K) := ok_alone T
  have G_law_turned : FnOk P w K mg base CX0 7 T.a_law_turned T.d_law_turned p_law_turned (spB K) := ok_turned T
  have G_law_sums : FnOk P w K mg base CX0 7 T.a_law_sums T.d_law_sums p_law_sums (spB K) := ok_sums T
  have G_law_products : FnOk P w K mg base CX0 7 T.a_law_products T.d_law_products p_law_products (spB K) := ok_products T
  refine T.f_law.ok sc_law (fun vs H Q E h => ?_) (fun cdv A outer s H vs Q E hr h => ?_)
  · obtain ⟨a, ns, rfl, _⟩ := h; rfl
  · obtain ⟨p, ns, rfl, hp, hl, k⟩ := h
    refine ⟨_, (pss_cons (ps_set (i := 1) sc_law.nd rfl (.inl rfl) (pe_call G_law_source (hr.mono (by omega)) (by rfl) T.g_law_source T.f_law_source.kp T.b_law_source .nil pass0 (pa_cons (pv 0) (pa_cons pe_int pa_nil))))
      (pss_cons (ps_for PassesOwn.never rfl (pi_range1 rfl T.z_range (pa_cons pe_int pa_nil)) (pg_name (i := 2) sc_law.nd rfl (.inl rfl))
        (pss_one (ps_if (PW.pt (pw_or (pt_not (pt_val (pe_call G_law_taken (hr.mono (by omega)) (by rfl) T.g_law_taken T.f_law_taken.kp T.b_law_taken .nil pass0 (pa_cons (pv 1) pa_nil)))) (pw_or (pt_not (pt_val (pe_call G_law_alone (hr.mono (by omega)) (by rfl) T.g_law_alone T.f_law_alone.kp T.b_law_alone .nil pass0 (pa_cons (pv 1) pa_nil)))) (pw_or1 (pt_not (pt_val (pe_call G_law_turned (hr.mono (by omega)) (by rfl) T.g_law_turned T.f_law_turned.kp T.b_law_turned .nil pass0 (pa_cons (pv 1) pa_nil))))))))
        (pss_one (ps_ret pe_bl)) pss_nil)))
      (pss_cons (ps_for PassesOwn.never rfl (pi_range1 rfl T.z_range (pa_cons pe_int pa_nil)) (pg_name (i := 2) sc_law.nd rfl (.inl rfl))
        (pss_one (ps_if (PW.pt (pw_or (pt_not (pt_val (pe_call G_law_sums (hr.mono (by omega)) (by rfl) T.g_law_sums T.f_law_sums.kp T.b_law_sums .nil pass0 (pa_cons (pv 1) pa_nil)))) (pw_or1 (pt_not (pt_val (pe_call G_law_products (hr.mono (by omega)) (by rfl) T.g_law_products T.f_law_products.kp T.b_law_products .nil pass0 (pa_cons (pv 1) pa_nil)))))))
        (pss_one (ps_ret pe_bl)) pss_nil)))
      (pss_one (ps_ret pe_bl))))), ?_⟩
    walk_at "go0"
    refine ⟨p, ns, 29, rfl, hp, hl, fun a b H1 s1 hd _ _ => ?_⟩
    walk_at "go"
    refine l_range1 (by decide) (by decide) (fun i σ' H' => ∃ y, σ' = [some (.ref p), some (.ref a), y] ∧ DealOk H' a b) ⟨_, rfl, hd⟩ (fun i σ' H' hi z => ?_) fun σ' H' z => ?_
    · obtain ⟨y, rfl, hd⟩ := z
      walk_at "go"
      refine c_B rfl hd fun H2 d2 => ?_
      walk_at "go"
      refine c_B rfl d2.1 fun H3 d3 => ?_
      walk_at "go"
      refine c_B rfl d3.1 fun H4 d4 => ?_
      walk_at "go"
      exact ⟨_, rfl, d4.1⟩
    · obtain ⟨y, rfl, hd⟩ := z
      walk_at "go"
      refine l_range1 (by decide) (by decide) (fun i σ' H' => ∃ y, σ' = [some (.ref p), some (.ref a), y] ∧ DealOk H' a b) ⟨_, rfl, hd⟩ (fun i σ' H' hi z => ?_) fun σ' H' z => ?_
      · obtain ⟨y, rfl, hd⟩ := z
        walk_at "go"
        refine c_B rfl hd fun H2 d2 => ?_
        walk_at "go"
        refine c_B rfl d2.1 fun H3 d3 => ?_
        walk_at "go"
        exact ⟨_, rfl, d3.1⟩
      · obtain ⟨y, rfl, hd⟩ := z
        walk_at "go"
        exact k _
end
end Al

namespace Al
open PySem PySem.Spec PyProof.Rows L2
theorem all_mk {l : PySem.W.OpenLaw} {w : World} {K : PySem.W.Frag} {h : Heap} {mg : Str → Option Value} {fa : Addr} (X : K.In h) (G : h.Ns mainGlobals mg) (hfa : mg "law" = some (.ref fa))
    {f1 : Addr} {od1 an1 : Option Addr} {sl1 : Array (Option Value)} {oc1 kV1 dc1 pm1 cd1 ct1 : Value}
    {f2 : Addr} {od2 an2 : Option Addr} {sl2 : Array (Option Value)} {oc2 kV2 dc2 pm2 cd2 ct2 : Value}
    {f3 : Addr} {od3 an3 : Option Addr} {sl3 : Array (Option Value)} {oc3 kV3 dc3 pm3 cd3 ct3 : Value}
    {f4 : Addr} {od4 an4 : Option Addr} {sl4 : Array (Option Value)} {oc4 kV4 dc4 pm4 cd4 ct4 : Value}
    {f5 : Addr} {od5 an5 : Option Addr} {sl5 : Array (Option Value)} {oc5 kV5 dc5 pm5 cd5 ct5 : Value}
    {f6 : Addr} {od6 an6 : Option Addr} {sl6 : Array (Option Value)} {oc6 kV6 dc6 pm6 cd6 ct6 : Value}
    {f7 : Addr} {od7 an7 : Option Addr} {sl7 : Array (Option Value)} {oc7 kV7 dc7 pm7 cd7 ct7 : Value}
    {f8 : Addr} {od8 an8 : Option Addr} {sl8 : Array (Option Value)} {oc8 kV8 dc8 pm8 cd8 ct8 : Value}
    {f9 : Addr} {od9 an9 : Option Addr} {sl9 : Array (Option Value)} {oc9 kV9 dc9 pm9 cd9 ct9 : Value}
    {f10 : Addr} {od10 an10 : Option Addr} {sl10 : Array (Option Value)} {oc10 kV10 dc10 pm10 cd10 ct10 : Value}
    {f11 : Addr} {od11 an11 : Option Addr} {sl11 : Array (Option Value)} {oc11 kV11 dc11 pm11 cd11 ct11 : Value}
    {f12 : Addr} {od12 an12 : Option Addr} {sl12 : Array (Option Value)} {oc12 kV12 dc12 pm12 cd12 ct12 : Value}
    {f13 : Addr} {od13 an13 : Option Addr} {sl13 : Array (Option Value)} {oc13 kV13 dc13 pm13 cd13 ct13 : Value}
    {f14 : Addr} {od14 an14 : Option Addr} {sl14 : Array (Option Value)} {oc14 kV14 dc14 pm14 cd14 ct14 : Value}
    {f15 : Addr} {od15 an15 : Option Addr} {sl15 : Array (Option Value)} {oc15 kV15 dc15 pm15 cd15 ct15 : Value}
    {f16 : Addr} {od16 an16 : Option Addr} {sl16 : Array (Option Value)} {oc16 kV16 dc16 pm16 cd16 ct16 : Value}
    {f17 : Addr} {od17 an17 : Option Addr} {sl17 : Array (Option Value)} {oc17 kV17 dc17 pm17 cd17 ct17 : Value}
    {f18 : Addr} {od18 an18 : Option Addr} {sl18 : Array (Option Value)} {oc18 kV18 dc18 pm18 cd18 ct18 : Value}
    {f19 : Addr} {od19 an19 : Option Addr} {sl19 : Array (Option Value)} {oc19 kV19 dc19 pm19 cd19 ct19 : Value}
    {f20 : Addr} {od20 an20 : Option Addr} {sl20 : Array (Option Value)} {oc20 kV20 dc20 pm20 cd20 ct20 : Value}
    {f21 : Addr} {od21 an21 : Option Addr} {sl21 : Array (Option Value)} {oc21 kV21 dc21 pm21 cd21 ct21 : Value}
    {f22 : Addr} {od22 an22 : Option Addr} {sl22 : Array (Option Value)} {oc22 kV22 dc22 pm22 cd22 ct22 : Value}
    {f23 : Addr} {od23 an23 : Option Addr} {sl23 : Array (Option Value)} {oc23 kV23 dc23 pm23 cd23 ct23 : Value}
    {f24 : Addr} {od24 an24 : Option Addr} {sl24 : Array (Option Value)} {oc24 kV24 dc24 pm24 cd24 ct24 : Value}
    {f25 : Addr} {od25 an25 : Option Addr} {sl25 : Array (Option Value)} {oc25 kV25 dc25 pm25 cd25 ct25 : Value}
    {f26 : Addr} {od26 an26 : Option Addr} {sl26 : Array (Option Value)} {oc26 kV26 dc26 pm26 cd26 ct26 : Value}
    {f27 : Addr} {od27 an27 : Option Addr} {sl27 : Array (Option Value)} {oc27 kV27 dc27 pm27 cd27 ct27 : Value}
    {f28 : Addr} {od28 an28 : Option Addr} {sl28 : Array (Option Value)} {oc28 kV28 dc28 pm28 cd28 ct28 : Value}
    {f29 : Addr} {od29 an29 : Option Addr} {sl29 : Array (Option Value)} {oc29 kV29 dc29 pm29 cd29 ct29 : Value}
    {f30 : Addr} {od30 an30 : Option Addr} {sl30 : Array (Option Value)} {oc30 kV30 dc30 pm30 cd30 ct30 : Value}
    {f31 : Addr} {od31 an31 : Option Addr} {sl31 : Array (Option Value)} {oc31 kV31 dc31 pm31 cd31 ct31 : Value}
    {f32 : Addr} {od32 an32 : Option Addr} {sl32 : Array (Option Value)} {oc32 kV32 dc32 pm32 cd32 ct32 : Value}
    {f33 : Addr} {od33 an33 : Option Addr} {sl33 : Array (Option Value)} {oc33 kV33 dc33 pm33 cd33 ct33 : Value}
    {f34 : Addr} {od34 an34 : Option Addr} {sl34 : Array (Option Value)} {oc34 kV34 dc34 pm34 cd34 ct34 : Value}
    {f35 : Addr} {od35 an35 : Option Addr} {sl35 : Array (Option Value)} {oc35 kV35 dc35 pm35 cd35 ct35 : Value}
    {f36 : Addr} {od36 an36 : Option Addr} {sl36 : Array (Option Value)} {oc36 kV36 dc36 pm36 cd36 ct36 : Value}
    {f37 : Addr} {od37 an37 : Option Addr} {sl37 : Array (Option Value)} {oc37 kV37 dc37 pm37 cd37 ct37 : Value}
    {f38 : Addr} {od38 an38 : Option Addr} {sl38 : Array (Option Value)} {oc38 kV38 dc38 pm38 cd38 ct38 : Value}
    {f39 : Addr} {od39 an39 : Option Addr} {sl39 : Array (Option Value)} {oc39 kV39 dc39 pm39 cd39 ct39 : Value}
    {f40 : Addr} {od40 an40 : Option Addr} {sl40 : Array (Option Value)} {oc40 kV40 dc40 pm40 cd40 ct40 : Value}
    (a1 : PySem.W.nsIn K mainGlobals "lowest" = some (some (.ref f1)))
    (l1 : K.lookup f1 = some ⟨oc1, od1, .func (PySem.W.fnOf "lowest" "lowest" (defArgs s_lowest) (defBody s_lowest) (defScope s_lowest) .none kV1 dc1 pm1 an1 cd1 ct1), sl1⟩)
    (c1 : PySem.W.codeIn K cd1 "lowest" = true)
    (k1 : PySem.W.keepIn K (.ref f1) = true)
    (a2 : PySem.W.nsIn K mainGlobals "fraction" = some (some (.ref f2)))
    (l2 : K.lookup f2 = some ⟨oc2, od2, .func (PySem.W.fnOf "fraction" "fraction" (defArgs s_fraction) (defBody s_fraction) (defScope s_fraction) .none kV2 dc2 pm2 an2 cd2 ct2), sl2⟩)
    (c2 : PySem.W.codeIn K cd2 "fraction" = true)
    (k2 : PySem.W.keepIn K (.ref f2) = true)
    (a3 : PySem.W.nsIn K mainGlobals "coefficient" = some (some (.ref f3)))
    (l3 : K.lookup f3 = some ⟨oc3, od3, .func (PySem.W.fnOf "coefficient" "coefficient" (defArgs s_coefficient) (defBody s_coefficient) (defScope s_coefficient) .none kV3 dc3 pm3 an3 cd3 ct3), sl3⟩)
    (c3 : PySem.W.codeIn K cd3 "coefficient" = true)
    (k3 : PySem.W.keepIn K (.ref f3) = true)
    (a4 : PySem.W.nsIn K mainGlobals "cut" = some (some (.ref f4)))
    (l4 : K.lookup f4 = some ⟨oc4, od4, .func (PySem.W.fnOf "cut" "cut" (defArgs s_cut) (defBody s_cut) (defScope s_cut) .none kV4 dc4 pm4 an4 cd4 ct4), sl4⟩)
    (c4 : PySem.W.codeIn K cd4 "cut" = true)
    (k4 : PySem.W.keepIn K (.ref f4) = true)
    (a5 : PySem.W.nsIn K mainGlobals "whole" = some (some (.ref f5)))
    (l5 : K.lookup f5 = some ⟨oc5, od5, .func (PySem.W.fnOf "whole" "whole" (defArgs s_whole) (defBody s_whole) (defScope s_whole) .none kV5 dc5 pm5 an5 cd5 ct5), sl5⟩)
    (c5 : PySem.W.codeIn K cd5 "whole" = true)
    (k5 : PySem.W.keepIn K (.ref f5) = true)
    (a6 : PySem.W.nsIn K mainGlobals "by_bottom" = some (some (.ref f6)))
    (l6 : K.lookup f6 = some ⟨oc6, od6, .func (PySem.W.fnOf "by_bottom" "by_bottom" (defArgs s_by_bottom) (defBody s_by_bottom) (defScope s_by_bottom) .none kV6 dc6 pm6 an6 cd6 ct6), sl6⟩)
    (c6 : PySem.W.codeIn K cd6 "by_bottom" = true)
    (k6 : PySem.W.keepIn K (.ref f6) = true)
    (a7 : PySem.W.nsIn K mainGlobals "line_of" = some (some (.ref f7)))
    (l7 : K.lookup f7 = some ⟨oc7, od7, .func (PySem.W.fnOf "line_of" "line_of" (defArgs s_line_of) (defBody s_line_of) (defScope s_line_of) .none kV7 dc7 pm7 an7 cd7 ct7), sl7⟩)
    (c7 : PySem.W.codeIn K cd7 "line_of" = true)
    (k7 : PySem.W.keepIn K (.ref f7) = true)
    (a8 : PySem.W.nsIn K mainGlobals "summed" = some (some (.ref f8)))
    (l8 : K.lookup f8 = some ⟨oc8, od8, .func (PySem.W.fnOf "summed" "summed" (defArgs s_summed) (defBody s_summed) (defScope s_summed) .none kV8 dc8 pm8 an8 cd8 ct8), sl8⟩)
    (c8 : PySem.W.codeIn K cd8 "summed" = true)
    (k8 : PySem.W.keepIn K (.ref f8) = true)
    (a9 : PySem.W.nsIn K mainGlobals "times" = some (some (.ref f9)))
    (l9 : K.lookup f9 = some ⟨oc9, od9, .func (PySem.W.fnOf "times" "times" (defArgs s_times) (defBody s_times) (defScope s_times) .none kV9 dc9 pm9 an9 cd9 ct9), sl9⟩)
    (c9 : PySem.W.codeIn K cd9 "times" = true)
    (k9 : PySem.W.keepIn K (.ref f9) = true)
    (a10 : PySem.W.nsIn K mainGlobals "scaled" = some (some (.ref f10)))
    (l10 : K.lookup f10 = some ⟨oc10, od10, .func (PySem.W.fnOf "scaled" "scaled" (defArgs s_scaled) (defBody s_scaled) (defScope s_scaled) .none kV10 dc10 pm10 an10 cd10 ct10), sl10⟩)
    (c10 : PySem.W.codeIn K cd10 "scaled" = true)
    (k10 : PySem.W.keepIn K (.ref f10) = true)
    (a11 : PySem.W.nsIn K mainGlobals "exact" = some (some (.ref f11)))
    (l11 : K.lookup f11 = some ⟨oc11, od11, .func (PySem.W.fnOf "exact" "exact" (defArgs s_exact) (defBody s_exact) (defScope s_exact) .none kV11 dc11 pm11 an11 cd11 ct11), sl11⟩)
    (c11 : PySem.W.codeIn K cd11 "exact" = true)
    (k11 : PySem.W.keepIn K (.ref f11) = true)
    (a12 : PySem.W.nsIn K mainGlobals "content" = some (some (.ref f12)))
    (l12 : K.lookup f12 = some ⟨oc12, od12, .func (PySem.W.fnOf "content" "content" (defArgs s_content) (defBody s_content) (defScope s_content) .none kV12 dc12 pm12 an12 cd12 ct12), sl12⟩)
    (c12 : PySem.W.codeIn K cd12 "content" = true)
    (k12 : PySem.W.keepIn K (.ref f12) = true)
    (a13 : PySem.W.nsIn K mainGlobals "primitive" = some (some (.ref f13)))
    (l13 : K.lookup f13 = some ⟨oc13, od13, .func (PySem.W.fnOf "primitive" "primitive" (defArgs s_primitive) (defBody s_primitive) (defScope s_primitive) .none kV13 dc13 pm13 an13 cd13 ct13), sl13⟩)
    (c13 : PySem.W.codeIn K cd13 "primitive" = true)
    (k13 : PySem.W.keepIn K (.ref f13) = true)
    (a14 : PySem.W.nsIn K mainGlobals "line_plus" = some (some (.ref f14)))
    (l14 : K.lookup f14 = some ⟨oc14, od14, .func (PySem.W.fnOf "line_plus" "line_plus" (defArgs s_line_plus) (defBody s_line_plus) (defScope s_line_plus) .none kV14 dc14 pm14 an14 cd14 ct14), sl14⟩)
    (c14 : PySem.W.codeIn K cd14 "line_plus" = true)
    (k14 : PySem.W.keepIn K (.ref f14) = true)
    (a15 : PySem.W.nsIn K mainGlobals "line_by" = some (some (.ref f15)))
    (l15 : K.lookup f15 = some ⟨oc15, od15, .func (PySem.W.fnOf "line_by" "line_by" (defArgs s_line_by) (defBody s_line_by) (defScope s_line_by) .none kV15 dc15 pm15 an15 cd15 ct15), sl15⟩)
    (c15 : PySem.W.codeIn K cd15 "line_by" = true)
    (k15 : PySem.W.keepIn K (.ref f15) = true)
    (a16 : PySem.W.nsIn K mainGlobals "line_quotient" = some (some (.ref f16)))
    (l16 : K.lookup f16 = some ⟨oc16, od16, .func (PySem.W.fnOf "line_quotient" "line_quotient" (defArgs s_line_quotient) (defBody s_line_quotient) (defScope s_line_quotient) .none kV16 dc16 pm16 an16 cd16 ct16), sl16⟩)
    (c16 : PySem.W.codeIn K cd16 "line_quotient" = true)
    (k16 : PySem.W.keepIn K (.ref f16) = true)
    (a17 : PySem.W.nsIn K mainGlobals "line_backwards" = some (some (.ref f17)))
    (l17 : K.lookup f17 = some ⟨oc17, od17, .func (PySem.W.fnOf "line_backwards" "line_backwards" (defArgs s_line_backwards) (defBody s_line_backwards) (defScope s_line_backwards) .none kV17 dc17 pm17 an17 cd17 ct17), sl17⟩)
    (c17 : PySem.W.codeIn K cd17 "line_backwards" = true)
    (k17 : PySem.W.keepIn K (.ref f17) = true)
    (a18 : PySem.W.nsIn K mainGlobals "one_less" = some (some (.ref f18)))
    (l18 : K.lookup f18 = some ⟨oc18, od18, .func (PySem.W.fnOf "one_less" "one_less" (defArgs s_one_less) (defBody s_one_less) (defScope s_one_less) .none kV18 dc18 pm18 an18 cd18 ct18), sl18⟩)
    (c18 : PySem.W.codeIn K cd18 "one_less" = true)
    (k18 : PySem.W.keepIn K (.ref f18) = true)
    (a19 : PySem.W.nsIn K mainGlobals "_law_source" = some (some (.ref f19)))
    (l19 : K.lookup f19 = some ⟨oc19, od19, .func (PySem.W.fnOf "_law_source" "_law_source" (defArgs s_law_source) (defBody s_law_source) (defScope s_law_source) .none kV19 dc19 pm19 an19 cd19 ct19), sl19⟩)
    (c19 : PySem.W.codeIn K cd19 "_law_source" = true)
    (k19 : PySem.W.keepIn K (.ref f19) = true)
    (a20 : PySem.W.nsIn K mainGlobals "_law_any" = some (some (.ref f20)))
    (l20 : K.lookup f20 = some ⟨oc20, od20, .func (PySem.W.fnOf "_law_any" "_law_any" (defArgs s_law_any) (defBody s_law_any) (defScope s_law_any) .none kV20 dc20 pm20 an20 cd20 ct20), sl20⟩)
    (c20 : PySem.W.codeIn K cd20 "_law_any" = true)
    (k20 : PySem.W.keepIn K (.ref f20) = true)
    (a21 : PySem.W.nsIn K mainGlobals "_law_of" = some (some (.ref f21)))
    (l21 : K.lookup f21 = some ⟨oc21, od21, .func (PySem.W.fnOf "_law_of" "_law_of" (defArgs s_law_of) (defBody s_law_of) (defScope s_law_of) .none kV21 dc21 pm21 an21 cd21 ct21), sl21⟩)
    (c21 : PySem.W.codeIn K cd21 "_law_of" = true)
    (k21 : PySem.W.keepIn K (.ref f21) = true)
    (a22 : PySem.W.nsIn K mainGlobals "_law_near" = some (some (.ref f22)))
    (l22 : K.lookup f22 = some ⟨oc22, od22, .func (PySem.W.fnOf "_law_near" "_law_near" (defArgs s_law_near) (defBody s_law_near) (defScope s_law_near) .none kV22 dc22 pm22 an22 cd22 ct22), sl22⟩)
    (c22 : PySem.W.codeIn K cd22 "_law_near" = true)
    (k22 : PySem.W.keepIn K (.ref f22) = true)
    (a23 : PySem.W.nsIn K mainGlobals "_law_same" = some (some (.ref f23)))
    (l23 : K.lookup f23 = some ⟨oc23, od23, .func (PySem.W.fnOf "_law_same" "_law_same" (defArgs s_law_same) (defBody s_law_same) (defScope s_law_same) .none kV23 dc23 pm23 an23 cd23 ct23), sl23⟩)
    (c23 : PySem.W.codeIn K cd23 "_law_same" = true)
    (k23 : PySem.W.keepIn K (.ref f23) = true)
    (a24 : PySem.W.nsIn K mainGlobals "_law_common" = some (some (.ref f24)))
    (l24 : K.lookup f24 = some ⟨oc24, od24, .func (PySem.W.fnOf "_law_common" "_law_common" (defArgs s_law_common) (defBody s_law_common) (defScope s_law_common) .none kV24 dc24 pm24 an24 cd24 ct24), sl24⟩)
    (c24 : PySem.W.codeIn K cd24 "_law_common" = true)
    (k24 : PySem.W.keepIn K (.ref f24) = true)
    (a25 : PySem.W.nsIn K mainGlobals "_law_pair" = some (some (.ref f25)))
    (l25 : K.lookup f25 = some ⟨oc25, od25, .func (PySem.W.fnOf "_law_pair" "_law_pair" (defArgs s_law_pair) (defBody s_law_pair) (defScope s_law_pair) .none kV25 dc25 pm25 an25 cd25 ct25), sl25⟩)
    (c25 : PySem.W.codeIn K cd25 "_law_pair" = true)
    (k25 : PySem.W.keepIn K (.ref f25) = true)
    (a26 : PySem.W.nsIn K mainGlobals "_law_part" = some (some (.ref f26)))
    (l26 : K.lookup f26 = some ⟨oc26, od26, .func (PySem.W.fnOf "_law_part" "_law_part" (defArgs s_law_part) (defBody s_law_part) (defScope s_law_part) .none kV26 dc26 pm26 an26 cd26 ct26), sl26⟩)
    (c26 : PySem.W.codeIn K cd26 "_law_part" = true)
    (k26 : PySem.W.keepIn K (.ref f26) = true)
    (a27 : PySem.W.nsIn K mainGlobals "_law_cut" = some (some (.ref f27)))
    (l27 : K.lookup f27 = some ⟨oc27, od27, .func (PySem.W.fnOf "_law_cut" "_law_cut" (defArgs s_law_cut) (defBody s_law_cut) (defScope s_law_cut) .none kV27 dc27 pm27 an27 cd27 ct27), sl27⟩)
    (c27 : PySem.W.codeIn K cd27 "_law_cut" = true)
    (k27 : PySem.W.keepIn K (.ref f27) = true)
    (a28 : PySem.W.nsIn K mainGlobals "_law_line" = some (some (.ref f28)))
    (l28 : K.lookup f28 = some ⟨oc28, od28, .func (PySem.W.fnOf "_law_line" "_law_line" (defArgs s_law_line) (defBody s_law_line) (defScope s_law_line) .none kV28 dc28 pm28 an28 cd28 ct28), sl28⟩)
    (c28 : PySem.W.codeIn K cd28 "_law_line" = true)
    (k28 : PySem.W.keepIn K (.ref f28) = true)
    (a29 : PySem.W.nsIn K mainGlobals "_law_times" = some (some (.ref f29)))
    (l29 : K.lookup f29 = some ⟨oc29, od29, .func (PySem.W.fnOf "_law_times" "_law_times" (defArgs s_law_times) (defBody s_law_times) (defScope s_law_times) .none kV29 dc29 pm29 an29 cd29 ct29), sl29⟩)
    (c29 : PySem.W.codeIn K cd29 "_law_times" = true)
    (k29 : PySem.W.keepIn K (.ref f29) = true)
    (a30 : PySem.W.nsIn K mainGlobals "_law_sum" = some (some (.ref f30)))
    (l30 : K.lookup f30 = some ⟨oc30, od30, .func (PySem.W.fnOf "_law_sum" "_law_sum" (defArgs s_law_sum) (defBody s_law_sum) (defScope s_law_sum) .none kV30 dc30 pm30 an30 cd30 ct30), sl30⟩)
    (c30 : PySem.W.codeIn K cd30 "_law_sum" = true)
    (k30 : PySem.W.keepIn K (.ref f30) = true)
    (a31 : PySem.W.nsIn K mainGlobals "_law_many" = some (some (.ref f31)))
    (l31 : K.lookup f31 = some ⟨oc31, od31, .func (PySem.W.fnOf "_law_many" "_law_many" (defArgs s_law_many) (defBody s_law_many) (defScope s_law_many) .none kV31 dc31 pm31 an31 cd31 ct31), sl31⟩)
    (c31 : PySem.W.codeIn K cd31 "_law_many" = true)
    (k31 : PySem.W.keepIn K (.ref f31) = true)
    (a32 : PySem.W.nsIn K mainGlobals "_law_whole" = some (some (.ref f32)))
    (l32 : K.lookup f32 = some ⟨oc32, od32, .func (PySem.W.fnOf "_law_whole" "_law_whole" (defArgs s_law_whole) (defBody s_law_whole) (defScope s_law_whole) .none kV32 dc32 pm32 an32 cd32 ct32), sl32⟩)
    (c32 : PySem.W.codeIn K cd32 "_law_whole" = true)
    (k32 : PySem.W.keepIn K (.ref f32) = true)
    (a33 : PySem.W.nsIn K mainGlobals "_law_bottom" = some (some (.ref f33)))
    (l33 : K.lookup f33 = some ⟨oc33, od33, .func (PySem.W.fnOf "_law_bottom" "_law_bottom" (defArgs s_law_bottom) (defBody s_law_bottom) (defScope s_law_bottom) .none kV33 dc33 pm33 an33 cd33 ct33), sl33⟩)
    (c33 : PySem.W.codeIn K cd33 "_law_bottom" = true)
    (k33 : PySem.W.keepIn K (.ref f33) = true)
    (a34 : PySem.W.nsIn K mainGlobals "_law_told" = some (some (.ref f34)))
    (l34 : K.lookup f34 = some ⟨oc34, od34, .func (PySem.W.fnOf "_law_told" "_law_told" (defArgs s_law_told) (defBody s_law_told) (defScope s_law_told) .none kV34 dc34 pm34 an34 cd34 ct34), sl34⟩)
    (c34 : PySem.W.codeIn K cd34 "_law_told" = true)
    (k34 : PySem.W.keepIn K (.ref f34) = true)
    (a35 : PySem.W.nsIn K mainGlobals "_law_taken" = some (some (.ref f35)))
    (l35 : K.lookup f35 = some ⟨oc35, od35, .func (PySem.W.fnOf "_law_taken" "_law_taken" (defArgs s_law_taken) (defBody s_law_taken) (defScope s_law_taken) .none kV35 dc35 pm35 an35 cd35 ct35), sl35⟩)
    (c35 : PySem.W.codeIn K cd35 "_law_taken" = true)
    (k35 : PySem.W.keepIn K (.ref f35) = true)
    (a36 : PySem.W.nsIn K mainGlobals "_law_sums" = some (some (.ref f36)))
    (l36 : K.lookup f36 = some ⟨oc36, od36, .func (PySem.W.fnOf "_law_sums" "_law_sums" (defArgs s_law_sums) (defBody s_law_sums) (defScope s_law_sums) .none kV36 dc36 pm36 an36 cd36 ct36), sl36⟩)
    (c36 : PySem.W.codeIn K cd36 "_law_sums" = true)
    (k36 : PySem.W.keepIn K (.ref f36) = true)
    (a37 : PySem.W.nsIn K mainGlobals "_law_products" = some (some (.ref f37)))
    (l37 : K.lookup f37 = some ⟨oc37, od37, .func (PySem.W.fnOf "_law_products" "_law_products" (defArgs s_law_products) (defBody s_law_products) (defScope s_law_products) .none kV37 dc37 pm37 an37 cd37 ct37), sl37⟩)
    (c37 : PySem.W.codeIn K cd37 "_law_products" = true)
    (k37 : PySem.W.keepIn K (.ref f37) = true)
    (a38 : PySem.W.nsIn K mainGlobals "_law_alone" = some (some (.ref f38)))
    (l38 : K.lookup f38 = some ⟨oc38, od38, .func (PySem.W.fnOf "_law_alone" "_law_alone" (defArgs s_law_alone) (defBody s_law_alone) (defScope s_law_alone) .none kV38 dc38 pm38 an38 cd38 ct38), sl38⟩)
    (c38 : PySem.W.codeIn K cd38 "_law_alone" = true)
    (k38 : PySem.W.keepIn K (.ref f38) = true)
    (a39 : PySem.W.nsIn K mainGlobals "_law_turned" = some (some (.ref f39)))
    (l39 : K.lookup f39 = some ⟨oc39, od39, .func (PySem.W.fnOf "_law_turned" "_law_turned" (defArgs s_law_turned) (defBody s_law_turned) (defScope s_law_turned) .none kV39 dc39 pm39 an39 cd39 ct39), sl39⟩)
    (c39 : PySem.W.codeIn K cd39 "_law_turned" = true)
    (k39 : PySem.W.keepIn K (.ref f39) = true)
    (a40 : PySem.W.nsIn K mainGlobals "law" = some (some (.ref f40)))
    (l40 : K.lookup f40 = some ⟨oc40, od40, .func (PySem.W.fnOf "law" "law" (defArgs s_law) (defBody s_law) (defScope s_law) .none kV40 dc40 pm40 an40 cd40 ct40), sl40⟩)
    (c40 : PySem.W.codeIn K cd40 "law" = true)
    (k40 : PySem.W.keepIn K (.ref f40) = true)
    (z_len : PySem.W.nsIn K mainGlobals "len" = some none)
    (z_isinstance : PySem.W.nsIn K mainGlobals "isinstance" = some none)
    (z_int : PySem.W.nsIn K mainGlobals "int" = some none)
    (z_tuple : PySem.W.nsIn K mainGlobals "tuple" = some none)
    (z_max : PySem.W.nsIn K mainGlobals "max" = some none)
    (z_enumerate : PySem.W.nsIn K mainGlobals "enumerate" = some none)
    (z_list : PySem.W.nsIn K mainGlobals "list" = some none)
    (z_range : PySem.W.nsIn K mainGlobals "range" = some none)
    (z_divmod : PySem.W.nsIn K mainGlobals "divmod" = some none)
    (z_abs : PySem.W.nsIn K mainGlobals "abs" = some none)
    (z_bool : PySem.W.nsIn K mainGlobals "bool" = some none)
    (z_str : PySem.W.nsIn K mainGlobals "str" = some none)
    (z_min : PySem.W.nsIn K mainGlobals "min" = some none)
    (h_gcd : PySem.W.nsIn K mainGlobals "gcd" = some (some (.builtin "math.gcd"))) :
    ∃ fd : FuncData, (∀ (s : Shared) (v : Value), BindsTo s fd ⟨[v], []⟩ [("script", v)]) ∧ ∀ base : Heap, K.In base → base.Ns mainGlobals mg → FnOk l.prog w K mg base CX0 8 fa fd ["script"] (sp_law K) := by
  have e := hfa.symm.trans (PySem.W.mg_of X G a40)
  cases e
  have F1 := fun_mk (st := s_lowest) l1 c1 k1
  have B1 := F1.binds (ps := p_lowest) fun _ _ _ _ _ _ us hl => match us, hl with | [_, _], _ => rfl
  have F2 := fun_mk (st := s_fraction) l2 c2 k2
  have B2 := F2.binds (ps := p_fraction) fun _ _ _ _ _ _ us hl => match us, hl with | [_, _], _ => rfl
  have F3 := fun_mk (st := s_coefficient) l3 c3 k3
  have B3 := F3.binds (ps := p_coefficient) fun _ _ _ _ _ _ us hl => match us, hl with | [_, _], _ => rfl
  have F4 := fun_mk (st := s_cut) l4 c4 k4
  have B4 := F4.binds (ps := p_cut) fun _ _ _ _ _ _ us hl => match us, hl with | [_], _ => rfl
  have F5 := fun_mk (st := s_whole) l5 c5 k5
  have B5 := F5.binds (ps := p_whole) fun _ _ _ _ _ _ us hl => match us, hl with | [_], _ => rfl
  have F6 := fun_mk (st := s_by_bottom) l6 c6 k6
  have B6 := F6.binds (ps := p_by_bottom) fun _ _ _ _ _ _ us hl => match us, hl with | [_, _], _ => rfl
  have F7 := fun_mk (st := s_line_of) l7 c7 k7
  have B7 := F7.binds (ps := p_line_of) fun _ _ _ _ _ _ us hl => match us, hl with | [_], _ => rfl
  have F8 := fun_mk (st := s_summed) l8 c8 k8
  have B8 := F8.binds (ps := p_summed) fun _ _ _ _ _ _ us hl => match us, hl with | [_, _], _ => rfl
  have F9 := fun_mk (st := s_times) l9 c9 k9
  have B9 := F9.binds (ps := p_times) fun _ _ _ _ _ _ us hl => match us, hl with | [_, _], _ => rfl
  have F10 := fun_mk (st := s_scaled) l10 c10 k10
  have B10 := F10.binds (ps := p_scaled) fun _ _ _ _ _ _ us hl => match us, hl with | [_, _], _ => rfl
  have F11 := fun_mk (st := s_exact) l11 c11 k11
  have B11 := F11.binds (ps := p_exact) fun _ _ _ _ _ _ us hl => match us, hl with | [_, _], _ => rfl
  have F12 := fun_mk (st := s_content) l12 c12 k12
  have B12 := F12.binds (ps := p_content) fun _ _ _ _ _ _ us hl => match us, hl with | [_], _ => rfl
  have F13 := fun_mk (st := s_primitive) l13 c13 k13
  have B13 := F13.binds (ps := p_primitive) fun _ _ _ _ _ _ us hl => match us, hl with | [_], _ => rfl
  have F14 := fun_mk (st := s_line_plus) l14 c14 k14
  have B14 := F14.binds (ps := p_line_plus) fun _ _ _ _ _ _ us hl => match us, hl with | [_, _], _ => rfl
  have F15 := fun_mk (st := s_line_by) l15 c15 k15
  have B15 := F15.binds (ps := p_line_by) fun _ _ _ _ _ _ us hl => match us, hl with | [_, _], _ => rfl
  have F16 := fun_mk (st := s_line_quotient) l16 c16 k16
  have B16 := F16.binds (ps := p_line_quotient) fun _ _ _ _ _ _ us hl => match us, hl with | [_, _], _ => rfl
  have F17 := fun_mk (st := s_line_backwards) l17 c17 k17
  have B17 := F17.binds (ps := p_line_backwards) fun _ _ _ _ _ _ us hl => match us, hl with | [_], _ => rfl
  have F18 := fun_mk (st := s_one_less) l18 c18 k18
  have B18 := F18.binds (ps := p_one_less) fun _ _ _ _ _ _ us hl => match us, hl with | [_], _ => rfl
  have F19 := fun_mk (st := s_law_source) l19 c19 k19
  have B19 := F19.binds (ps := p_law_source) fun _ _ _ _ _ _ us hl => match us, hl with | [_, _], _ => rfl
  have F20 := fun_mk (st := s_law_any) l20 c20 k20
  have B20 := F20.binds (ps := p_law_any) fun _ _ _ _ _ _ us hl => match us, hl with | [_, _], _ => rfl
  have F21 := fun_mk (st := s_law_of) l21 c21 k21
  have B21 := F21.binds (ps := p_law_of) fun _ _ _ _ _ _ us hl => match us, hl with | [_, _], _ => rfl
  have F22 := fun_mk (st := s_law_near) l22 c22 k22
  have B22 := F22.binds (ps := p_law_near) fun _ _ _ _ _ _ us hl => match us, hl with | [_, _], _ => rfl
  have F23 := fun_mk (st := s_law_same) l23 c23 k23
  have B23 := F23.binds (ps := p_law_same) fun _ _ _ _ _ _ us hl => match us, hl with | [_, _], _ => rfl
  have F24 := fun_mk (st := s_law_common) l24 c24 k24
  have B24 := F24.binds (ps := p_law_common) fun _ _ _ _ _ _ us hl => match us, hl with | [_, _], _ => rfl
  have F25 := fun_mk (st := s_law_pair) l25 c25 k25
  have B25 := F25.binds (ps := p_law_pair) fun _ _ _ _ _ _ us hl => match us, hl with | [_, _], _ => rfl
  have F26 := fun_mk (st := s_law_part) l26 c26 k26
  have B26 := F26.binds (ps := p_law_part) fun _ _ _ _ _ _ us hl => match us, hl with | [_, _], _ => rfl
  have F27 := fun_mk (st := s_law_cut) l27 c27 k27
  have B27 := F27.binds (ps := p_law_cut) fun _ _ _ _ _ _ us hl => match us, hl with | [_], _ => rfl
  have F28 := fun_mk (st := s_law_line) l28 c28 k28
  have B28 := F28.binds (ps := p_law_line) fun _ _ _ _ _ _ us hl => match us, hl with | [_, _], _ => rfl
  have F29 := fun_mk (st := s_law_times) l29 c29 k29
  have B29 := F29.binds (ps := p_law_times) fun _ _ _ _ _ _ us hl => match us, hl with | [_, _], _ => rfl
  have F30 := fun_mk (st := s_law_sum) l30 c30 k30
  have B30 := F30.binds (ps := p_law_sum) fun _ _ _ _ _ _ us hl => match us, hl with | [_, _, _], _ => rfl
  have F31 := fun_mk (st := s_law_many) l31 c31 k31
  have B31 := F31.binds (ps := p_law_many) fun _ _ _ _ _ _ us hl => match us, hl with | [_, _], _ => rfl
  have F32 := fun_mk (st := s_law_whole) l32 c32 k32
  have B32 := F32.binds (ps := p_law_whole) fun _ _ _ _ _ _ us hl => match us, hl with | [_, _, _], _ => rfl
  have F33 := fun_mk (st := s_law_bottom) l33 c33 k33
  have B33 := F33.binds (ps := p_law_bottom) fun _ _ _ _ _ _ us hl => match us, hl with | [_, _], _ => rfl
  have F34 := fun_mk (st := s_law_told) l34 c34 k34
  have B34 := F34.binds (ps := p_law_told) fun _ _ _ _ _ _ us hl => match us, hl with | [_, _, _], _ => rfl
  have F35 := fun_mk (st := s_law_taken) l35 c35 k35
  have B35 := F35.binds (ps := p_law_taken) fun _ _ _ _ _ _ us hl => match us, hl with | [_], _ => rfl
  have F36 := fun_mk (st := s_law_sums) l36 c36 k36
  have B36 := F36.binds (ps := p_law_sums) fun _ _ _ _ _ _ us hl => match us, hl with | [_], _ => rfl
  have F37 := fun_mk (st := s_law_products) l37 c37 k37
  have B37 := F37.binds (ps := p_law_products) fun _ _ _ _ _ _ us hl => match us, hl with | [_], _ => rfl
  have F38 := fun_mk (st := s_law_alone) l38 c38 k38
  have B38 := F38.binds (ps := p_law_alone) fun _ _ _ _ _ _ us hl => match us, hl with | [_], _ => rfl
  have F39 := fun_mk (st := s_law_turned) l39 c39 k39
  have B39 := F39.binds (ps := p_law_turned) fun _ _ _ _ _ _ us hl => match us, hl with | [_], _ => rfl
  have F40 := fun_mk (st := s_law) l40 c40 k40
  have B40 := F40.binds (ps := p_law) fun _ _ _ _ _ _ us hl => match us, hl with | [_], _ => rfl
  have KB_line_of_numbers : KBinds K (PySem.W.fnOf "line_of" "line_of" (defArgs s_line_of) (defBody s_line_of) (defScope s_line_of) .none kV7 dc7 pm7 an7 cd7 ct7) p_line_of ["numbers"] kg_line_of_numbers kg_line_of_numbers := ⟨fun s us ws _ hl => by
    revert hl
    unfold kg_line_of_numbers
    split
    · exact fun _ => .of_eq rfl
    · exact fun z => absurd z (by decide), kr_line_of_numbers⟩
  have KB_line_plus_other_one : KBinds K (PySem.W.fnOf "line_plus" "line_plus" (defArgs s_line_plus) (defBody s_line_plus) (defScope s_line_plus) .none kV14 dc14 pm14 an14 cd14 ct14) p_line_plus ["other", "one"] kg_line_plus_other_one kg_line_plus_other_one := ⟨fun s us ws _ hl => by
    revert hl
    unfold kg_line_plus_other_one
    split
    · exact fun _ => .of_eq rfl
    · exact fun z => absurd z (by decide), kr_line_plus_other_one⟩
  have KB_line_by_one_other : KBinds K (PySem.W.fnOf "line_by" "line_by" (defArgs s_line_by) (defBody s_line_by) (defScope s_line_by) .none kV15 dc15 pm15 an15 cd15 ct15) p_line_by ["one", "other"] kg_line_by_one_other kg_line_by_one_other := ⟨fun s us ws _ hl => by
    revert hl
    unfold kg_line_by_one_other
    split
    · exact fun _ => .of_eq rfl
    · exact fun z => absurd z (by decide), kr_line_by_one_other⟩
  have KB_line_quotient_other_one : KBinds K (PySem.W.fnOf "line_quotient" "line_quotient" (defArgs s_line_quotient) (defBody s_line_quotient) (defScope s_line_quotient) .none kV16 dc16 pm16 an16 cd16 ct16) p_line_quotient ["other", "one"] kg_line_quotient_other_one kg_line_quotient_other_one := ⟨fun s us ws _ hl => by
    revert hl
    unfold kg_line_quotient_other_one
    split
    · exact fun _ => .of_eq rfl
    · exact fun z => absurd z (by decide), kr_line_quotient_other_one⟩
  have KB_line_backwards_line : KBinds K (PySem.W.fnOf "line_backwards" "line_backwards" (defArgs s_line_backwards) (defBody s_line_backwards) (defScope s_line_backwards) .none kV17 dc17 pm17 an17 cd17 ct17) p_line_backwards ["line"] kg_line_backwards_line kg_line_backwards_line := ⟨fun s us ws _ hl => by
    revert hl
    unfold kg_line_backwards_line
    split
    · exact fun _ => .of_eq rfl
    · exact fun z => absurd z (by decide), kr_line_backwards_line⟩
  have KB_one_less_number : KBinds K (PySem.W.fnOf "one_less" "one_less" (defArgs s_one_less) (defBody s_one_less) (defScope s_one_less) .none kV18 dc18 pm18 an18 cd18 ct18) p_one_less ["number"] kg_one_less_number kg_one_less_number := ⟨fun s us ws _ hl => by
    revert hl
    unfold kg_one_less_number
    split
    · exact fun _ => .of_eq rfl
    · exact fun z => absurd z (by decide), kr_one_less_number⟩
  exact ⟨PySem.W.fnOf "law" "law" (defArgs s_law) (defBody s_law) (defScope s_law) .none kV40 dc40 pm40 an40 cd40 ct40, fun s v => .of_eq rfl, fun base _ _ => ok_law ⟨
    _,
    _,
    F1,
    B1,
    PySem.W.mg_of X G a1,
    _,
    _,
    F2,
    B2,
    PySem.W.mg_of X G a2,
    _,
    _,
    F3,
    B3,
    PySem.W.mg_of X G a3,
    _,
    _,
    F4,
    B4,
    PySem.W.mg_of X G a4,
    _,
    _,
    F5,
    B5,
    PySem.W.mg_of X G a5,
    _,
    _,
    F6,
    B6,
    PySem.W.mg_of X G a6,
    _,
    _,
    F7,
    B7,
    PySem.W.mg_of X G a7,
    _,
    _,
    F8,
    B8,
    PySem.W.mg_of X G a8,
    _,
    _,
    F9,
    B9,
    PySem.W.mg_of X G a9,
    _,
    _,
    F10,
    B10,
    PySem.W.mg_of X G a10,
    _,
    _,
    F11,
    B11,
    PySem.W.mg_of X G a11,
    _,
    _,
    F12,
    B12,
    PySem.W.mg_of X G a12,
    _,
    _,
    F13,
    B13,
    PySem.W.mg_of X G a13,
    _,
    _,
    F14,
    B14,
    PySem.W.mg_of X G a14,
    _,
    _,
    F15,
    B15,
    PySem.W.mg_of X G a15,
    _,
    _,
    F16,
    B16,
    PySem.W.mg_of X G a16,
    _,
    _,
    F17,
    B17,
    PySem.W.mg_of X G a17,
    _,
    _,
    F18,
    B18,
    PySem.W.mg_of X G a18,
    _,
    _,
    F19,
    B19,
    PySem.W.mg_of X G a19,
    _,
    _,
    F20,
    B20,
    PySem.W.mg_of X G a20,
    _,
    _,
    F21,
    B21,
    PySem.W.mg_of X G a21,
    _,
    _,
    F22,
    B22,
    PySem.W.mg_of X G a22,
    _,
    _,
    F23,
    B23,
    PySem.W.mg_of X G a23,
    _,
    _,
    F24,
    B24,
    PySem.W.mg_of X G a24,
    _,
    _,
    F25,
    B25,
    PySem.W.mg_of X G a25,
    _,
    _,
    F26,
    B26,
    PySem.W.mg_of X G a26,
    _,
    _,
    F27,
    B27,
    PySem.W.mg_of X G a27,
    _,
    _,
    F28,
    B28,
    PySem.W.mg_of X G a28,
    _,
    _,
    F29,
    B29,
    PySem.W.mg_of X G a29,
    _,
    _,
    F30,
    B30,
    PySem.W.mg_of X G a30,
    _,
    _,
    F31,
    B31,
    PySem.W.mg_of X G a31,
    _,
    _,
    F32,
    B32,
    PySem.W.mg_of X G a32,
    _,
    _,
    F33,
    B33,
    PySem.W.mg_of X G a33,
    _,
    _,
    F34,
    B34,
    PySem.W.mg_of X G a34,
    _,
    _,
    F35,
    B35,
    PySem.W.mg_of X G a35,
    _,
    _,
    F36,
    B36,
    PySem.W.mg_of X G a36,
    _,
    _,
    F37,
    B37,
    PySem.W.mg_of X G a37,
    _,
    _,
    F38,
    B38,
    PySem.W.mg_of X G a38,
    _,
    _,
    F39,
    B39,
    PySem.W.mg_of X G a39,
    _,
    _,
    F40,
    B40,
    PySem.W.mg_of X G a40,
    KB_line_of_numbers,
    KB_line_plus_other_one,
    KB_line_by_one_other,
    KB_line_quotient_other_one,
    KB_line_backwards_line,
    KB_one_less_number,
    PySem.W.mg_none_of X G z_len,
    PySem.W.mg_none_of X G z_isinstance,
    PySem.W.mg_none_of X G z_int,
    PySem.W.mg_none_of X G z_tuple,
    PySem.W.mg_none_of X G z_max,
    PySem.W.mg_none_of X G z_enumerate,
    PySem.W.mg_none_of X G z_list,
    PySem.W.mg_none_of X G z_range,
    PySem.W.mg_none_of X G z_divmod,
    PySem.W.mg_none_of X G z_abs,
    PySem.W.mg_none_of X G z_bool,
    PySem.W.mg_none_of X G z_str,
    PySem.W.mg_none_of X G z_min,
    PySem.W.mg_of X G h_gcd⟩⟩
end Al
open PySem PySem.W PyProof.Rows
set_option maxRecDepth 100000 in
set_option maxHeartbeats 0 in
theorem PySem.Challenge.cw_allunmoved_k29_lines_put_together_and_ta_holds : PySem.Challenge.rw_allunmoved_k29_lines_put_together_and_ta.Holds := by
  w_on; o_law; k_head; (case hw => w_witness2)
  k_fill
  refine L2.walk_of (l := PySem.Challenge.rw_allunmoved_k29_lines_put_together_and_ta) (n := 63) (k := 8) (x := "script") (CX := fun _ => L2.CX0) (sp := fun w => Al.sp_law _) rfl (by decide) rfl ⟨rfl, by decide, by decide⟩ (fun w h Y => PySem.W.kIn_of Y) ?F (fun _ _ a ns hl _ hS => ⟨a, ns, rfl, hS, hl, fun _ => rfl⟩) (fun _ _ _ _ _ h => h)
  case F =>
    intro w mg fa h KX G hmg
    refine' Al.all_mk KX G hmg ?a1 ?l1 ?c1 ?k1 ?a2 ?l2 ?c2 ?k2 ?a3 ?l3 ?c3 ?k3 ?a4 ?l4 ?c4 ?k4 ?a5 ?l5 ?c5 ?k5 ?a6 ?l6 ?c6 ?k6 ?a7 ?l7 ?c7 ?k7 ?a8 ?l8 ?c8 ?k8 ?a9 ?l9 ?c9 ?k9 ?a10 ?l10 ?c10 ?k10 ?a11 ?l11 ?c11 ?k11 ?a12 ?l12 ?c12 ?k12 ?a13 ?l13 ?c13 ?k13 ?a14 ?l14 ?c14 ?k14 ?a15 ?l15 ?c15 ?k15 ?a16 ?l16 ?c16 ?k16 ?a17 ?l17 ?c17 ?k17 ?a18 ?l18 ?c18 ?k18 ?a19 ?l19 ?c19 ?k19 ?a20 ?l20 ?c20 ?k20 ?a21 ?l21 ?c21 ?k21 ?a22 ?l22 ?c22 ?k22 ?a23 ?l23 ?c23 ?k23 ?a24 ?l24 ?c24 ?k24 ?a25 ?l25 ?c25 ?k25 ?a26 ?l26 ?c26 ?k26 ?a27 ?l27 ?c27 ?k27 ?a28 ?l28 ?c28 ?k28 ?a29 ?l29 ?c29 ?k29 ?a30 ?l30 ?c30 ?k30 ?a31 ?l31 ?c31 ?k31 ?a32 ?l32 ?c32 ?k32 ?a33 ?l33 ?c33 ?k33 ?a34 ?l34 ?c34 ?k34 ?a35 ?l35 ?c35 ?k35 ?a36 ?l36 ?c36 ?k36 ?a37 ?l37 ?c37 ?k37 ?a38 ?l38 ?c38 ?k38 ?a39 ?l39 ?c39 ?k39 ?a40 ?l40 ?c40 ?k40 ?z_len ?z_isinstance ?z_int ?z_tuple ?z_max ?z_enumerate ?z_list ?z_range ?z_divmod ?z_abs ?z_bool ?z_str ?z_min ?h_gcd
    (case a1 => k_is)
    (case l1 => k_is)
    (case c1 => k_is)
    (case k1 => k_is)
    (case a2 => k_is)
    (case l2 => k_is)
    (case c2 => k_is)
    (case k2 => k_is)
    (case a3 => k_is)
    (case l3 => k_is)
    (case c3 => k_is)
    (case k3 => k_is)
    (case a4 => k_is)
    (case l4 => k_is)
    (case c4 => k_is)
    (case k4 => k_is)
    (case a5 => k_is)
    (case l5 => k_is)
    (case c5 => k_is)
    (case k5 => k_is)
    (case a6 => k_is)
    (case l6 => k_is)
    (case c6 => k_is)
    (case k6 => k_is)
    (case a7 => k_is)
    (case l7 => k_is)
    (case c7 => k_is)
    (case k7 => k_is)
    (case a8 => k_is)
    (case l8 => k_is)
    (case c8 => k_is)
    (case k8 => k_is)
    (case a9 => k_is)
    (case l9 => k_is)
    (case c9 => k_is)
    (case k9 => k_is)
    (case a10 => k_is)
    (case l10 => k_is)
    (case c10 => k_is)
    (case k10 => k_is)
    (case a11 => k_is)
    (case l11 => k_is)
    (case c11 => k_is)
    (case k11 => k_is)
    (case a12 => k_is)
    (case l12 => k_is)
    (case c12 => k_is)
    (case k12 => k_is)
    (case a13 => k_is)
    (case l13 => k_is)
    (case c13 => k_is)
    (case k13 => k_is)
    (case a14 => k_is)
    (case l14 => k_is)
    (case c14 => k_is)
    (case k14 => k_is)
    (case a15 => k_is)
    (case l15 => k_is)
    (case c15 => k_is)
    (case k15 => k_is)
    (case a16 => k_is)
    (case l16 => k_is)
    (case c16 => k_is)
    (case k16 => k_is)
    (case a17 => k_is)
    (case l17 => k_is)
    (case c17 => k_is)
    (case k17 => k_is)
    (case a18 => k_is)
    (case l18 => k_is)
    (case c18 => k_is)
    (case k18 => k_is)
    (case a19 => k_is)
    (case l19 => k_is)
    (case c19 => k_is)
    (case k19 => k_is)
    (case a20 => k_is)
    (case l20 => k_is)
    (case c20 => k_is)
    (case k20 => k_is)
    (case a21 => k_is)
    (case l21 => k_is)
    (case c21 => k_is)
    (case k21 => k_is)
    (case a22 => k_is)
    (case l22 => k_is)
    (case c22 => k_is)
    (case k22 => k_is)
    (case a23 => k_is)
    (case l23 => k_is)
    (case c23 => k_is)
    (case k23 => k_is)
    (case a24 => k_is)
    (case l24 => k_is)
    (case c24 => k_is)
    (case k24 => k_is)
    (case a25 => k_is)
    (case l25 => k_is)
    (case c25 => k_is)
    (case k25 => k_is)
    (case a26 => k_is)
    (case l26 => k_is)
    (case c26 => k_is)
    (case k26 => k_is)
    (case a27 => k_is)
    (case l27 => k_is)
    (case c27 => k_is)
    (case k27 => k_is)
    (case a28 => k_is)
    (case l28 => k_is)
    (case c28 => k_is)
    (case k28 => k_is)
    (case a29 => k_is)
    (case l29 => k_is)
    (case c29 => k_is)
    (case k29 => k_is)
    (case a30 => k_is)
    (case l30 => k_is)
    (case c30 => k_is)
    (case k30 => k_is)
    (case a31 => k_is)
    (case l31 => k_is)
    (case c31 => k_is)
    (case k31 => k_is)
    (case a32 => k_is)
    (case l32 => k_is)
    (case c32 => k_is)
    (case k32 => k_is)
    (case a33 => k_is)
    (case l33 => k_is)
    (case c33 => k_is)
    (case k33 => k_is)
    (case a34 => k_is)
    (case l34 => k_is)
    (case c34 => k_is)
    (case k34 => k_is)
    (case a35 => k_is)
    (case l35 => k_is)
    (case c35 => k_is)
    (case k35 => k_is)
    (case a36 => k_is)
    (case l36 => k_is)
    (case c36 => k_is)
    (case k36 => k_is)
    (case a37 => k_is)
    (case l37 => k_is)
    (case c37 => k_is)
    (case k37 => k_is)
    (case a38 => k_is)
    (case l38 => k_is)
    (case c38 => k_is)
    (case k38 => k_is)
    (case a39 => k_is)
    (case l39 => k_is)
    (case c39 => k_is)
    (case k39 => k_is)
    (case a40 => k_is)
    (case l40 => k_is)
    (case c40 => k_is)
    (case k40 => k_is)
    (case z_len => k_is)
    (case z_isinstance => k_is)
    (case z_int => k_is)
    (case z_tuple => k_is)
    (case z_max => k_is)
    (case z_enumerate => k_is)
    (case z_list => k_is)
    (case z_range => k_is)
    (case z_divmod => k_is)
    (case z_abs => k_is)
    (case z_bool => k_is)
    (case z_str => k_is)
    (case z_min => k_is)
    (case h_gcd => k_is)
#print axioms PySem.Challenge.cw_allunmoved_k29_lines_put_together_and_ta_holds
